import PyProof.Rows.All
import Wide.All
import OpenK.AllK
import Wide.FinOn
import HandS.ForMost
import HandS.More
import HandS.Conv
import HandS.Evl
import HandS.SortInts
import KE.SortData
import KE.OsSortAny
import PySem.Challenge.RW_pressluck_k27_whole_parts_and_reached
set_option Elab.async false
set_option linter.all false
set_option maxRecDepth 100000
set_option maxHeartbeats 4000000
namespace Pk
open Classical

/-- a place, by where its ways lead -/
inductive Pl where
  | fin | pick (gs : List Nat) | throw (gs : List Nat)
def Pl.gs : Pl → List Nat
  | .fin => []
  | .pick g => g
  | .throw g => g
def Pl.ren (nm : Nat → Nat) : Pl → Pl
  | .fin => .fin
  | .pick g => .pick (g.map nm)
  | .throw g => .throw (g.map nm)
theorem Pl.gs_ren (nm : Nat → Nat) (p : Pl) : (p.ren nm).gs = p.gs.map nm := by cases p <;> rfl

def goals (B : List Pl) (a : Nat) : List Nat := match B[a]? with
  | some p => p.gs
  | none => []
theorem goals_of {B : List Pl} {a : Nat} {p : Pl} (h : B[a]? = some p) : goals B a = p.gs := by unfold goals; rw [h]
/-- a board: at most 24 places, 100 ways each, that lead to places -/
structure Wf (B : List Pl) : Prop where
  len : B.length ≤ 24
  pl : ∀ a g, g ∈ goals B a → g < B.length
  ways : ∀ a, (goals B a).length ≤ 100

inductive Reach (B : List Pl) : Nat → Nat → Prop where
  | refl (a : Nat) : Reach B a a
  | step {a b c : Nat} : Reach B a b → c ∈ goals B b → Reach B a c
theorem Reach.trans {B : List Pl} {a b c : Nat} (h : Reach B a b) (k : Reach B b c) : Reach B a c := by
  induction k with
  | refl => exact h
  | step _ m ih => exact .step ih m
theorem Reach.lt {B : List Pl} (W : Wf B) {a b : Nat} (ha : a < B.length) (h : Reach B a b) : b < B.length := by
  induction h with
  | refl => exact ha
  | step _ m _ => exact W.pl _ _ m

/-- the places reached, rising -/
noncomputable def rl (B : List Pl) (a : Nat) : List Nat := (List.range B.length).filter fun g => decide (Reach B a g)
/-- the part of a place, rising -/
noncomputable def mates (B : List Pl) (a : Nat) : List Nat := (List.range B.length).filter fun g => decide (Reach B a g ∧ Reach B g a)

theorem range_lt (n : Nat) : (List.range n).Pairwise (· < ·) := List.pairwise_lt_range
theorem rl_lt (B : List Pl) (a : Nat) : (rl B a).Pairwise (· < ·) := (range_lt _).filter _
theorem mates_lt (B : List Pl) (a : Nat) : (mates B a).Pairwise (· < ·) := (range_lt _).filter _
theorem nodup_of_lt {l : List Nat} (h : l.Pairwise (· < ·)) : l.Nodup := h.imp fun h => Nat.ne_of_lt h
theorem rl_nd (B : List Pl) (a : Nat) : (rl B a).Nodup := nodup_of_lt (rl_lt B a)
theorem mates_nd (B : List Pl) (a : Nat) : (mates B a).Nodup := nodup_of_lt (mates_lt B a)
theorem mem_rl {B : List Pl} {a g : Nat} : g ∈ rl B a ↔ g < B.length ∧ Reach B a g := by
  unfold rl
  rw [List.mem_filter, List.mem_range, decide_eq_true_iff]
theorem mem_mates {B : List Pl} {a g : Nat} : g ∈ mates B a ↔ g < B.length ∧ Reach B a g ∧ Reach B g a := by
  unfold mates
  rw [List.mem_filter, List.mem_range, decide_eq_true_iff]
theorem mem_rl' {B : List Pl} (W : Wf B) {a g : Nat} (ha : a < B.length) : g ∈ rl B a ↔ Reach B a g :=
  mem_rl.trans ⟨fun h => h.2, fun h => ⟨h.lt W ha, h⟩⟩
theorem rl_len (B : List Pl) (a : Nat) : (rl B a).length ≤ B.length := by
  have h := List.length_filter_le (fun g => decide (Reach B a g)) (List.range B.length)
  rw [List.length_range] at h
  exact h
theorem mates_len (B : List Pl) (a : Nat) : (mates B a).length ≤ B.length := by
  have h := List.length_filter_le (fun g => decide (Reach B a g ∧ Reach B g a)) (List.range B.length)
  rw [List.length_range] at h
  exact h

/-! ### lists of numbers, rising -/
theorem lt_uniq : ∀ {l m : List Nat}, l.Pairwise (· < ·) → m.Pairwise (· < ·) → (∀ g, g ∈ l ↔ g ∈ m) → l = m
  | [], [], _, _, _ => rfl
  | [], y :: m, _, _, h => absurd ((h y).mpr List.mem_cons_self) (by simp)
  | x :: l, [], _, _, h => absurd ((h x).mp List.mem_cons_self) (by simp)
  | x :: l, y :: m, hl, hm, h => by
    have hl' := List.pairwise_cons.mp hl
    have hm' := List.pairwise_cons.mp hm
    have e : x = y := by
      rcases List.mem_cons.mp ((h x).mp List.mem_cons_self) with e | e
      · exact e
      · rcases List.mem_cons.mp ((h y).mpr List.mem_cons_self) with e' | e'
        · exact e'.symm
        · have a := hl'.1 y e'
          have b := hm'.1 x e
          omega
    subst e
    have t : l = m := lt_uniq hl'.2 hm'.2 fun g => by
      constructor
      · intro hg
        rcases List.mem_cons.mp ((h g).mp (List.mem_cons_of_mem _ hg)) with e | e
        · have := hl'.1 g hg
          omega
        · exact e
      · intro hg
        rcases List.mem_cons.mp ((h g).mpr (List.mem_cons_of_mem _ hg)) with e | e
        · have := hm'.1 g hg
          omega
        · exact e
    rw [t]
theorem lt_of_le_nd {l : List Nat} (h : l.Pairwise (· ≤ ·)) (n : l.Nodup) : l.Pairwise (· < ·) := by
  induction l with
  | nil => exact .nil
  | cons x l ih =>
    rw [List.pairwise_cons] at h ⊢
    rw [List.nodup_cons] at n
    refine ⟨fun y hy => ?_, ih h.2 n.2⟩
    have := h.1 y hy
    rcases Nat.lt_or_eq_of_le this with z | z
    · exact z
    · subst z
      exact absurd hy n.1
def up (l : List Nat) : List Int := l.map fun n : Nat => (n : Int)
theorem mem_up {l : List Nat} {z : Int} : z ∈ up l ↔ ∃ n, n ∈ l ∧ z = (n : Int) := by
  unfold up
  rw [List.mem_map]
  exact ⟨fun ⟨n, a, b⟩ => ⟨n, a, b.symm⟩, fun ⟨n, a, b⟩ => ⟨n, a, b.symm⟩⟩
theorem up_len (l : List Nat) : (up l).length = l.length := List.length_map _
/-- what sorted gives of numbers that are all different: the rising list of the same -/
theorem sorted_is {ys : List Int} {ks m : List Nat} (hp : ys.Perm (up ks)) (hs : ys.Pairwise (· ≤ ·)) (hn : ks.Nodup) (hm : m.Pairwise (· < ·)) (hmem : ∀ g, g ∈ ks ↔ g ∈ m) : ys = up m := by
  have h0 : ∀ z ∈ ys, z = ((z.toNat : Nat) : Int) := fun z hz => by
    obtain ⟨n, _, e⟩ := mem_up.mp (hp.mem_iff.mp hz)
    subst e
    rfl
  have e1 : ys = up (ys.map Int.toNat) := by
    unfold up
    rw [List.map_map]
    have : ys.map id = ys.map ((fun n : Nat => (n : Int)) ∘ Int.toNat) := List.map_congr_left fun z hz => h0 z hz
    rw [List.map_id] at this
    exact this
  have p1 : (ys.map Int.toNat).Perm ks := by
    have := hp.map Int.toNat
    unfold up at this
    rw [List.map_map] at this
    have e : ks.map (Int.toNat ∘ fun n : Nat => (n : Int)) = ks := by
      have : ks.map (Int.toNat ∘ fun n : Nat => (n : Int)) = ks.map id := List.map_congr_left fun _ _ => rfl
      rw [this, List.map_id]
    rw [e] at this
    exact this
  have s1 : (ys.map Int.toNat).Pairwise (· ≤ ·) := by
    rw [List.pairwise_map]
    exact hs.imp fun h => by omega
  have e2 : ys.map Int.toNat = m := lt_uniq (lt_of_le_nd s1 (p1.nodup_iff.mpr hn)) hm fun g => p1.mem_iff.trans (hmem g)
  rw [e1, e2]

/-! ### what is reached, by going on -/
theorem closed_reach {B : List Pl} {a : Nat} {ks : List Nat} (h0 : a ∈ ks) (hc : ∀ k ∈ ks, ∀ g ∈ goals B k, g ∈ ks) {g : Nat} (r : Reach B a g) : g ∈ ks := by
  induction r with
  | refl => exact h0
  | step _ m ih => exact hc _ ih _ m
theorem found_all {B : List Pl} (W : Wf B) {a : Nat} (ha : a < B.length) {ks : List Nat} (h0 : a ∈ ks) (hr : ∀ k ∈ ks, Reach B a k) (hc : ∀ k ∈ ks, ∀ g ∈ goals B k, g ∈ ks) (g : Nat) : g ∈ ks ↔ g ∈ rl B a :=
  ⟨fun h => (mem_rl' W ha).mpr (hr g h), fun h => closed_reach h0 hc (mem_rl.mp h).2⟩
theorem nd_len {n : Nat} {ks : List Nat} (hn : ks.Nodup) (h : ∀ k ∈ ks, k < n) : ks.length ≤ n := by
  have := List.Nodup.length_le_of_subset hn (l₂ := List.range n) fun k hk => List.mem_range.mpr (h k hk)
  rw [List.length_range] at this
  exact this

/-! ### parts -/
theorem mates_eq {B : List Pl} {a b : Nat} (h1 : Reach B a b) (h2 : Reach B b a) : mates B a = mates B b :=
  lt_uniq (mates_lt B a) (mates_lt B b) fun g => by
    rw [mem_mates, mem_mates]
    exact ⟨fun ⟨l, x, y⟩ => ⟨l, h2.trans x, y.trans h1⟩, fun ⟨l, x, y⟩ => ⟨l, h1.trans x, y.trans h2⟩⟩
theorem self_mates {B : List Pl} {a : Nat} (h : a < B.length) : a ∈ mates B a := mem_mates.mpr ⟨h, .refl a, .refl a⟩
def Rep (B : List Pl) (a : Nat) : Prop := a < B.length ∧ ∀ g ∈ mates B a, a ≤ g
noncomputable def reps (B : List Pl) : List Nat := (List.range B.length).filter fun a => decide (Rep B a)
theorem mem_reps {B : List Pl} {a : Nat} : a ∈ reps B ↔ Rep B a := by
  unfold reps
  rw [List.mem_filter, List.mem_range, decide_eq_true_iff]
  exact ⟨fun h => h.2, fun h => ⟨h.1, h⟩⟩
theorem reps_nd (B : List Pl) : (reps B).Nodup := nodup_of_lt ((range_lt _).filter _)
theorem rep_of {B : List Pl} : ∀ {k a : Nat}, a ≤ k → a < B.length → ∃ r, Rep B r ∧ a ∈ mates B r
  | 0, a, h, ha => ⟨a, ⟨ha, fun g _ => by omega⟩, self_mates ha⟩
  | k + 1, a, h, ha => by
    by_cases hr : ∀ g ∈ mates B a, a ≤ g
    · exact ⟨a, ⟨ha, hr⟩, self_mates ha⟩
    · have ⟨g, hg⟩ := Classical.not_forall.mp hr
      have ⟨hm, hl⟩ := Classical.not_imp.mp hg
      obtain ⟨hgl, r1, r2⟩ := mem_mates.mp hm
      obtain ⟨r, hR, hgr⟩ := rep_of (k := k) (a := g) (by omega) hgl
      obtain ⟨_, q1, q2⟩ := mem_mates.mp hgr
      exact ⟨r, hR, mem_mates.mpr ⟨ha, q1.trans r2, r1.trans q2⟩⟩
theorem rep_one {B : List Pl} {r s a : Nat} (hr : Rep B r) (hs : Rep B s) (h1 : a ∈ mates B r) (h2 : a ∈ mates B s) : r = s := by
  obtain ⟨_, a1, a2⟩ := mem_mates.mp h1
  obtain ⟨_, b1, b2⟩ := mem_mates.mp h2
  have e1 := hr.2 s (mem_mates.mpr ⟨hs.1, a1.trans b2, b1.trans a2⟩)
  have e2 := hs.2 r (mem_mates.mpr ⟨hr.1, b1.trans a2, a1.trans b2⟩)
  omega

/-- what parts tells -/
structure Told (B : List Pl) (T : List (List Nat)) (rs : List Nat) : Prop where
  eq : T = rs.map (mates B)
  pm : rs.Perm (reps B)
  up : rs.Pairwise fun r s => (rl B r).length ≤ (rl B s).length

section
variable {B : List Pl} {T : List (List Nat)} {rs : List Nat}
theorem Told.rep (H : Told B T rs) {k r : Nat} (h : rs[k]? = some r) : Rep B r :=
  mem_reps.mp (H.pm.mem_iff.mp (List.mem_of_getElem? h))
theorem Told.nd (H : Told B T rs) : rs.Nodup := H.pm.nodup_iff.mpr (reps_nd B)
theorem Told.at (H : Told B T rs) (k : Nat) : T[k]? = (rs[k]?).map (mates B) := by rw [H.eq, List.getElem?_map]
theorem Told.len (H : Told B T rs) : T.length ≤ B.length := by
  rw [H.eq, List.length_map]
  exact nd_len H.nd fun k hk => (mem_reps.mp (H.pm.mem_iff.mp hk)).1
theorem nd_at {α : Type} {l : List α} (hN : l.Nodup) {i j : Nat} {x : α} (a : l[i]? = some x) (b : l[j]? = some x) : i = j := by
  obtain ⟨h1, e1⟩ := List.getElem?_eq_some_iff.mp a
  obtain ⟨h2, e2⟩ := List.getElem?_eq_some_iff.mp b
  exact (List.getElem_inj hN).mp (e1.trans e2.symm)
/-- each place is in just one part -/
theorem Told.one (H : Told B T rs) {i j a : Nat} {s t : List Nat} (hi : T[i]? = some s) (hj : T[j]? = some t) (h1 : a ∈ s) (h2 : a ∈ t) : i = j := by
  rw [H.at] at hi hj
  obtain ⟨r, e1, rfl⟩ := Option.map_eq_some_iff.mp hi
  obtain ⟨q, e2, rfl⟩ := Option.map_eq_some_iff.mp hj
  have e := rep_one (H.rep e1) (H.rep e2) h1 h2
  subst e
  exact nd_at H.nd e1 e2
theorem Told.has (H : Told B T rs) {a : Nat} (ha : a < B.length) : ∃ (k r : Nat), rs[k]? = some r ∧ T[k]? = some (mates B r) ∧ a ∈ mates B r := by
  obtain ⟨r, hR, hm⟩ := rep_of (Nat.le_refl a) ha
  obtain ⟨k, hk⟩ := List.getElem?_of_mem (H.pm.mem_iff.mpr (mem_reps.mpr hR))
  exact ⟨k, r, hk, by rw [H.at, hk]; rfl, hm⟩
/-- the part of a place -/
theorem Told.part (H : Told B T rs) {k a : Nat} {s : List Nat} (hk : T[k]? = some s) (h : a ∈ s) : s = mates B a := by
  rw [H.at] at hk
  obtain ⟨r, e1, rfl⟩ := Option.map_eq_some_iff.mp hk
  obtain ⟨_, x, y⟩ := mem_mates.mp h
  exact mates_eq x y
theorem Told.same (H : Told B T rs) {i j a b : Nat} {s t : List Nat} (hi : T[i]? = some s) (hj : T[j]? = some t) (h1 : a ∈ s) (h2 : b ∈ t) : i = j ↔ Reach B a b ∧ Reach B b a := by
  have ea := H.part hi h1
  have eb := H.part hj h2
  constructor
  · intro e
    subst e
    rw [hi] at hj
    cases hj
    rw [ea] at h2
    exact (mem_mates.mp h2).2
  · intro ⟨x, y⟩
    have e := mates_eq x y
    refine H.one hi hj h1 ?_
    rw [eb, ← e, ← ea]
    exact h1
theorem filter_len {p q : Nat → Bool} (h : ∀ x, p x = true → q x = true) (l : List Nat) : (l.filter p).length ≤ (l.filter q).length := by
  induction l with
  | nil => exact Nat.le_refl _
  | cons x l ih =>
    rw [List.filter_cons, List.filter_cons]
    by_cases hp : p x = true
    · rw [if_pos hp, if_pos (h x hp)]
      exact Nat.succ_le_succ ih
    · rw [if_neg hp]
      split
      · exact Nat.le_succ_of_le ih
      · exact ih
theorem filter_len_lt {p q : Nat → Bool} (h : ∀ x, p x = true → q x = true) : ∀ {l : List Nat} {z : Nat}, z ∈ l → q z = true → p z = false → (l.filter p).length < (l.filter q).length
  | x :: l, z, hz, hq, hp => by
    rw [List.filter_cons, List.filter_cons]
    rcases List.mem_cons.mp hz with e | e
    · subst e
      rw [if_pos hq, if_neg (by rw [hp]; decide)]
      exact Nat.lt_succ_of_le (filter_len h l)
    · have ih := filter_len_lt h e hq hp
      by_cases hp' : p x = true
      · rw [if_pos hp', if_pos (h x hp')]
        exact Nat.succ_lt_succ ih
      · rw [if_neg hp']
        split
        · exact Nat.lt_succ_of_lt ih
        · exact ih
theorem rl_le {a b : Nat} (h : Reach B a b) : (rl B b).length ≤ (rl B a).length :=
  filter_len (fun x hx => decide_eq_true (h.trans (of_decide_eq_true hx))) _
theorem rl_less {a b : Nat} (ha : a < B.length) (h : Reach B a b) (n : ¬ Reach B b a) : (rl B b).length < (rl B a).length :=
  filter_len_lt (fun x hx => decide_eq_true (h.trans (of_decide_eq_true hx))) (List.mem_range.mpr ha) (decide_eq_true (.refl a)) (decide_eq_false n)
theorem rl_eq {a b : Nat} (h1 : Reach B a b) (h2 : Reach B b a) : (rl B a).length = (rl B b).length := Nat.le_antisymm (rl_le h2) (rl_le h1)
/-- what is reached stands no later -/
theorem Told.before (H : Told B T rs) {i j a b : Nat} {s t : List Nat} (hi : T[i]? = some s) (hj : T[j]? = some t) (h1 : a ∈ s) (h2 : b ∈ t) (r : Reach B a b) : j ≤ i := by
  by_cases c : Reach B b a
  · exact Nat.le_of_eq ((H.same hj hi h2 h1).mpr ⟨c, r⟩)
  · rw [H.at] at hi hj
    obtain ⟨x, e1, rfl⟩ := Option.map_eq_some_iff.mp hi
    obtain ⟨y, e2, rfl⟩ := Option.map_eq_some_iff.mp hj
    obtain ⟨la, a1, a2⟩ := mem_mates.mp h1
    obtain ⟨_, b1, b2⟩ := mem_mates.mp h2
    have l1 := rl_less la r c
    have l2 := rl_eq a1 a2
    have l3 := rl_eq b1 b2
    apply Classical.byContradiction
    intro hlt
    have hlt : i < j := by omega
    obtain ⟨hi', ei⟩ := List.getElem?_eq_some_iff.mp e1
    obtain ⟨hj', ej⟩ := List.getElem?_eq_some_iff.mp e2
    have := (List.pairwise_iff_getElem.mp H.up) i j hi' hj' hlt
    rw [ei, ej] at this
    omega
theorem reach_end {a b : Nat} (h : goals B a = []) (r : Reach B a b) : b = a := by
  induction r with
  | refl => rfl
  | step _ m ih =>
    rw [ih, h] at m
    cases m
theorem mates_end {a : Nat} (ha : a < B.length) (h : goals B a = []) : mates B a = [a] :=
  lt_uniq (mates_lt B a) (List.pairwise_singleton _ _) fun g => by
    rw [mem_mates, List.mem_singleton]
    constructor
    · intro ⟨_, x, _⟩
      exact reach_end h x
    · intro e
      subst e
      exact ⟨ha, .refl _, .refl _⟩
end

/-! ### the numbers of the parts -/
def numL : Nat → List (List Nat) → List (Nat × Nat)
  | _, [] => []
  | k, p :: T => p.map (fun x => (x, k)) ++ numL (k + 1) T
theorem numL_keys : ∀ (k : Nat) (T : List (List Nat)), (numL k T).map (·.1) = T.flatten
  | _, [] => rfl
  | k, p :: T => by
    unfold numL
    rw [List.map_append, numL_keys (k + 1) T, List.map_map, List.flatten_cons]
    have : p.map ((fun q : Nat × Nat => q.1) ∘ fun x => (x, k)) = p.map id := List.map_congr_left fun _ _ => rfl
    rw [this, List.map_id]
theorem numL_mem : ∀ {k : Nat} {T : List (List Nat)} {a j : Nat}, (a, j) ∈ numL k T ↔ ∃ i s, j = k + i ∧ T[i]? = some s ∧ a ∈ s
  | _, [], _, _ => by
    constructor
    · intro h
      cases h
    · rintro ⟨_, _, _, h, _⟩
      simp at h
  | k, p :: T, a, j => by
    unfold numL
    rw [List.mem_append, numL_mem (k := k + 1) (T := T), List.mem_map]
    constructor
    · rintro (⟨x, hx, e⟩ | ⟨i, s, e, h, m⟩)
      · cases e
        exact ⟨0, p, rfl, rfl, hx⟩
      · exact ⟨i + 1, s, by omega, by simpa using h, m⟩
    · rintro ⟨i, s, e, h, m⟩
      cases i with
      | zero =>
        have e2 : p = s := by simpa using h
        subst e2
        exact .inl ⟨a, m, by rw [e]; rfl⟩
      | succ i => exact .inr ⟨i, s, by omega, by simpa using h, m⟩
theorem numL_snoc : ∀ (k : Nat) (T : List (List Nat)) (p : List Nat), numL k (T ++ [p]) = numL k T ++ p.map (fun x => (x, k + T.length))
  | k, [], p => by
    show p.map (fun x => (x, k)) ++ [] = [] ++ p.map (fun x => (x, k + 0))
    rw [List.append_nil, List.nil_append]
    rfl
  | k, q :: T, p => by
    show q.map _ ++ numL (k + 1) (T ++ [p]) = (q.map _ ++ numL (k + 1) T) ++ _
    rw [numL_snoc (k + 1) T p, List.append_assoc, List.length_cons]
    have : k + 1 + T.length = k + (T.length + 1) := by omega
    rw [this]
theorem Told.flat_nd {B : List Pl} {T : List (List Nat)} {rs : List Nat} (H : Told B T rs) : T.flatten.Nodup := by
  unfold List.Nodup
  rw [List.pairwise_flatten]
  constructor
  · intro s hs
    rw [H.eq] at hs
    obtain ⟨r, _, rfl⟩ := List.mem_map.mp hs
    exact mates_nd B r
  · rw [H.eq, List.pairwise_map]
    refine H.nd.imp_of_mem fun {r s} hr hs ne a ha b hb e => ne ?_
    subst e
    exact rep_one (mem_reps.mp (H.pm.mem_iff.mp hr)) (mem_reps.mp (H.pm.mem_iff.mp hs)) ha hb
theorem Told.flat_mem {B : List Pl} {T : List (List Nat)} {rs : List Nat} (H : Told B T rs) {a : Nat} : a ∈ T.flatten ↔ a < B.length := by
  rw [List.mem_flatten]
  constructor
  · rintro ⟨s, hs, ha⟩
    rw [H.eq] at hs
    obtain ⟨r, _, rfl⟩ := List.mem_map.mp hs
    exact (mem_mates.mp ha).1
  · intro ha
    obtain ⟨k, r, _, e, m⟩ := H.has ha
    exact ⟨_, List.mem_of_getElem? e, m⟩

/-! ### numbered anew -/
/-- f is a numbering of n places -/
structure Num (n : Nat) (f : Nat → Nat) : Prop where
  lt : ∀ a, a < n → f a < n
  inj : ∀ a b, a < n → b < n → f a = f b → a = b
  onto : ∀ b, b < n → ∃ a, a < n ∧ f a = b
structure Ren (B C : List Pl) (f : Nat → Nat) : Prop where
  num : Num B.length f
  len : C.length = B.length
  gs : ∀ a, a < B.length → goals C (f a) = (goals B a).map f
section
variable {B C : List Pl} {f : Nat → Nat}
theorem Ren.wf (R : Ren B C f) (W : Wf B) : Wf C := by
  refine ⟨by rw [R.len]; exact W.len, fun c g hg => ?_, fun c => ?_⟩
  · by_cases hc : c < C.length
    · rw [R.len] at hc ⊢
      obtain ⟨a, ha, rfl⟩ := R.num.onto c hc
      rw [R.gs a ha] at hg
      obtain ⟨x, hx, rfl⟩ := List.mem_map.mp hg
      exact R.num.lt x (W.pl _ _ hx)
    · unfold goals at hg
      rw [List.getElem?_eq_none (by omega)] at hg
      cases hg
  · by_cases hc : c < C.length
    · rw [R.len] at hc
      obtain ⟨a, ha, rfl⟩ := R.num.onto c hc
      rw [R.gs a ha, List.length_map]
      exact W.ways a
    · unfold goals
      rw [List.getElem?_eq_none (by omega)]
      exact Nat.zero_le _
theorem Ren.to (R : Ren B C f) (W : Wf B) {a b : Nat} (ha : a < B.length) (h : Reach B a b) : Reach C (f a) (f b) := by
  induction h with
  | refl => exact .refl _
  | @step b c h m ih =>
    refine .step ih ?_
    rw [R.gs b (h.lt W ha)]
    exact List.mem_map.mpr ⟨c, m, rfl⟩
theorem Ren.fro (R : Ren B C f) (W : Wf B) {a d : Nat} (ha : a < B.length) (h : Reach C (f a) d) : ∃ b, b < B.length ∧ d = f b ∧ Reach B a b := by
  induction h with
  | refl => exact ⟨a, ha, rfl, .refl a⟩
  | @step y z h m ih =>
    obtain ⟨b, hb, rfl, r⟩ := ih
    rw [R.gs b hb] at m
    obtain ⟨c, hc, rfl⟩ := List.mem_map.mp m
    exact ⟨c, W.pl _ _ hc, rfl, .step r hc⟩
theorem Ren.iff (R : Ren B C f) (W : Wf B) {a b : Nat} (ha : a < B.length) (hb : b < B.length) : Reach C (f a) (f b) ↔ Reach B a b := by
  constructor
  · intro h
    obtain ⟨c, hc, e, r⟩ := R.fro W ha h
    rw [R.num.inj b c hb hc e]
    exact r
  · exact R.to W ha
theorem Ren.rl (R : Ren B C f) (W : Wf B) {a : Nat} (ha : a < B.length) (g : Nat) : g ∈ (rl B a).map f ↔ g ∈ Pk.rl C (f a) := by
  rw [List.mem_map, mem_rl, R.len]
  constructor
  · rintro ⟨b, hb, rfl⟩
    obtain ⟨hl, r⟩ := mem_rl.mp hb
    exact ⟨R.num.lt b hl, R.to W ha r⟩
  · rintro ⟨hl, r⟩
    obtain ⟨b, hb, e, r'⟩ := R.fro W ha r
    exact ⟨b, mem_rl.mpr ⟨hb, r'⟩, e.symm⟩
theorem Ren.mates (R : Ren B C f) (W : Wf B) {a : Nat} (ha : a < B.length) (g : Nat) : g ∈ (mates B a).map f ↔ g ∈ Pk.mates C (f a) := by
  rw [List.mem_map, mem_mates, R.len]
  constructor
  · rintro ⟨b, hb, rfl⟩
    obtain ⟨hl, r, q⟩ := mem_mates.mp hb
    exact ⟨R.num.lt b hl, R.to W ha r, R.to W hl q⟩
  · rintro ⟨hl, r, q⟩
    obtain ⟨b, hb, rfl⟩ := R.num.onto g hl
    exact ⟨b, mem_mates.mpr ⟨hb, (R.iff W ha hb).mp r, (R.iff W hb ha).mp q⟩, rfl⟩
theorem map_nd {l : List Nat} {n : Nat} (N : Num n f) (h : l.Nodup) (hl : ∀ a ∈ l, a < n) : (l.map f).Nodup := by
  unfold List.Nodup
  rw [List.pairwise_map]
  exact h.imp_of_mem fun {a b} ha hb ne e => ne (N.inj a b (hl a ha) (hl b hb) e)
/-- the parts of the board numbered anew are the parts numbered anew -/
theorem Ren.parts (R : Ren B C f) (W : Wf B) {T T' : List (List Nat)} {rs rs' : List Nat} (H : Told B T rs) (H' : Told C T' rs') : T'.Perm (rs.map fun r => Pk.mates C (f r)) := by
  have lt : ∀ r ∈ rs, Rep B r := fun r hr => mem_reps.mp (H.pm.mem_iff.mp hr)
  have lt' : ∀ r ∈ rs', Rep C r := fun r hr => mem_reps.mp (H'.pm.mem_iff.mp hr)
  refine (List.perm_ext_iff_of_nodup ?_ ?_).mpr fun s => ?_
  · rw [H'.eq]
    unfold List.Nodup
    rw [List.pairwise_map]
    refine H'.nd.imp_of_mem fun {r s} hr hs ne e => ne ?_
    exact rep_one (lt' r hr) (lt' s hs) (self_mates (lt' r hr).1) (by rw [← e]; exact self_mates (lt' r hr).1)
  · unfold List.Nodup
    rw [List.pairwise_map]
    refine H.nd.imp_of_mem fun {r s} hr hs ne e => ne ?_
    have m : f r ∈ Pk.mates C (f s) := by
      rw [← e]
      exact self_mates (by rw [R.len]; exact R.num.lt r (lt r hr).1)
    obtain ⟨_, x, y⟩ := mem_mates.mp m
    have q : r ∈ Pk.mates B s := mem_mates.mpr ⟨(lt r hr).1, (R.iff W (lt s hs).1 (lt r hr).1).mp x, (R.iff W (lt r hr).1 (lt s hs).1).mp y⟩
    exact rep_one (lt r hr) (lt s hs) (self_mates (lt r hr).1) q
  · rw [H'.eq, List.mem_map, List.mem_map]
    constructor
    · rintro ⟨c, hc, rfl⟩
      have hl := (lt' c hc).1
      rw [R.len] at hl
      obtain ⟨a, ha, rfl⟩ := R.num.onto c hl
      obtain ⟨k, r, e1, _, m⟩ := H.has ha
      obtain ⟨_, x, y⟩ := mem_mates.mp m
      exact ⟨r, List.mem_of_getElem? e1, mates_eq (R.to W (H.rep e1).1 x) (R.to W ha y)⟩
    · rintro ⟨r, hr, rfl⟩
      have hl : f r < C.length := by rw [R.len]; exact R.num.lt r (lt r hr).1
      obtain ⟨k, c, e1, _, m⟩ := H'.has hl
      obtain ⟨_, x, y⟩ := mem_mates.mp m
      exact ⟨c, List.mem_of_getElem? e1, mates_eq x y⟩
end
end Pk

namespace Pk
open PySem PySem.Spec PyProof.Rows L2 Evl

/-! ### sorted of data, any length: the one result -/
def rSortedDt (K : PySem.W.Frag) : List V → Hp → VK → Prop := fun vs H Q => ∃ (a : Addr) (zs : List (V × PyData)), vs = [V.ref a] ∧ SqL K H a (zs.map (·.1)) ∧ (∀ z ∈ zs, Dp K H z.1 z.2) ∧
  PySem.W.AllAlike (zs.map (·.2)) ∧ PySem.W.Sortable (zs.map (·.2)) ∧ (∀ z ∈ zs, z.2.depth ≤ 8) ∧
  ∀ p, H p = none → Q (.ref p) (upd H p (.lst ((zs.mergeSort (PySem.W.dataLe false (·.2))).map (·.1))))
theorem each_pair {α β γ : Type} {R : α → γ → Prop} {S : γ → β → Prop} (f : β → α) (h : ∀ (b : β) (c : γ), R (f b) c → S c b) : ∀ {bs : List β} {cs : List γ}, Paired R (bs.map f) cs → PySem.W.EachIs S cs bs
  | [], _, r => by
    cases r
    exact .nil
  | b :: bs, _, r => by
    cases r with
    | cons r t => exact .cons (h b _ r) (each_pair f h t)
theorem pair_each {α β γ : Type} {R : α → γ → Prop} {S : γ → β → Prop} (f : β → α) (h : ∀ (b : β) (c : γ), S c b → R (f b) c) : ∀ {bs : List β} {cs : List γ}, PySem.W.EachIs S cs bs → Paired R (bs.map f) cs
  | _, _, .nil => .nil
  | _, _, .cons r t => .cons (h _ _ r) (pair_each f h t)
theorem cr_sortedDt {X : Cx} (hu : X.A.units + 64 < cLine) : CallR X (.builtin "sorted") (rSortedDt X.K) := by
  intro pins s σ H vs us Q I r h
  obtain ⟨a, zs, rfl, hs, hd, hal, hk, hdep, q⟩ := h
  obtain ⟨its, rv, hl, hz⟩ := I.list hs
  rw [Vals.ref1 r]
  have hlen : zs.length ≤ sizeLine := by
    rw [List.length_map] at hz
    exact hz
  refine PySem.W.sorted_data (β := { z : V × PyData // z ∈ zs }) (bs := zs.attach) (enc := fun z => z.1.2) (R := fun u z => RelV z.1.1 u) hl.isList (each_pair (fun z : { z : V × PyData // z ∈ zs } => z.1.1) (fun _ _ h => h) (by
      rw [show zs.attach.map (fun z : { z : V × PyData // z ∈ zs } => z.1.1) = (zs.attach.map (·.1)).map (·.1) by rw [List.map_map]; rfl, List.attach_map_subtype_val]
      exact rv)) (each_pair (fun z : { z : V × PyData // z ∈ zs } => z.1.1) (fun b c h => Dp.reads I b.1.2 b.1.1 c (hd b.1 b.2) h) (by
      rw [show zs.attach.map (fun z : { z : V × PyData // z ∈ zs } => z.1.1) = (zs.attach.map (·.1)).map (·.1) by rw [List.map_map]; rfl, List.attach_map_subtype_val]
      exact rv)) ?_ ?_ (by rw [List.length_attach]; exact hlen) (fun b _ => by
      have := hdep b.1 b.2
      omega) fun out ho eo => ?_
  · rw [show zs.attach.map (fun z : { z : V × PyData // z ∈ zs } => z.1.2) = (zs.attach.map (·.1)).map (·.2) by rw [List.map_map]; rfl, List.attach_map_subtype_val]
    exact hal
  · rw [show zs.attach.map (fun z : { z : V × PyData // z ∈ zs } => z.1.2) = (zs.attach.map (·.1)).map (·.2) by rw [List.map_map]; rfl, List.attach_map_subtype_val]
    exact hk
  · obtain ⟨ep, he'⟩ := PyProof.Rows.sortedAll_at s.heap its out.toArray
    have e : (zs.attach.mergeSort (PySem.W.dataLe false fun z => z.1.2)).map (·.1) = zs.mergeSort (PySem.W.dataLe false (·.2)) := by
      have g := PySem.W.sort_maps (r := PySem.W.dataLe false (fun z : { z : V × PyData // z ∈ zs } => z.1.2)) (s := PySem.W.dataLe false (fun z : V × PyData => z.2)) (fun z : { z : V × PyData // z ∈ zs } => z.1) (l := zs.attach) (fun _ _ _ _ => rfl)
      rw [List.attach_map_subtype_val] at g
      exact g
    have rv2 : Vals ((zs.mergeSort (PySem.W.dataLe false (·.2))).map (·.1)) out := by
      rw [← e, List.map_map]
      exact pair_each (fun z : { z : V × PyData // z ∈ zs } => z.1.1) (fun _ _ h => h) eo
    have hlen2 : ((zs.mergeSort (PySem.W.dataLe false (·.2))).map (·.1)).length ≤ sizeLine := by
      rw [List.length_map, List.length_mergeSort]
      exact hlen
    exact ⟨.ref _, upd H (s.heap.objs.size + 1) (.lst ((zs.mergeSort (PySem.W.dataLe false (·.2))).map (·.1))), I.laid (t' := s.toks) (fun _ _ => PyProof.Rows.sortedAll_old) (Nat.le_succ _) ⟨hlen2, out, ep, rv2, he'⟩, rfl, q _ (I.hok.fresh (Nat.le_succ _))⟩

/-! ### what grows: B is known to stay as it is, H runs; both grow, and what H had beside B is no part of the new B -/
structure Ext (B H B2 H2 : Hp) : Prop where
  bb : Ex B B2
  hh : Ex H H2
  sub : Ex B2 H2
  fr : ∀ a, H a ≠ none → B a = none → B2 a = none
section
variable {B H B2 H2 B3 H3 : Hp} {p : Addr} {o u : HO}
theorem Ext.refl (e : Ex B H) : Ext B H B H := ⟨Ex.refl B, Ex.refl H, e, fun _ _ n => n⟩
theorem Ext.of (e : Ex B H) (k : Ex H H2) : Ext B H B H2 := ⟨Ex.refl B, k, e.trans k, fun _ _ n => n⟩
theorem Ext.trans (a : Ext B H B2 H2) (b : Ext B2 H2 B3 H3) : Ext B H B3 H3 := ⟨a.bb.trans b.bb, a.hh.trans b.hh, b.sub, fun x n m => b.fr x (fun z => by
  cases q : H x with
  | none => exact n q
  | some o =>
    rw [a.hh x o q] at z
    cases z) (a.fr x n m)⟩
theorem Ext.run (a : Ext B H B2 H2) (k : Ex H2 H3) : Ext B H B2 H3 := ⟨a.bb, a.hh.trans k, a.sub.trans k, a.fr⟩
theorem Ext.noB (a : Ext B H B2 H2) (h : H2 p = none) : B2 p = none := fresh_back a.sub h
theorem Ext.noH (a : Ext B H B2 H2) (h : H2 p = none) : H p = none := fresh_back a.hh h
/-- what is made here does not change any more -/
theorem Ext.frz (a : Ext B H B2 H2) (h : H p = none) (n : B2 p = none) (e : H2 p = some o) : Ext B H (upd B2 p o) H2 := by
  refine ⟨a.bb.trans (Ex.new n), a.hh, fun x v q => ?_, fun x n1 n2 => ?_⟩
  · by_cases hx : x = p
    · subst hx
      rw [upd_same] at q
      cases q
      exact e
    · rw [upd_ne hx] at q
      exact a.sub x v q
  · have hx : x ≠ p := fun z => n1 (by rw [z]; exact h)
    rw [upd_ne hx]
    exact a.fr x n1 n2
theorem Ext.new (a : Ext B H B2 H2) (h : H2 p = none) : Ext B H (upd B2 p o) (upd H2 p o) :=
  (a.run (Ex.new h)).frz (a.noH h) (a.noB h) upd_same
/-- a thing that was made behind H, and that B does not know, changes -/
theorem Ext.mut (a : Ext B H B2 H2) (h : H p = none) (n : B2 p = none) : Ext B H B2 (upd H2 p o) := ⟨a.bb, a.hh.mut h, a.sub.mut n, a.fr⟩
theorem Ext.keep (a : Ext B H B2 H2) (e : H p = some o) : H2 p = some o := a.hh p o e
theorem Ext.off (a : Ext B H B2 H2) (e : H p = some o) (n : B p = none) : B2 p = none := a.fr p (by rw [e]; exact fun z => by cases z) n
end

/-! ### what evaluates to a value of which R holds, by what stays -/
def Mono (R : V → Hp → Prop) : Prop := ∀ v B B2, Ex B B2 → R v B → R v B2
def EvP (te : TE) (σ : L2.St) (B : Hp) (R : V → Hp → Prop) : Prop := ∀ H, Ex B H → ∀ Q : VK, (∀ v B2 H2, Ext B H B2 H2 → R v B2 → Q v H2) → te σ H Q
def EvPA (ta : TA) (σ : L2.St) (B : Hp) (R : List V → Hp → Prop) : Prop := ∀ H, Ex B H → ∀ Q : List V → Hp → Prop, (∀ vs B2 H2, Ext B H B2 H2 → R vs B2 → Q vs H2) → ta σ H Q
section
variable {K : PySem.W.Frag} {σ : L2.St} {B B2 H : Hp} {ta tb te tx : TE} {t u : TT} {x y z v : V} {R S : V → Hp → Prop}
/-- two parts of one heap laid together -/
def uni (B C : Hp) : Hp := fun a => match B a with
  | some o => some o
  | none => C a
theorem uni_l {B C : Hp} : Ex B (uni B C) := fun a o e => by
  unfold uni
  rw [e]
theorem uni_r {B C H : Hp} (h1 : Ex B H) (h2 : Ex C H) : Ex C (uni B C) := fun a o e => by
  unfold uni
  cases q : B a with
  | none => exact e
  | some u =>
    have a1 := h1 a u q
    rw [h2 a o e] at a1
    exact a1.symm
theorem uni_sub {B C H : Hp} (h1 : Ex B H) (h2 : Ex C H) : Ex (uni B C) H := fun a o e => by
  unfold uni at e
  cases q : B a with
  | none =>
    rw [q] at e
    exact h2 a o e
  | some u =>
    rw [q] at e
    cases e
    exact h1 a _ q
theorem uni_none {B C : Hp} {a : Addr} (h1 : B a = none) (h2 : C a = none) : uni B C a = none := by
  unfold uni
  rw [h1]
  exact h2
theorem ext_up {B C H B2 H2 : Hp} (e : Ex B C) (k : Ex C H) (a : Ext B H B2 H2) : Ext C H (uni C B2) H2 :=
  ⟨uni_l, a.hh, uni_sub (k.trans a.hh) a.sub, fun x n m => uni_none m (a.fr x n (fresh_back e m))⟩
theorem EvP.mono (h : EvP te σ B R) (m : Mono R) (e : Ex B B2) : EvP te σ B2 R := fun H k Q q =>
  h H (e.trans k) Q fun v B3 H3 a r => q v _ H3 (ext_up e k a) (m v _ _ (uni_r (k.trans a.hh) a.sub) r)
theorem evp_of (h : Ev te σ B v) : EvP te σ B fun x _ => x = v := fun H k Q q => h H k Q fun H2 e => q v B H2 (Ext.of k e) rfl
theorem evp_at (h : Ev te σ B v) (r : R v B) : EvP te σ B R := fun H k Q q => h H k Q fun H2 e => q v B H2 (Ext.of k e) r
theorem ev_of (h : EvP te σ B fun x _ => x = v) : Ev te σ B v := fun H k Q q => h H k Q fun w B2 H2 a e => by
  subst e
  exact q H2 a.hh
theorem EvP.imp (h : EvP te σ B R) (m : ∀ v B2, Ex B B2 → R v B2 → S v B2) : EvP te σ B S := fun H k Q q => h H k Q fun v B2 H2 a r => q v B2 H2 a (m v B2 a.bb r)
/-- a new list is a value -/
theorem evp_l {xs : List V} (h : EvL te σ B xs) : EvP te σ B fun v B2 => ∃ p, v = .ref p ∧ B2 p = some (.lst xs) := fun H k Q q =>
  h H k Q fun p H2 n e e2 => q _ (upd B p (.lst xs)) H2 ((Ext.of k e).frz n (fresh_back k n) e2) ⟨p, rfl, upd_same⟩
theorem evp_u {xs : List V} (h : EvU te σ B xs) : EvP te σ B fun v B2 => ∃ p, v = .ref p ∧ B2 p = some (.tup xs) := fun H k Q q =>
  h H k Q fun p H2 n e e2 => q _ (upd B p (.tup xs)) H2 ((Ext.of k e).frz n (fresh_back k n) e2) ⟨p, rfl, upd_same⟩
theorem epa_nil : EvPA tNil σ B fun vs _ => vs = [] := fun H k Q q => q [] B H (Ext.refl k) rfl
theorem epa_cons {tr : TA} {S : V → List V → Hp → Prop} (h : EvP te σ B R) (m : Mono R) (hr : ∀ v B2, Ex B B2 → R v B2 → EvPA tr σ B2 (S v)) : EvPA (tCons te tr) σ B fun vs B2 => ∃ v r, vs = v :: r ∧ R v B2 ∧ S v r B2 := fun H k Q q =>
  h H k _ fun v B2 H2 a r => hr v B2 a.bb r H2 a.sub _ fun vs B3 H3 b s => q (v :: vs) B3 H3 (a.trans b) ⟨v, vs, rfl, m v _ _ b.bb r, s⟩
theorem epa_one (h : EvP te σ B R) : EvPA (tCons te tNil) σ B fun vs B2 => ∃ v, vs = [v] ∧ R v B2 := fun H k Q q =>
  h H k _ fun v B2 H2 a r => q [v] B2 H2 a ⟨v, rfl, r⟩
theorem epa_two {te2 : TE} (h : EvP te σ B R) (m : Mono R) (h2 : ∀ B2, Ex B B2 → EvP te2 σ B2 S) : EvPA (tCons te (tCons te2 tNil)) σ B fun vs B2 => ∃ v w, vs = [v, w] ∧ R v B2 ∧ S w B2 := fun H k Q q =>
  h H k _ fun v B2 H2 a r => h2 B2 a.bb H2 a.sub _ fun w B3 H3 b s => q [v, w] B3 H3 (a.trans b) ⟨v, w, rfl, m v _ _ b.bb r, s⟩
theorem epa_three {te2 te3 : TE} {U : V → Hp → Prop} (h : EvP te σ B R) (m : Mono R) (h2 : ∀ B2, Ex B B2 → EvP te2 σ B2 S) (m2 : Mono S) (h3 : ∀ B2, Ex B B2 → EvP te3 σ B2 U) : EvPA (tCons te (tCons te2 (tCons te3 tNil))) σ B fun vs B2 => ∃ v w z, vs = [v, w, z] ∧ R v B2 ∧ S w B2 ∧ U z B2 := fun H k Q q =>
  h H k _ fun v B2 H2 a r => h2 B2 a.bb H2 a.sub _ fun w B3 H3 b s => h3 B3 (a.bb.trans b.bb) H3 b.sub _ fun z B4 H4 c u => q [v, w, z] B4 H4 ((a.trans b).trans c) ⟨v, w, z, rfl, m v _ _ (b.bb.trans c.bb) r, m2 w _ _ c.bb s, u⟩
/-- a promise: given P of the arguments and the heap that stays, a value of which R holds -/
def spP (P : List V → Hp → (V → Hp → Prop) → Prop) : Sp := fun vs H Q _ => ∃ B R, Ex B H ∧ P vs B R ∧ ∀ v B2 H2, Ext B H B2 H2 → R v B2 → Q v H2
theorem evp_call {P : List V → Hp → (V → Hp → Prop) → Prop} {E : XK} {tar : TA} {RA : List V → Hp → Prop} (h : EvPA tar σ B RA) (hp : ∀ vs B2, Ex B B2 → RA vs B2 → P (vs ++ []) B2 R) : EvP (tCall (spP P) [] E tar) σ B R := fun H k Q q =>
  h H k _ fun vs B2 H2 a r => ⟨B2, R, a.sub, hp vs B2 a.bb r, fun v B3 H3 b s => q v B3 H3 (a.trans b) s⟩
/-- a new tuple -/
theorem evp_tup {tar : TA} {RA : List V → Hp → Prop} (h : EvPA tar σ B RA) (m : ∀ vs B2 B3, Ex B2 B3 → RA vs B2 → RA vs B3) (hz : ∀ vs B2, RA vs B2 → vs.length ≤ 100000) : EvP (tTup tar) σ B fun v B2 => ∃ p vs, v = .ref p ∧ B2 p = some (.tup vs) ∧ RA vs B2 := fun H k Q q =>
  h H k _ fun vs B2 H2 a r => ⟨sz_of (hz vs B2 r), fun p n => q _ _ _ (a.new n) ⟨p, vs, rfl, upd_same, m vs _ _ (Ex.new (a.noB n)) r⟩⟩
/-- list(xs): a new list of the same -/
theorem evp_list {a : Addr} {xs : List V} (h : Ev te σ B (.ref a)) (hx : B a = some (.lst xs)) : EvL (tCB (rListS K) (tCons te tNil)) σ B xs := el_list h (sq_of hx)
end

/-- .. at just this heap -/
def EvH (te : TE) (σ : L2.St) (B H : Hp) (R : V → Hp → Prop) : Prop := ∀ Q : VK, (∀ v B2 H2, Ext B H B2 H2 → R v B2 → Q v H2) → te σ H Q
section
variable {K : PySem.W.Frag} {σ : L2.St} {B B2 H : Hp} {ta tb te tx : TE} {v : V} {R : V → Hp → Prop} {P : List V → Hp → (V → Hp → Prop) → Prop} {E : XK}
theorem EvP.h (h : EvP te σ B R) (e : Ex B H) : EvH te σ B H R := h H e
theorem Ext.pre {B H H1 B2 H2 : Hp} (e : Ex H H1) (a : Ext B H1 B2 H2) : Ext B H B2 H2 := ⟨a.bb, e.trans a.hh, a.sub, fun x n1 n2 => a.fr x (fun z => n1 (fresh_back e z)) n2⟩
theorem evh_call1 (e : Ex B H) (h : Ev ta σ H v) (hp : P [v] B R) : EvH (tCall (spP P) [] E (tCons ta tNil)) σ B H R := fun Q q =>
  h H (Ex.refl H) _ fun H2 k => ⟨B, R, e.trans k, hp, fun v B3 H3 b s => q v B3 H3 (b.pre k) s⟩
theorem evh_call2 {w : V} (e : Ex B H) (h : Ev ta σ H v) (h2 : Ev tb σ H w) (hp : P [v, w] B R) : EvH (tCall (spP P) [] E (tCons ta (tCons tb tNil))) σ B H R := fun Q q =>
  h H (Ex.refl H) _ fun H2 k => h2 H2 k _ fun H3 k2 => ⟨B, R, (e.trans k).trans k2, hp, fun v B3 H3 b s => q v B3 H3 (b.pre (k.trans k2)) s⟩
end

/-! ### comprehensions without tests, of things with insides -/
structure Lcs (B : Hp) (R : Nat → V → Hp → Prop) (n : Nat) (vs : List V) : Prop where
  len : vs.length = n
  all : ∀ i v, vs[i]? = some v → R i v B
theorem Lcs.mono {B B2 : Hp} {R : Nat → V → Hp → Prop} {n : Nat} {vs : List V} (m : ∀ i, Mono (R i)) (e : Ex B B2) (h : Lcs B R n vs) : Lcs B2 R n vs := ⟨h.len, fun i v q => m i v _ _ e (h.all i v q)⟩
theorem Lcs.snoc {B : Hp} {R : Nat → V → Hp → Prop} {n : Nat} {vs : List V} {y : V} (h : Lcs B R n vs) (r : R n y B) : Lcs B R (n + 1) (vs ++ [y]) := by
  refine ⟨by rw [List.length_append, h.len]; rfl, fun i v q => ?_⟩
  by_cases hi : i < vs.length
  · rw [List.getElem?_append_left hi] at q
    exact h.all i v q
  · have hl := (List.getElem?_eq_some_iff.mp q).1
    rw [List.length_append] at hl
    have hl : i < vs.length + 1 := hl
    have e : i = vs.length := by omega
    subst e
    rw [List.getElem?_append_right (Nat.le_refl _), Nat.sub_self] at q
    have e2 : y = v := by simpa using q
    rw [← e2, h.len]
    exact r
/-- the word of the loop: what stays so far -/
def Lw (B H : Hp) (R : Nat → V → Hp → Prop) (D : Addr) (i : Nat) (H' : Hp) : Prop := ∃ B' vs, Ext B H B' H' ∧ B' D = none ∧ H' D = some (.lst vs) ∧ Lcs B' R i vs
section
variable {K : PySem.W.Frag} {σ : L2.St} {B H : Hp} {te : TE} {R : Nat → V → Hp → Prop}
theorem lw_start {D : Addr} (e : Ex B H) (h : H D = none) : Lw B H R D 0 (upd H D (.lst [])) := ⟨B, [], (Ext.refl e).run (Ex.new h), fresh_back e h, upd_same, rfl, fun i v q => by simp at q⟩
theorem lw_turn {D : Addr} {i : Nat} {H' : Hp} {σ2 : L2.St} (m : ∀ i, Mono (R i)) (hD : H D = none) (w : Lw B H R D i H') (hi : i < 100000) (h : ∀ B2, Ex B B2 → EvP te σ2 B2 (R i)) :
    tYes σ2 H' fun b H3 => if b = true then te σ2 H3 fun y H4 => ∃ acc, H4 D = some (.lst acc) ∧ acc.length < sizeLine ∧ Lw B H R D (i + 1) (upd H4 D (.lst (acc ++ [y]))) else Lw B H R D (i + 1) H3 := by
  obtain ⟨B', vs, a, n, e, L⟩ := w
  show te σ2 H' fun y H4 => ∃ acc, H4 D = some (.lst acc) ∧ acc.length < sizeLine ∧ Lw B H R D (i + 1) (upd H4 D (.lst (acc ++ [y])))
  refine h B' a.bb H' a.sub _ fun y B2 H2 b r => ⟨vs, b.keep e, sz_lt (by rw [L.len]; exact hi), B2, vs ++ [y], (a.trans b).mut hD (b.off e n), b.off e n, upd_same, (L.mono m b.bb).snoc r⟩
theorem lw_done {D : Addr} {n : Nat} {H' : Hp} (m : ∀ i, Mono (R i)) (hD : H D = none) (w : Lw B H R D n H') {Q : VK} (q : ∀ v B2 H2, Ext B H B2 H2 → (∃ p vs, v = .ref p ∧ B2 p = some (.lst vs) ∧ Lcs B2 R n vs) → Q v H2) : Q (.ref D) H' := by
  obtain ⟨B', vs, a, n, e, L⟩ := w
  exact q _ _ _ (a.frz hD n e) ⟨D, vs, rfl, upd_same, L.mono m (Ex.new n)⟩
/-- [e for i in range(n)] -/
theorem evp_lcR {ta : TA} {j : Nat} {ws : List Nat} {n : Int} (m : ∀ i, Mono (R i)) (h : EvA ta σ B [.int n]) (hn : 0 ≤ n ∧ n ≤ 40000) (hw : ∀ x, wipe ((wipe σ ws).set j (some x)) ws = wipe σ ws)
    (he : ∀ (i : Nat) B2, Ex B B2 → (i : Int) < n → EvP te ((wipe σ ws).set j (some (.int (i : Int)))) B2 (R i)) :
    EvP (tLc (iRng1 ta) (gName j) tYes te ws) σ B fun v B2 => ∃ p vs, v = .ref p ∧ B2 p = some (.lst vs) ∧ Lcs B2 R n.toNat vs := fun H0 e Q q => h H0 e _ fun H1 e1 => ⟨n, rfl, by omega, by omega, fun D hD =>
  lc_range (lo := 0) (n := n.toNat) (Lw B H1 R D) (lw_start (e.trans e1) hD) (fun i H' hi p => by
    have e0 : (0 : Int) + (i : Int) = (i : Int) := Int.zero_add _
    show wipe ((wipe σ ws).set j (some (.int ((0 : Int) + (i : Int))))) ws = wipe σ ws ∧ tYes ((wipe σ ws).set j (some (.int ((0 : Int) + (i : Int))))) H' fun b H3 => if b = true then te ((wipe σ ws).set j (some (.int ((0 : Int) + (i : Int))))) H3 fun y H4 => ∃ acc, H4 D = some (.lst acc) ∧ acc.length < sizeLine ∧ Lw B H1 R D (i + 1) (upd H4 D (.lst (acc ++ [y]))) else Lw B H1 R D (i + 1) H3
    rw [e0]
    exact ⟨hw _, lw_turn m hD p (by omega) fun B2 b => he i B2 b (by omega)⟩)
    fun H' p => lw_done m hD p fun v B2 H2 a r => q v B2 H2 ⟨a.bb, e1.trans a.hh, a.sub, fun x n1 n2 => a.fr x (fun z => n1 (fresh_back e1 z)) n2⟩ r⟩
/-- [e for x in xs] -/
theorem evp_lcL {a : Addr} {xs : List V} {tl : TE} {j : Nat} {ws : List Nat} (m : ∀ i, Mono (R i)) (h : Ev tl σ B (.ref a)) (hx : B a = some (.lst xs)) (hz : xs.length ≤ 40000) (hw : ∀ x, wipe ((wipe σ ws).set j (some x)) ws = wipe σ ws)
    (he : ∀ (i : Nat) (x : V) B2, Ex B B2 → xs[i]? = some x → EvP te ((wipe σ ws).set j (some x)) B2 (R i)) :
    EvP (tLc (iList K tl) (gName j) tYes te ws) σ B fun v B2 => ∃ p vs, v = .ref p ∧ B2 p = some (.lst vs) ∧ Lcs B2 R xs.length vs := fun H0 e Q q => h H0 e _ fun H1 e1 => ⟨a, rfl, ⟨xs, sq_of (e1 a _ (e a _ hx))⟩, fun D hD =>
  lc_list (xs := xs) (Lw B H1 R D) (lw_start (e.trans e1) hD) (fun i H' _ p => by
      obtain ⟨B', vs, b, _⟩ := p
      exact sq_of (b.hh a _ (e1 a _ (e a _ hx)))) (fun i x H' hi p => ⟨hw x, lw_turn m hD p (by have := (List.getElem?_eq_some_iff.mp hi).1; omega) fun B2 b => he i x B2 b hi⟩)
    fun H' p => lw_done m hD p fun v B2 H2 a r => q v B2 H2 ⟨a.bb, e1.trans a.hh, a.sub, fun x n1 n2 => a.fr x (fun z => n1 (fresh_back e1 z)) n2⟩ r⟩
end
end Pk

namespace Pk
open PySem PySem.Spec PyProof.Rows L2 Evl

/-! ### the text by places -/
def topS (i : Nat) : Stmt := PySem.Challenge.pw_pressluck_k27_whole_parts_and_reached.main.body.getD i (.Pass ⟨0, 0, 0, 0⟩)
abbrev sGoals : Stmt := topS 1
abbrev sCome : Stmt := topS 3
abbrev sReached : Stmt := topS 4
abbrev sParts : Stmt := topS 5
abbrev sCell : Stmt := topS 7
abbrev sMixed : Stmt := topS 8
abbrev sGoal : Stmt := topS 9
abbrev sPlace : Stmt := topS 10
abbrev sBoard : Stmt := topS 11
abbrev sTurned : Stmt := topS 12
abbrev sNamed : Stmt := topS 13
abbrev sLaw : Stmt := topS 14

/-! ### promises of defs that tell a number -/
def spS (P : List V → Hp → V → Prop) : Sp := fun vs H Q _ => ∃ B z, Ex B H ∧ P vs B z ∧ ∀ H2, Ex H H2 → Q z H2
theorem spv_of {P : List V → Hp → V → Prop} {vs : List V} {B : Hp} {z : V} (h : P vs B z) : SpV (spS P) vs B z := fun _ e _ q _ => ⟨B, z, e, h, q⟩

/-! ### the numbers that the law draws -/
def cellM (ns : List Int) (k : Int) : Int :=
  if k < ns.length then ns.getD k.toNat 0
  else
    let number := if 0 < (ns.length : Int) then ns.getD (k * 7 % ns.length).toNat 0 % 2147483647 * 48271 + k * 7919 else k * 7919 + 11
    number * number % 2147483629
def mixedM (c m : Int) : Int := c % 2 ^ 64 * 11400714819323198485 % 2 ^ 64 / 2 ^ 11 % m
def goalM (bits k n mode : Int) : Int :=
  if mode = 1 then k + 1 + bits % (n - 1 - k)
  else if mode = 2 then (k + n - 2 + bits % 5) % n
  else if mode = 3 then (if bits / 256 % n > bits % n then bits / 256 % n else bits % n)
  else bits % n
theorem mixedM_nn (c m : Int) (hm : 0 < m) : 0 ≤ mixedM c m ∧ mixedM c m < m := ⟨Int.emod_nonneg _ (by omega), Int.emod_lt_of_pos _ hm⟩
theorem goalM_in {bits k n mode : Int} (hn : 0 < n) (hk : 0 ≤ k) (h1 : mode = 1 → k < n - 1) : 0 ≤ goalM bits k n mode ∧ goalM bits k n mode < n := by
  unfold goalM
  split
  · rename_i h
    have hp : 0 < n - 1 - k := by have := h1 h; omega
    have a := Int.emod_nonneg bits (b := n - 1 - k) (by omega)
    have b := Int.emod_lt_of_pos bits hp
    omega
  · split
    · exact ⟨Int.emod_nonneg _ (by omega), Int.emod_lt_of_pos _ hn⟩
    · split
      · split
        · exact ⟨Int.emod_nonneg _ (by omega), Int.emod_lt_of_pos _ hn⟩
        · exact ⟨Int.emod_nonneg _ (by omega), Int.emod_lt_of_pos _ hn⟩
      · exact ⟨Int.emod_nonneg _ (by omega), Int.emod_lt_of_pos _ hn⟩

/-! ### places and boards in the heap -/
abbrev vN (n : Nat) : V := .int (n : Int)
def PlAt (v : V) (H : Hp) : Pl → Prop
  | .fin => ∃ (a : Addr) (x : V), v = V.ref a ∧ H a = some (HO.tup [V.str "end", x])
  | .pick gs => ∃ (a : Addr) (x : V) (l : Addr), v = V.ref a ∧ H a = some (HO.tup [V.str "pick", x, V.ref l]) ∧ H l = some (HO.lst (gs.map vN))
  | .throw gs => ∃ (a : Addr) (x : V) (l : Addr) (ps : List V), v = V.ref a ∧ H a = some (HO.tup [V.str "throw", x, V.ref l]) ∧ H l = some (HO.lst ps) ∧ ps.length = gs.length ∧
      ∀ (i g : Nat), gs[i]? = some g → ∃ (t : Addr) (y : V), ps[i]? = some (V.ref t) ∧ H t = some (HO.tup [y, vN g])
theorem PlAt.mono {v : V} {B B2 : Hp} (e : Ex B B2) : ∀ {p : Pl}, PlAt v B p → PlAt v B2 p
  | .fin, ⟨a, x, h1, h2⟩ => ⟨a, x, h1, e _ _ h2⟩
  | .pick gs, ⟨a, x, l, h1, h2, h3⟩ => ⟨a, x, l, h1, e _ _ h2, e _ _ h3⟩
  | .throw gs, ⟨a, x, l, ps, h1, h2, h3, h4, h5⟩ => ⟨a, x, l, ps, h1, e _ _ h2, e _ _ h3, h4, fun i g q => by
    obtain ⟨t, y, q1, q2⟩ := h5 i g q
    exact ⟨t, y, q1, e _ _ q2⟩⟩
/-- the values vs are the places of the board -/
def BdVs (vs : List V) (H : Hp) (B : List Pl) : Prop := vs.length = B.length ∧ ∀ (i : Nat) (p : Pl), B[i]? = some p → ∃ v : V, vs[i]? = some v ∧ PlAt v H p
theorem BdVs.mono {vs : List V} {H H2 : Hp} {B : List Pl} (e : Ex H H2) (h : BdVs vs H B) : BdVs vs H2 B := ⟨h.1, fun i p q => by
  obtain ⟨v, q1, q2⟩ := h.2 i p q
  exact ⟨v, q1, q2.mono e⟩⟩
def BdAt (B : List Pl) (v : V) (H : Hp) : Prop := ∃ (a : Addr) (vs : List V), v = V.ref a ∧ H a = some (HO.lst vs) ∧ BdVs vs H B
theorem BdAt.mono {B : List Pl} : Mono (BdAt B) := fun v H H2 e ⟨a, vs, h1, h2, h3⟩ => ⟨a, vs, h1, e _ _ h2, h3.mono e⟩
/-- a list of numbers -/
def NsAt (l : List Nat) (v : V) (H : Hp) : Prop := ∃ p : Addr, v = V.ref p ∧ H p = some (HO.lst (l.map vN))
theorem NsAt.mono {l : List Nat} : Mono (NsAt l) := fun v B B2 e ⟨p, h1, h2⟩ => ⟨p, h1, e _ _ h2⟩
/-- a list of lists of numbers -/
def LlVs (T : List (List Nat)) (vs : List V) (H : Hp) : Prop := vs.length = T.length ∧ ∀ (i : Nat) (s : List Nat), T[i]? = some s → ∃ w : V, vs[i]? = some w ∧ NsAt s w H
theorem LlVs.mono {T : List (List Nat)} {vs : List V} {H H2 : Hp} (e : Ex H H2) (h : LlVs T vs H) : LlVs T vs H2 := ⟨h.1, fun i s q => by
  obtain ⟨w, q1, q2⟩ := h.2 i s q
  exact ⟨w, q1, NsAt.mono _ _ _ e q2⟩⟩
def LlAt (T : List (List Nat)) (v : V) (H : Hp) : Prop := ∃ (p : Addr) (vs : List V), v = V.ref p ∧ H p = some (HO.lst vs) ∧ LlVs T vs H
theorem LlAt.mono {T : List (List Nat)} : Mono (LlAt T) := fun v B B2 e ⟨p, vs, h1, h2, h3⟩ => ⟨p, vs, h1, e _ _ h2, h3.mono e⟩
theorem vn_map (l : List Nat) : l.map vN = (up l).map V.int := by
  unfold up
  rw [List.map_map]
  rfl
end Pk

namespace Pk
open PySem PySem.Spec PyProof.Rows L2 Evl
section
variable {P : Program} {w : World} {K : PySem.W.Frag} {mg : Str → Option Value} {base : Heap}

theorem dec_vint {i j : Int} : decide (V.int i = V.int j) = decide (i = j) := by
  by_cases h : i = j
  · subst h
    rw [decide_eq_true rfl, decide_eq_true rfl]
  · rw [decide_eq_false h, decide_eq_false fun e => h (V.int.inj e)]

/-! ### _law_mixed -/
def pMixed : List V → Hp → V → Prop := fun vs B z => ∃ c m : Int, vs = [.int c, .int m] ∧ 0 < m ∧ z = .int (mixedM c m)
theorem scMixed : FnScope ["_law_cell_here", "_law_many"] ["_law_cell_here", "_law_many"] (defScope sMixed) := ⟨rfl, rfl, rfl, by decide +kernel, rfl, by decide +kernel, by decide +kernel⟩
theorem ok_mixed {f : Addr} {fd : FuncData} (F : Fun K "_law_mixed" "_law_mixed" sMixed f fd) : FnOk P w K mg base CX0 1 f fd ["_law_cell_here", "_law_many"] (spS pMixed) := by
  refine F.ok scMixed (fun vs H Q E h => ?_) (fun cdv A outer s H vs Q E hr h => ?_)
  · obtain ⟨B, z, _, ⟨c, m, rfl, _⟩, _⟩ := h
    rfl
  · obtain ⟨B, z, hB, ⟨c, m, rfl, hm, rfl⟩, q⟩ := h
    refine ⟨_, pss_one (ps_ret (pe_op op_mod (pe_op op_fdiv (pe_op op_mod (pe_op op_mul (pe_op op_mod (pv 0) (pe_op op_pow pe_int pe_int)) pe_int) (pe_op op_pow pe_int pe_int)) (pe_op op_pow pe_int pe_int)) (pv 1))), ?_⟩
    refine s_ret (v := .int (mixedM c m)) ?_ fun H1 e => q H1 e
    have p64 : CPow 2 64 := ⟨by decide, by decide, by decide⟩
    have p11 : CPow 2 11 := ⟨by decide, by decide, by decide⟩
    have d64 : (0 : Int) < 2 ^ (Int.toNat 64) := by decide
    have d11 : (0 : Int) < 2 ^ (Int.toNat 11) ∧ (2 : Int) ^ (Int.toNat 11) < 1073741824 := by decide
    exact ev_op (ev_op (ev_op (ev_op (ev_op (ev_var rfl) (ev_op ev_c ev_c (rv_I p64)) (rv_I d64)) ev_c (rv_I (.inr ⟨by decide, by decide⟩))) (ev_op ev_c ev_c (rv_I p64)) (rv_I d64)) (ev_op ev_c ev_c (rv_I p11)) (rv_I d11)) (ev_var rfl) (rv_I hm)

/-! ### _law_goal -/
def pGoal : List V → Hp → V → Prop := fun vs B z => ∃ b k n m : Int, vs = [.int b, .int k, .int n, .int m] ∧ 0 < n ∧ (m = 1 → k < n - 1) ∧ z = .int (goalM b k n m)
theorem scGoal : FnScope ["_law_bits", "_law_k", "_law_n", "_law_mode"] ["_law_bits", "_law_k", "_law_n", "_law_mode"] (defScope sGoal) := ⟨rfl, rfl, rfl, by decide +kernel, rfl, by decide +kernel, by decide +kernel⟩
theorem ok_goal {f : Addr} {fd : FuncData} (F : Fun K "_law_goal" "_law_goal" sGoal f fd) (mx : mg "max" = none) : FnOk P w K mg base CX0 1 f fd ["_law_bits", "_law_k", "_law_n", "_law_mode"] (spS pGoal) := by
  refine F.ok scGoal (fun vs H Q E h => ?_) (fun cdv A outer s H vs Q E hr h => ?_)
  · obtain ⟨B, z, _, ⟨b, k, n, m, rfl, _⟩, _⟩ := h
    rfl
  · obtain ⟨B, z, hB, ⟨b, k, n, m, rfl, hn, h1, rfl⟩, q⟩ := h
    refine ⟨_, pss_cons (ps_if (pt_cmpR op_eq (pv 3) pe_int (nomark _)) (pss_one (ps_ret (pe_op op_add (pe_op op_add (pv 1) pe_int) (pe_op op_mod (pv 0) (pe_op op_sub (pe_op op_sub (pv 2) pe_int) (pv 1)))))) pss_nil)
      (pss_cons (ps_if (pt_cmpR op_eq (pv 3) pe_int (nomark _)) (pss_one (ps_ret (pe_op op_mod (pe_op op_add (pe_op op_sub (pe_op op_add (pv 1) (pv 2)) pe_int) (pe_op op_mod (pv 0) pe_int)) (pv 2)))) pss_nil)
      (pss_cons (ps_if (pt_cmpR op_eq (pv 3) pe_int (nomark _)) (pss_one (ps_ret (pe_callB (call_max2 rfl) (by rfl) mx PyProof.Rows.boot_max (pa_cons (pe_op op_mod (pv 0) (pv 2)) (pa_cons (pe_op op_mod (pe_op op_fdiv (pv 0) pe_int) (pv 2)) pa_nil))))) pss_nil)
      (pss_one (ps_ret (pe_op op_mod (pv 0) (pv 2)))))), ?_⟩
    refine q_when (et_test (ev_op (ev_var rfl) ev_c (rv_eq rfl))) (fun hb H1 e1 => ?_) (fun hb H1 e1 => ?_)
    · have hm : m = 1 := V.int.inj (of_decide_eq_true hb)
      have hp : 0 < n - 1 - k := by have := h1 hm; omega
      refine s_ret (v := .int (goalM b k n m)) (ev_is (ev_op (ev_op (ev_var rfl) ev_c rv_I0) (ev_op (ev_var rfl) (ev_op (ev_op (ev_var rfl) ev_c rv_I0) (ev_var rfl) rv_I0) (rv_I hp)) rv_I0) ?_) fun H2 e2 => q H2 (e1.trans e2)
      unfold goalM
      rw [if_pos hm]
    · have hm : ¬ m = 1 := fun z => of_decide_eq_false hb (by rw [z])
      refine q_when (et_test (ev_op (ev_var rfl) ev_c (rv_eq rfl))) (fun hb H2 e2 => ?_) (fun hb H2 e2 => ?_)
      · have hm2 : m = 2 := V.int.inj (of_decide_eq_true hb)
        refine s_ret (v := .int (goalM b k n m)) (ev_is (ev_op (ev_op (ev_op (ev_op (ev_var rfl) (ev_var rfl) rv_I0) ev_c rv_I0) (ev_op (ev_var rfl) ev_c (rv_I (by decide))) rv_I0) (ev_var rfl) (rv_I hn)) ?_) fun H3 e3 => q H3 ((e1.trans e2).trans e3)
        unfold goalM
        rw [if_neg hm, if_pos hm2]
      · have hm2 : ¬ m = 2 := fun z => of_decide_eq_false hb (by rw [z])
        refine q_when (et_test (ev_op (ev_var rfl) ev_c (rv_eq rfl))) (fun hb H3 e3 => ?_) (fun hb H3 e3 => ?_)
        · have hm3 : m = 3 := V.int.inj (of_decide_eq_true hb)
          refine s_ret (v := .int (goalM b k n m)) (ev_is (ev_max2 (ev_op (ev_var rfl) (ev_var rfl) (rv_I hn)) (ev_op (ev_op (ev_var rfl) ev_c (rv_I ⟨by decide, by decide⟩)) (ev_var rfl) (rv_I hn))) ?_) fun H4 e4 => q H4 (((e1.trans e2).trans e3).trans e4)
          unfold goalM
          rw [if_neg hm, if_neg hm2, if_pos hm3]
        · have hm3 : ¬ m = 3 := fun z => of_decide_eq_false hb (by rw [z])
          refine s_ret (v := .int (goalM b k n m)) (ev_is (ev_op (ev_var rfl) (ev_var rfl) (rv_I hn)) ?_) fun H4 e4 => q H4 (((e1.trans e2).trans e3).trans e4)
          unfold goalM
          rw [if_neg hm, if_neg hm2, if_neg hm3]

/-! ### _law_cell -/
def pCell (K : PySem.W.Frag) : List V → Hp → V → Prop := fun vs B z => ∃ (a : Addr) (ns : List Int) (k : Int), vs = [.ref a, .int k] ∧ SqL K B a (ns.map V.int) ∧ ns.length ≤ 63 ∧ 0 ≤ k ∧ k ≤ 1000 ∧ z = .int (cellM ns k)
theorem scCell : FnScope ["_law_script", "_law_k", "_law_number"] ["_law_script", "_law_k"] (defScope sCell) := ⟨rfl, rfl, rfl, by decide +kernel, rfl, by decide +kernel, by decide +kernel⟩
theorem at_ints {ns : List Int} {i : Int} (h0 : 0 ≤ i) (h1 : i < ns.length) : atI (ns.map V.int) i = some (.int (ns.getD i.toNat 0)) := by
  refine at_of (j := i.toNat) (by omega) ?_
  have hl : i.toNat < ns.length := by omega
  rw [List.getElem?_map, List.getElem?_eq_getElem hl, List.getD_eq_getElem?_getD, List.getElem?_eq_getElem hl]
  rfl
theorem ok_cell {f : Addr} {fd : FuncData} (F : Fun K "_law_cell" "_law_cell" sCell f fd) (ml : mg "len" = none) : FnOk P w K mg base CX0 1 f fd ["_law_script", "_law_k"] (spS (pCell K)) := by
  refine F.ok scCell (fun vs H Q E h => ?_) (fun cdv A outer s H vs Q E hr h => ?_)
  · obtain ⟨B, z, _, ⟨a, ns, k, rfl, _⟩, _⟩ := h
    rfl
  · obtain ⟨B, z, hB, ⟨a, ns, k, rfl, hs, hl, k0, k1, rfl⟩, q⟩ := h
    have hS : SqL K H a (ns.map V.int) := ex_l hB hs
    refine ⟨_, pss_cons (ps_if (pt_cmpR op_lt (pv 1) (pe_callB call_len_seq (by rfl) ml PySem.boot_len (pa_cons (pv 0) pa_nil)) (nomark _)) (pss_one (ps_ret (pe_ix ix_list (pv 0) (pv 1) (fun _ _ => rfl)))) pss_nil)
      (pss_cons (ps_set (i := 2) scCell.nd rfl (.inl rfl) (pe_op op_add (pe_op op_mul (pv 1) pe_int) pe_int))
      (pss_cons (ps_if (pt_cmpR op_gt (pe_callB call_len_seq (by rfl) ml PySem.boot_len (pa_cons (pv 0) pa_nil)) pe_int (nomark _))
        (pss_one (ps_set (i := 2) scCell.nd rfl (.inl rfl) (pe_op op_add (pe_op op_mul (pe_op op_mod (pe_ix ix_list (pv 0) (pe_op op_mod (pe_op op_mul (pv 1) pe_int) (pe_callB call_len_seq (by rfl) ml PySem.boot_len (pa_cons (pv 0) pa_nil))) (fun _ _ => rfl)) pe_int) pe_int) (pe_op op_mul (pv 1) pe_int)))) pss_nil)
      (pss_one (ps_ret (pe_op op_mod (pe_op op_mul (pv 2) (pv 2)) pe_int))))), ?_⟩
    have hlen : ((ns.map V.int).length : Int) = ns.length := by rw [List.length_map]
    have evl : ∀ {σ : L2.St} {H1 : Hp}, σ[0]? = some (some (.ref a)) → Ex H H1 → Ev (tCB (rLenS K) (tCons (tVar 0) tNil)) σ H1 (.int ns.length) := fun h e => ev_is (ev_len (ev_var h) (ex_l e hS)) (by rw [hlen])
    refine q_when (et_test (ev_op (ev_var rfl) (evl rfl (Ex.refl H)) rv_I0)) (fun hb H1 e1 => ?_) (fun hb H1 e1 => ?_)
    · have hk : k < ns.length := of_decide_eq_true hb
      refine s_ret (v := .int (cellM ns k)) (ev_is (ev_op (ev_var rfl) (ev_var rfl) (rv_ixL (ex_l e1 hS) (at_ints k0 hk))) ?_) fun H2 e2 => q H2 (e1.trans e2)
      unfold cellM
      rw [if_pos hk]
    · have hk : ¬ k < ns.length := of_decide_eq_false hb
      refine q_asg (ev_op (ev_op (ev_var rfl) ev_c (rv_I (.inr ⟨by decide, by decide⟩))) ev_c rv_I0) fun H2 e2 => ?_
      refine q_ifAsg (v := .int (if 0 < (ns.length : Int) then ns.getD (k * 7 % ns.length).toNat 0 % 2147483647 * 48271 + k * 7919 else k * 7919 + 11)) (et_test (ev_op (evl rfl (e1.trans e2)) ev_c rv_I0)) (fun hb => ?_) (fun hb => ?_) fun H3 e3 => ?_
      · have hp : 0 < (ns.length : Int) := of_decide_eq_true hb
        have h7 : 0 ≤ k * 7 % (ns.length : Int) := Int.emod_nonneg _ (by omega)
        have h8 : k * 7 % (ns.length : Int) < ns.length := Int.emod_lt_of_pos _ hp
        rw [if_pos hp]
        exact ev_op (ev_op (ev_op (ev_op (ev_var rfl) (ev_op (ev_op (ev_var rfl) ev_c (rv_I (.inr ⟨by decide, by decide⟩))) (evl rfl (e1.trans e2)) (rv_I hp)) (rv_ixL (ex_l (e1.trans e2) hS) (at_ints h7 h8))) ev_c (rv_I (by decide))) ev_c (rv_I (.inr ⟨by decide, by decide⟩))) (ev_op (ev_var rfl) ev_c (rv_I (.inr ⟨by decide, by decide⟩))) rv_I0
      · have hp : ¬ 0 < (ns.length : Int) := of_decide_eq_false hb
        rw [if_neg hp]
        rfl
      · have hN : ∀ x : Int, -(2 ^ 64) < (if 0 < (ns.length : Int) then x % 2147483647 * 48271 + k * 7919 else k * 7919 + 11) ∧ (if 0 < (ns.length : Int) then x % 2147483647 * 48271 + k * 7919 else k * 7919 + 11) < 2 ^ 64 := fun x => by
          have a1 := Int.emod_nonneg x (b := 2147483647) (by decide)
          have a2 := Int.emod_lt_of_pos x (b := 2147483647) (by decide)
          split <;> omega
        refine s_ret (v := .int (cellM ns k)) (ev_is (ev_op (ev_op (ev_var rfl) (ev_var rfl) (rv_I (.inl (hN _)))) ev_c (rv_I (by decide))) ?_) fun H4 e4 => q H4 (((e1.trans e2).trans e3).trans e4)
        unfold cellM
        rw [if_neg hk]
end
end Pk

namespace Pk
open PySem PySem.Spec PyProof.Rows L2 Evl
section
variable {P : Program} {w : World} {K : PySem.W.Frag} {mg : Str → Option Value} {base : Heap}
theorem Ext.ofL {B H H2 : Hp} {p : Addr} {o : HO} (e : Ex B H) (n : H p = none) (k : Ex H H2) (h : H2 p = some o) : Ext B H (upd B p o) H2 := (Ext.of e k).frz n (fresh_back e n) h
theorem et_yes {σ : L2.St} {H : Hp} : EvT tYes σ H true := fun H1 _ Q q => q H1 (Ex.refl H1)
theorem given_all (n : Nat) (v : Nat → V) : given n (fun _ => true) v = (List.range n).map v := by
  unfold given
  rw [List.filter_eq_self.mpr (fun _ _ => rfl)]
theorem range_get {l : List Nat} {g : Nat → V} (h : ∀ i x, l[i]? = some x → g i = vN x) : (List.range l.length).map g = l.map vN := by
  refine List.ext_getElem? fun i => ?_
  rw [List.getElem?_map, List.getElem?_map]
  by_cases hi : i < l.length
  · rw [List.getElem?_range hi, List.getElem?_eq_getElem hi]
    exact congrArg some (h i _ (List.getElem?_eq_getElem hi))
  · rw [List.getElem?_eq_none (by rw [List.length_range]; omega), List.getElem?_eq_none (by omega)]
    rfl

/-! ### goals_of -/
def pGoals : List V → Hp → (V → Hp → Prop) → Prop := fun vs B R => ∃ (v : V) (pl : Pl), vs = [v] ∧ PlAt v B pl ∧ pl.gs.length ≤ 100 ∧ R = NsAt pl.gs
theorem scGoals : FnScope ["place", "pair"] ["place"] (defScope sGoals) := ⟨rfl, rfl, rfl, by decide +kernel, rfl, by decide +kernel, by decide +kernel⟩
theorem ok_goals {f : Addr} {fd : FuncData} (F : Fun K "goals_of" "goals_of" sGoals f fd) (ml : mg "list" = none) : FnOk P w K mg base CX0 1 f fd ["place"] (spP pGoals) := by
  refine F.ok scGoals (fun vs H Q E h => ?_) (fun cdv A outer s H vs Q E hr h => ?_)
  · obtain ⟨B, R, _, ⟨v, pl, rfl, _⟩, _⟩ := h
    rfl
  · obtain ⟨B, R, hB, ⟨v, pl, rfl, hv, hl, rfl⟩, q⟩ := h
    refine ⟨_, pss_cons (ps_if (pt_cmpR op_eq (pe_ix ix_tup (pv 0) pe_int (fun _ _ => rfl)) pe_str (nomark _)) (pss_one (ps_ret (pe_lst pa_nil))) pss_nil)
      (pss_cons (ps_if (pt_cmpR op_eq (pe_ix ix_tup (pv 0) pe_int (fun _ _ => rfl)) pe_str (nomark _))
        (pss_one (ps_ret (pe_lc (own := [("pair", 1)]) (g := gName 1) (tt := tYes) rfl scGoals.nd (pi_list (pe_ix ix_tup (pv 0) pe_int (fun _ _ => rfl))) (blkOk_by (N := ["place", "pair"]) (sc := defScope sGoals) (by decide +kernel))
          (fun _ _ _ _ _ => pg_name (i := 1) scGoals.nd rfl (Or.inl rfl)) (fun _ _ _ _ _ => pts_nil) (fun _ _ _ _ _ => pe_ix (r := rIxT K) ix_tup (pv 1) pe_int (fun _ _ => rfl))))) pss_nil)
      (pss_one (ps_ret (pe_callTy call_list_of (by rfl) ml boot_list (pa_cons (pe_ix ix_tup (pv 0) pe_int (fun _ _ => rfl)) pa_nil))))), ?_⟩
    have fin : ∀ (p : Addr) (H1 H2 : Hp), Ex H H1 → H1 p = none → Ex H1 H2 → H2 p = some (.lst (pl.gs.map vN)) → Q (.ref p) H2 := fun p H1 H2 e0 n e1 h => q _ _ _ (Ext.ofL hB (fresh_back e0 n) (e0.trans e1) h) ⟨p, rfl, upd_same⟩
    have z : ∀ {x y z : V}, atI [x, y, z] 0 = some x := rfl
    have z2 : ∀ {x y z : V}, atI [x, y, z] 2 = some z := rfl
    have zz : ∀ {x y : V}, atI [x, y] 0 = some x := rfl
    have zz1 : ∀ {x y : V}, atI [x, y] 1 = some y := rfl
    cases pl with
    | fin =>
      obtain ⟨a, x, rfl, h1⟩ := hv
      have h1 := hB _ _ h1
      refine q_when (et_test (ev_op (ev_op (ev_var rfl) ev_c (rv_ixT (st_of h1) zz)) ev_c (rv_eq rfl))) (fun hb H1 e1 => ?_) (fun hb H1 e1 => ?_)
      · exact s_retL (el_lst ea_nil (Nat.zero_le _)) fun p H2 n e2 h2 => fin p H1 H2 e1 n e2 h2
      · exact absurd rfl (of_decide_eq_false hb)
    | throw gs =>
      obtain ⟨a, x, l, ps, rfl, h1, h2, h3, h4⟩ := hv
      have h1 := hB _ _ h1
      have h2 := hB _ _ h2
      refine q_when (et_test (ev_op (ev_op (ev_var rfl) ev_c (rv_ixT (st_of h1) z)) ev_c (rv_eq rfl))) (fun hb H1 e1 => ?_) (fun hb H1 e1 => ?_)
      · exact absurd (V.str.inj (of_decide_eq_true hb)) (by decide +kernel)
      refine q_when (et_test (ev_op (ev_op (ev_var rfl) ev_c (rv_ixT (st_of (e1 _ _ h1)) z)) ev_c (rv_eq rfl))) (fun hb H2 e2 => ?_) (fun hb H2 e2 => ?_)
      · refine s_retL (el_lcL (xs := ps) (fun _ => true) (fun i => vN (gs.getD i 0)) (ev_op (ev_var rfl) ev_c (rv_ixT (st_of ((e1.trans e2) _ _ h1)) z2)) (sq_of ((e1.trans e2) _ _ h2)) (by rw [h3]; exact Nat.le_trans hl (by decide)) (fun _ => rfl) (fun i x H3 e3 hx => et_yes) (fun i x H3 e3 hx _ => ?_)) fun p H3 n e3 h5 => fin p H2 H3 (e1.trans e2) n e3 ?_
        · have hi := (List.getElem?_eq_some_iff.mp hx).1
          rw [h3] at hi
          obtain ⟨t, y, g1, g2⟩ := h4 i _ (List.getElem?_eq_getElem hi)
          rw [hx] at g1
          cases g1
          have g2 := ((e1.trans e2).trans e3) _ _ (hB _ _ g2)
          refine ev_is (ev_op (ev_var rfl) ev_c (rv_ixT (st_of g2) zz1)) ?_
          rw [List.getD_eq_getElem?_getD, List.getElem?_eq_getElem hi]
          rfl
        · rw [h5, given_all, h3, range_get fun i x hx => by rw [List.getD_eq_getElem?_getD, hx]; rfl]
          rfl
      · exact absurd rfl (of_decide_eq_false hb)
    | pick gs =>
      obtain ⟨a, x, l, rfl, h1, h2⟩ := hv
      have h1 := hB _ _ h1
      have h2 := hB _ _ h2
      refine q_when (et_test (ev_op (ev_op (ev_var rfl) ev_c (rv_ixT (st_of h1) z)) ev_c (rv_eq rfl))) (fun hb H1 e1 => ?_) (fun hb H1 e1 => ?_)
      · exact absurd (V.str.inj (of_decide_eq_true hb)) (by decide +kernel)
      refine q_when (et_test (ev_op (ev_op (ev_var rfl) ev_c (rv_ixT (st_of (e1 _ _ h1)) z)) ev_c (rv_eq rfl))) (fun hb H2 e2 => ?_) (fun hb H2 e2 => ?_)
      · exact absurd (V.str.inj (of_decide_eq_true hb)) (by decide +kernel)
      · exact s_retL (el_list (ev_op (ev_var rfl) ev_c (rv_ixT (st_of ((e1.trans e2) _ _ h1)) z2)) (sq_of ((e1.trans e2) _ _ h2))) fun p H3 n e3 h5 => fin p H2 H3 (e1.trans e2) n e3 h5
end
end Pk

namespace Pk
open PySem PySem.Spec PyProof.Rows L2 Evl

/-! ### dicts with keys that are numbers -/
abbrev kN (n : Nat) : Key := Sum.inl (n : Int)
theorem kN_inj {a b : Nat} (h : kN a = kN b) : a = b := by
  have := Sum.inl.inj h
  omega
section
variable {κ : Type} [DecidableEq κ]
theorem val_none {k : κ} : ∀ {kvs : List (κ × V)}, k ∉ kvs.map (·.1) → valV kvs k = none
  | [], _ => rfl
  | p :: r, h => by
    rw [List.map_cons, List.mem_cons, not_or] at h
    rw [valV_neg fun e => h.1 e.symm]
    exact val_none h.2
theorem val_some {k : κ} : ∀ {kvs : List (κ × V)}, k ∈ kvs.map (·.1) → (valV kvs k).isSome = true
  | [], h => by cases h
  | p :: r, h => by
    by_cases e : p.1 = k
    · rw [valV_pos e]
      rfl
    · rw [valV_neg e]
      rw [List.map_cons, List.mem_cons] at h
      rcases h with h | h
      · exact absurd h.symm e
      · exact val_some h
end
theorem mem_kN {l : List Nat} {a : Nat} : kN a ∈ l.map kN ↔ a ∈ l := by
  rw [List.mem_map]
  constructor
  · rintro ⟨b, hb, e⟩
    rw [← kN_inj e]
    exact hb
  · intro h
    exact ⟨a, h, rfl⟩
section
variable {K : PySem.W.Frag} {σ : L2.St} {H : Hp} {td ty : TE} {a : Addr} {kvs : List (Key × V)} {k : Key} {v : V}
theorem ev_dget (hd : Ev td σ H (.ref a)) (hy : Ev ty σ H (kV k)) (h : Rd H a (.dK kvs)) (e : valV kvs k = some v) : Ev (tDGet td ty) σ H v := fun H1 e1 Q q =>
  hd H1 e1 _ fun H2 e2 => hy H2 (e1.trans e2) _ fun H3 e3 => ⟨a, v, rfl, .inl ⟨kvs, k, ex_rd ((e1.trans e2).trans e3) h, rfl, e.symm⟩, q H3 (e2.trans e3)⟩
theorem ev_din (hy : Ev ty σ H (kV k)) (hd : Ev td σ H (.ref a)) (h : Rd H a (.dK kvs)) : Ev (tDIn ty td) σ H (.bl (valV kvs k).isSome) := fun H1 e1 Q q =>
  hy H1 e1 _ fun H2 e2 => hd H2 (e1.trans e2) _ fun H3 e3 => ⟨a, _, rfl, .inl ⟨kvs, k, ex_rd ((e1.trans e2).trans e3) h, rfl, rfl⟩, q H3 (e2.trans e3)⟩
theorem ev_dnotin (hy : Ev ty σ H (kV k)) (hd : Ev td σ H (.ref a)) (h : Rd H a (.dK kvs)) : Ev (tDNotIn ty td) σ H (.bl (!(valV kvs k).isSome)) := fun H1 e1 Q q =>
  hy H1 e1 _ fun H2 e2 => hd H2 (e1.trans e2) _ fun H3 e3 => ⟨a, _, rfl, .inl ⟨kvs, k, ex_rd ((e1.trans e2).trans e3) h, rfl, rfl⟩, q H3 (e2.trans e3)⟩
/-- d[k] = (..), d[k] = v -/
theorem q_dputU {tv : TE} {tz : TS} {D : Ends} {xs : List V} (hv : EvU tv σ H xs) (ha : Ev td σ H (.ref a)) (hy : Ev ty σ H (kV k)) (hd : H a = some (.dK kvs)) (hl : kvs.length < sizeLine)
    (kk : ∀ t H1, Ex H H1 → tz D σ (upd H1 a (.dK (putK kvs k (.ref t))))) : tSeq (sDPut td ty tv) tz D σ H := hv H (Ex.refl H) _ fun t H1 _ e1 _ => ha H1 e1 _ fun H2 e2 => hy H2 (e1.trans e2) _ fun H3 e3 =>
  ⟨a, _, rfl, DPut.k (k := k) (((e1.trans e2).trans e3) _ _ hd) hl, kk t H3 ((e1.trans e2).trans e3)⟩
theorem s_dput {tv : TE} {D : Ends} (hv : Ev tv σ H v) (ha : Ev td σ H (.ref a)) (hy : Ev ty σ H (kV k)) (hd : H a = some (.dK kvs)) (hl : kvs.length < sizeLine)
    (kk : ∀ H1, Ex H H1 → D.nx σ (upd H1 a (.dK (putK kvs k v)))) : sDPut td ty tv D σ H := hv H (Ex.refl H) _ fun H1 e1 => ha H1 e1 _ fun H2 e2 => hy H2 (e1.trans e2) _ fun H3 e3 =>
  ⟨a, _, rfl, DPut.k (k := k) (((e1.trans e2).trans e3) _ _ hd) hl, kk H3 ((e1.trans e2).trans e3)⟩
/-- for k, x in enumerate(xs) -/
theorem for_enum {xs : List V} {i j : Nat} {tb : TS} {D : Ends} (Pv : Nat → L2.St → Hp → Prop) (h0 : Pv 0 σ H) (hl : ∀ n σ H, Pv n σ H → SqL K H a xs)
    (hs : ∀ n x σ H T, xs[n]? = some x → Pv n σ H → H T = none → tb { D with nx := Pv (n + 1), ct := Pv (n + 1), bk := D.nx } ((σ.set i (some (.int (n : Int)))).set j (some x)) (upd H T (.tup [.int (n : Int), x]))) (hd : ∀ σ H, Pv xs.length σ H → D.nx σ H) :
    ∃ W : Nat → Nat → L2.St → Hp → Prop, (∃ m, W 0 m σ H) ∧ ∀ n m σ H, W n m σ H →
      ((Ite K a).stop n H ∧ D.nx σ H) ∨ ((Ite K a).go n H ∧ ∃ N : L2.St → Hp → Prop, (∀ σ' H', N σ' H' → ∃ m', m' < m ∧ W (n + 1) m' σ' H') ∧ ∀ x H', (Ite K a).yld n H x H' → gTup K 2 (gCons (gName i) (gCons (gName j) gNil)) x σ H' fun σ2 H2 => tb { D with nx := N, ct := N, bk := D.nx } σ2 H2) := by
  refine ⟨fun n m σ H => m = xs.length - n ∧ n ≤ xs.length ∧ Pv n σ H, ⟨xs.length, by simp, Nat.zero_le _, h0⟩, ?_⟩
  rintro n m σ H ⟨rfl, hi, p⟩
  have q := hl n σ H p
  by_cases hlt : n < xs.length
  · refine .inr ⟨⟨xs, xs[n], q, by simp [hlt]⟩, Pv (n + 1), fun σ' H' p' => ⟨xs.length - (n + 1), by omega, rfl, hlt, p'⟩, fun x H' y => ?_⟩
    obtain ⟨T, z, rfl, nT, rfl, hz⟩ := y
    exact ⟨T, _, rfl, st_of upd_same, rfl, _, _, rfl, _, _, rfl, rfl, hs n z σ H T (hz xs q) p nT⟩
  · have e : n = xs.length := by omega
    subst e
    exact .inl ⟨⟨xs, q, Nat.le_refl _⟩, hd σ H p⟩
theorem q_forEnum {te : TE} {B : Hp} {R : V → Hp → Prop} {n i j : Nat} {tb tz : TS} {D : Ends} (h : EvH te σ B H R) (hn : n = 2)
    (k : ∀ v B2 H2, Ext B H B2 H2 → R v B2 → ∃ (a : Addr) (xs : List V) (Pv : Nat → L2.St → Hp → Prop), v = .ref a ∧ SqL K H2 a xs ∧ Pv 0 σ H2 ∧ (∀ n σ H, Pv n σ H → SqL K H a xs) ∧
      (∀ n x σ H T, xs[n]? = some x → Pv n σ H → H T = none → tb { D with nx := Pv (n + 1), ct := Pv (n + 1), bk := tz D } ((σ.set i (some (.int (n : Int)))).set j (some x)) (upd H T (.tup [.int (n : Int), x]))) ∧ (∀ σ H, Pv xs.length σ H → tz D σ H)) :
    tSeq (tFor (iEnum K (tCons te tNil)) (gTup K n (gCons (gName i) (gCons (gName j) gNil))) tb) tz D σ H := by
  subst hn
  exact h _ fun v B2 H2 x r => by
    obtain ⟨a, xs, Pv, rfl, hs, h0, hl, ht, hd⟩ := k v B2 H2 x r
    exact ⟨a, xs, rfl, hs, for_enum (D := { D with nx := tz D }) Pv h0 hl ht hd⟩
end

/-! ### come_by -/
def DkAt (Bd : List Pl) (st : Nat) (v : V) (H : Hp) : Prop := ∃ (d : Addr) (kvs : List (Key × V)) (ks : List Nat), v = V.ref d ∧ H d = some (HO.dK kvs) ∧ kvs.map (·.1) = ks.map kN ∧ ks.Nodup ∧ ∀ g, g ∈ ks ↔ g ∈ rl Bd st
theorem DkAt.mono {Bd : List Pl} {st : Nat} : Mono (DkAt Bd st) := fun v B B2 e ⟨d, kvs, ks, h1, h2, h3⟩ => ⟨d, kvs, ks, h1, e _ _ h2, h3⟩
def pCome : List V → Hp → (V → Hp → Prop) → Prop := fun vs B R => ∃ (v : V) (Bd : List Pl) (st : Nat), vs = [v, vN st] ∧ BdAt Bd v B ∧ Wf Bd ∧ st < Bd.length ∧ R = DkAt Bd st
structure CI (Bd : List Pl) (st : Nat) (B0 H0 B1 : Hp) (d r : Addr) (ks : List Nat) (H' : Hp) : Prop where
  ext : Ext B0 H0 B1 H'
  nd : B1 d = none
  nr : B1 r = none
  ne : d ≠ r
  dk : ∃ kvs, H' d = some (.dK kvs) ∧ kvs.map (·.1) = ks.map kN
  rw : H' r = some (.lst (ks.map vN))
  h0 : st ∈ ks
  un : ks.Nodup
  re : ∀ k ∈ ks, Reach Bd st k
theorem CI.run {Bd : List Pl} {st : Nat} {B0 H0 B1 : Hp} {d r : Addr} {ks : List Nat} {H' H2 : Hp} (c : CI Bd st B0 H0 B1 d r ks H') (e : Ex H' H2) : CI Bd st B0 H0 B1 d r ks H2 :=
  ⟨c.ext.run e, c.nd, c.nr, c.ne, by
    obtain ⟨kvs, h1, h2⟩ := c.dk
    exact ⟨kvs, e _ _ h1, h2⟩, e _ _ c.rw, c.h0, c.un, c.re⟩
theorem CI.ext2 {Bd : List Pl} {st : Nat} {B0 H0 B1 : Hp} {d r : Addr} {ks : List Nat} {H' B2 H2 : Hp} (c : CI Bd st B0 H0 B1 d r ks H') (e : Ext B1 H' B2 H2) : CI Bd st B0 H0 B2 d r ks H2 :=
  ⟨c.ext.trans e, by
    obtain ⟨kvs, h1, h2⟩ := c.dk
    exact e.off h1 c.nd, e.off c.rw c.nr, c.ne, by
    obtain ⟨kvs, h1, h2⟩ := c.dk
    exact ⟨kvs, e.keep h1, h2⟩, e.keep c.rw, c.h0, c.un, c.re⟩
theorem CI.snoc {Bd : List Pl} {st g : Nat} {B0 H0 B1 : Hp} {d r : Addr} {ks : List Nat} {H' : Hp} {kvs : List (Key × V)} {v : V} (c : CI Bd st B0 H0 B1 d r ks H') (n1 : H0 d = none) (n2 : H0 r = none) (hd : H' d = some (.dK kvs)) (hk : kvs.map (·.1) = ks.map kN) (hg : g ∉ ks) (hR : Reach Bd st g) {H2 : Hp} (e : Ex (upd H' d (.dK (putK kvs (kN g) v))) H2) :
    CI Bd st B0 H0 B1 d r (ks ++ [g]) (upd H2 r (.lst (ks.map vN ++ [vN g]))) := by
  refine ⟨((c.ext.mut n1 c.nd).run e).mut n2 c.nr, c.nd, c.nr, c.ne, ⟨putK kvs (kN g) v, ?_, ?_⟩, ?_, List.mem_append_left _ c.h0, ?_, fun k hk => ?_⟩
  · rw [upd_ne c.ne]
    exact e _ _ upd_same
  · rw [putK_new _ (val_none (by rw [hk, mem_kN]; exact hg)), List.map_append, List.map_append, hk]
    rfl
  · rw [upd_same, List.map_append]
    rfl
  · rw [List.nodup_append]
    refine ⟨c.un, by simp, fun a ha b hb e' => ?_⟩
    rw [List.mem_singleton] at hb
    rw [e', hb] at ha
    exact hg ha
  · rcases List.mem_append.mp hk with h | h
    · exact c.re k h
    · rw [List.mem_singleton] at h
      subst h
      exact hR
section
variable {P : Program} {w : World} {K : PySem.W.Frag} {mg : Str → Option Value} {base : Heap}
theorem scCome : FnScope ["board", "start", "found", "row", "at", "k", "goal"] ["board", "start"] (defScope sCome) := ⟨rfl, rfl, rfl, by decide +kernel, rfl, by decide +kernel, by decide +kernel⟩
theorem at_vn {l : List Nat} {i x : Nat} (h : l[i]? = some x) : atI (l.map vN) (i : Int) = some (vN x) := atI_nat (by rw [List.getElem?_map, h]; rfl)
theorem ok_come {f fG : Addr} {fd fdG : FuncData} (F : Fun K "come_by" "come_by" sCome f fd) (FG : Fun K "goals_of" "goals_of" sGoals fG fdG) (bG : Binds K fdG ["place"] []) (gG : mg "goals_of" = some (.ref fG)) (ml : mg "list" = none) (mn : mg "len" = none) (me : mg "enumerate" = none) :
    FnOk P w K mg base CX0 2 f fd ["board", "start"] (spP pCome) := by
  have GG : FnOk P w K mg base CX0 1 fG fdG ["place"] (spP pGoals) := ok_goals FG ml
  refine F.ok scCome (fun vs H Q E h => ?_) (fun cdv A outer s H vs Q E hr h => ?_)
  · obtain ⟨B, R, _, ⟨v, Bd, st, rfl, _⟩, _⟩ := h
    rfl
  · obtain ⟨B, R, hB, ⟨v, Bd, st, rfl, hv, W, hst, rfl⟩, q⟩ := h
    obtain ⟨ab, ps, rfl, hab, hps⟩ := hv
    have hu := hu_of hr
    refine ⟨_, pss_cons (ps_set (i := 2) scCome.nd rfl (.inl rfl) (pe_disp (pps_cons (pv 1) pe_non pps_nil) (by rfl) (by rfl) (fun z => by cases z) (by decide)))
      (pss_cons (ps_set (i := 3) scCome.nd rfl (.inl rfl) (pe_lst (pa_cons (pv 1) pa_nil)))
      (pss_cons (ps_set (i := 4) scCome.nd rfl (.inl rfl) pe_int)
      (pss_cons (ps_while PassesOwn.never (pt_cmpR op_lt (pv 4) (pe_callB call_len_seq (by rfl) mn PySem.boot_len (pa_cons (pv 3) pa_nil)) (nomark _))
        (pss_cons (ps_for PassesOwn.never rfl (pi_enum (by rfl) me (pa_cons (pe_call GG hr (by rfl) gG FG.kp bG .nil pass0 (pa_cons (pe_ix ix_list (pv 0) (pe_ix ix_list (pv 3) (pv 4) (fun _ _ => rfl)) (fun _ _ => rfl)) pa_nil)) pa_nil))
            (pg_tup rfl (pgs_cons (pg_name (i := 5) scCome.nd rfl (.inl rfl)) (pgs_cons (pg_name (i := 6) scCome.nd rfl (.inl rfl)) pgs_nil)))
            (pss_one (ps_if (pt_cmp (pc_dnotin hu (pv 6) (pv 2)))
              (pss_cons (ps_dput hu (pv 2) (pv 6) (pe_tup (pa_cons (pe_ix ix_list (pv 3) (pv 4) (fun _ _ => rfl)) (pa_cons (pv 5) pa_nil))) rfl)
                (pss_one (ps_expr (pe_bm PySem.F.plainAttrs_list PySem.F.slot_list_append PySem.F.type_list_append mt_append (pv 3) (pa_cons (pv 6) pa_nil))))) pss_nil)))
          (pss_one (ps_set (i := 4) scCome.nd rfl (.inl rfl) (pe_op op_add (pv 4) pe_int)))))
      (pss_one (ps_ret (pv 2)))))), ?_⟩
    -- found = {start: None}
    intro d nd
    refine ⟨_, rfl, ⟨upd_same, [(kN st, .non)], rfl, by show 1 ≤ 15; decide, ?_⟩⟩
    rw [upd_upd]
    have em : mergeK [] [(kN st, V.non)] = [(kN st, V.non)] := putK_new (kvs := []) (k := kN st) V.non rfl
    rw [em]
    -- row = [start]
    refine q_asgL (el_lst (ea_cons (ev_var rfl) ea_nil) (by show 1 ≤ 100000; decide)) fun r H2 nr e2 hr2 => ?_
    refine q_asg ev_c fun H3 e3 => ?_
    have nrH : H r = none := by
      by_cases hx : r = d
      · rw [hx]
        exact nd
      · rw [upd_ne hx] at nr
        exact nr
    have ne : d ≠ r := fun z => by
      rw [← z, upd_same] at nr
      cases nr
    have c0 : CI Bd st B H B d r [st] H3 := by
      refine ⟨(((Ext.refl hB).mut nd (fresh_back hB nd)).run e2).run e3, fresh_back hB nd, fresh_back hB nrH, ne, ⟨_, e3 _ _ (e2 _ _ upd_same), rfl⟩, e3 _ _ hr2, by simp, by simp, fun k hk => ?_⟩
      rw [List.mem_singleton] at hk
      subst hk
      exact .refl _
    refine q_while (fun m σ H' => ∃ (i : Nat) (ks : List Nat) (B1 : Hp) (x5 x6 : Option V), σ = [some (.ref ab), some (vN st), some (.ref d), some (.ref r), some (vN i), x5, x6] ∧ CI Bd st B H B1 d r ks H' ∧ i ≤ ks.length ∧ m = Bd.length - i ∧ ∀ j k, j < i → ks[j]? = some k → ∀ g ∈ goals Bd k, g ∈ ks)
      (Bd.length - 0) ⟨0, [st], B, none, none, rfl, c0, Nat.zero_le _, rfl, fun j k h => absurd h (Nat.not_lt_zero _)⟩ fun m σ H' hW => ?_
    obtain ⟨i, ks, B1, x5, x6, rfl, c, hi, rfl, cl⟩ := hW
    have hab1 : B1 ab = some (.lst ps) := c.ext.bb _ _ hab
    have hps1 : BdVs ps B1 Bd := hps.mono c.ext.bb
    refine ⟨decide ((i : Int) < (ks.length : Int)), et_test (ev_op (ev_var rfl) (ev_is (ev_len (ev_var rfl) (sq_of c.rw)) (by rw [List.length_map])) rv_I0), fun hb H4 e4 => ?_, fun hb H4 e4 => ?_⟩
    · -- one turn
      have hlt : i < ks.length := by have := of_decide_eq_true hb; omega
      have hk := List.getElem?_eq_getElem hlt
      generalize hp : ks[i] = p at hk
      have hpr : Reach Bd st p := c.re p (List.mem_of_getElem? hk)
      have hpl := hpr.lt W hst
      obtain ⟨v, hv1, hv2⟩ := hps1.2 p _ (List.getElem?_eq_getElem hpl)
      have hgs : goals Bd p = (Bd[p]).gs := goals_of (List.getElem?_eq_getElem hpl)
      have c4 := c.run e4
      refine ⟨fun σ' H' => ∃ (ks' : List Nat) (B2 : Hp) (x5 x6 : Option V), σ' = [some (.ref ab), some (vN st), some (.ref d), some (.ref r), some (vN (i + 1)), x5, x6] ∧ CI Bd st B H B2 d r ks' H' ∧ i + 1 ≤ ks'.length ∧ ∀ j k, j < i + 1 → ks'[j]? = some k → ∀ g ∈ goals Bd k, g ∈ ks', fun σ2 H2 hN => ?_, ?_⟩
      · obtain ⟨ks', B2, y5, y6, e1, c', hl, cl'⟩ := hN
        have hn := nd_len c'.un fun k hk => (c'.re k hk).lt W hst
        exact ⟨Bd.length - (i + 1), by omega, i + 1, ks', B2, y5, y6, e1, c', hl, rfl, cl'⟩
      · -- the goals
        refine q_forEnum (B := B1) (R := NsAt (goals Bd p)) ?_ rfl fun v' B2 H5 x5e hl => ?_
        · refine evh_call1 (v := v) c4.ext.sub ?_ ⟨v, Bd[p], rfl, hv2, by rw [← hgs]; exact W.ways p, by rw [hgs]⟩
          exact ev_op (ev_var rfl) (ev_op (ev_var rfl) (ev_var rfl) (rv_ixL (sq_of c4.rw) (at_vn hk))) (rv_ixL (sq_of (c4.ext.sub _ _ hab1)) (atI_nat hv1))
        obtain ⟨l, rfl, hl⟩ := hl
        have c5 := c4.ext2 x5e
        refine ⟨l, (goals Bd p).map vN, fun n σ' H' => ∃ (ks' : List Nat) (y5 y6 : Option V), σ' = [some (.ref ab), some (vN st), some (.ref d), some (.ref r), some (vN i), y5, y6] ∧ CI Bd st B H B2 d r ks' H' ∧ ks'[i]? = some p ∧ (∀ j k, j < i → ks'[j]? = some k → ∀ g ∈ goals Bd k, g ∈ ks') ∧ ∀ j g, j < n → (goals Bd p)[j]? = some g → g ∈ ks',
          rfl, sq_of (x5e.sub _ _ hl), ⟨ks, x5, x6, rfl, c5, hk, cl, fun j g h => absurd h (Nat.not_lt_zero _)⟩, fun n σ H h => ?_, fun n x σ H6 T hx h nT => ?_, fun σ H6 h => ?_⟩
        · obtain ⟨ks', _, _, _, c6, _⟩ := h
          exact sq_of (c6.ext.sub _ _ hl)
        · obtain ⟨ks', y5, y6, rfl, c6, hk6, cl6, dn6⟩ := h
          obtain ⟨g, hg, rfl⟩ : ∃ g, (goals Bd p)[n]? = some g ∧ x = vN g := by
            rw [List.getElem?_map] at hx
            obtain ⟨g, h1, h2⟩ := Option.map_eq_some_iff.mp hx
            exact ⟨g, h1, h2.symm⟩
          have eT : Ex H6 (upd H6 T (.tup [.int (n : Int), vN g])) := Ex.new nT
          have c7 := c6.run eT
          obtain ⟨kvs, hd7, hkv⟩ := c7.dk
          refine s_when (et_B (ev_dnotin (k := kN g) (ev_var rfl) (ev_var rfl) (.inl hd7))) (fun hb H8 e8 => ?_) (fun hb H8 e8 => ?_)
          · have hg7 : g ∉ ks' := fun m => by
              rw [val_some (by rw [hkv, mem_kN]; exact m)] at hb
              cases hb
            have c8 := c7.run e8
            have hd8 := e8 _ _ hd7
            -- found[goal] = (row[at], k)
            refine q_dputU (k := kN g) (eu_tup (ea_cons (ev_op (ev_var rfl) (ev_var rfl) (rv_ixL (sq_of c8.rw) (at_vn hk6))) (ea_cons (ev_var rfl) ea_nil)) (by show 2 ≤ 100000; decide)) (ev_var rfl) (ev_var rfl) hd8 ?_ fun t H9 e9 => ?_
            · have hln : kvs.length = ks'.length := by
                have := congrArg List.length hkv
                rw [List.length_map, List.length_map] at this
                exact this
              have hn := nd_len c8.un fun k hk => (c8.re k hk).lt W hst
              have := W.len
              exact small1000 (by omega)
            have c9 := c8.run e9
            have hd9 := e9 _ _ hd8
            -- row.append(goal)
            refine s_app (l := r) (xs := ks'.map vN) (by rw [upd_ne c9.ne.symm]; exact c9.rw) (ev_var rfl) (ev_var rfl) ?_ fun H10 e10 => ?_
            · have hn := nd_len c9.un fun k hk => (c9.re k hk).lt W hst
              have := W.len
              rw [List.length_map]
              omega
            · refine ⟨ks' ++ [g], _, _, rfl, c9.snoc (v := .ref t) nd nrH hd9 hkv hg7 (.step hpr (List.mem_of_getElem? hg)) e10, ?_, ?_, ?_⟩
              · rw [List.getElem?_append_left (List.getElem?_eq_some_iff.mp hk6).1]
                exact hk6
              · intro j k hj hkj g' hg'
                have hjl : j < ks'.length := Nat.lt_trans hj (List.getElem?_eq_some_iff.mp hk6).1
                rw [List.getElem?_append_left hjl] at hkj
                exact List.mem_append_left _ (cl6 j k hj hkj g' hg')
              · intro j g' hj hgj
                by_cases hjn : j < n
                · exact List.mem_append_left _ (dn6 j g' hjn hgj)
                · have : j = n := by omega
                  subst this
                  rw [hg] at hgj
                  cases hgj
                  exact List.mem_append_right _ (List.mem_singleton.mpr rfl)
          · have hg7 : g ∈ ks' := by
              apply Classical.byContradiction
              intro m
              rw [val_none (by rw [hkv, mem_kN]; exact m)] at hb
              cases hb
            refine ⟨ks', _, _, rfl, c7.run e8, hk6, cl6, fun j g' hj hgj => ?_⟩
            by_cases hjn : j < n
            · exact dn6 j g' hjn hgj
            · have : j = n := by omega
              subst this
              rw [hg] at hgj
              cases hgj
              exact hg7
        · obtain ⟨ks', y5, y6, rfl, c6, hk6, cl6, dn6⟩ := h
          -- at = at + 1
          refine s_asg (ev_op (ev_var rfl) ev_c rv_I0) fun H7 e7 => ?_
          refine ⟨ks', B2, y5, y6, rfl, c6.run e7, Nat.succ_le_of_lt (List.getElem?_eq_some_iff.mp hk6).1, fun j k hj hkj g hg => ?_⟩
          by_cases hji : j < i
          · exact cl6 j k hji hkj g hg
          · have : j = i := by omega
            subst this
            rw [hk6] at hkj
            cases hkj
            obtain ⟨n, hn⟩ := List.getElem?_of_mem hg
            refine dn6 n g ?_ hn
            rw [List.length_map]
            exact (List.getElem?_eq_some_iff.mp hn).1
    · -- return found
      have hge : ¬ i < ks.length := by have := of_decide_eq_false hb; omega
      have c4 := c.run e4
      obtain ⟨kvs, hd4, hkv⟩ := c4.dk
      refine s_ret (ev_var rfl) fun H5 e5 => ?_
      refine q (.ref d) (upd B1 d (.dK kvs)) H5 ((c4.ext.run e5).frz nd c4.nd (e5 _ _ hd4)) ⟨d, kvs, ks, rfl, upd_same, hkv, c4.un, fun g => found_all W hst c4.h0 c4.re (fun k hk g hg => ?_) g⟩
      obtain ⟨j, hj⟩ := List.getElem?_of_mem hk
      exact cl j k (by have := (List.getElem?_eq_some_iff.mp hj).1; omega) hj g hg
end
end Pk

namespace Pk
open PySem PySem.Spec PyProof.Rows L2 Evl

theorem epa_of {ta : TA} {σ : L2.St} {B : Hp} {vs : List V} (h : EvA ta σ B vs) : EvPA ta σ B fun ws _ => ws = vs := fun H k Q q => h H k Q fun H2 e => q vs B H2 (Ext.of k e) rfl
section
variable {K : PySem.W.Frag} {σ : L2.St} {B B2 H : Hp} {ta tb tc te tx td : TE} {v x y z : V} {R S : V → Hp → Prop} {D : Ends} {tz : TS}
theorem q_asgH {i : Nat} (h : EvH te σ B H R) (k : ∀ v B2 H2, Ext B H B2 H2 → R v B2 → tz D (σ.set i (some v)) H2) : tSeq (tAsg te (gName i)) tz D σ H := h _ k
theorem s_retH (h : EvH te σ B H R) (k : ∀ v B2 H2, Ext B H B2 H2 → R v B2 → D.rt v H2) : tRet te D σ H := h _ k
theorem evh_cb1 {r : List V → Hp → VK → Prop} (h : EvH ta σ B H R) (hr : ∀ v B2 H2, Ext B H B2 H2 → R v B2 → ∀ Q : VK, (∀ w B3 H3, Ext B2 H2 B3 H3 → S w B3 → Q w H3) → r [v] H2 Q) : EvH (tCB r (tCons ta tNil)) σ B H S := fun Q q =>
  h _ fun v B2 H2 a rv => hr v B2 H2 a rv Q fun w B3 H3 b s => q w B3 H3 (a.trans b) s
/-- a tuple of two numbers and a new thing -/
theorem evh_tup3 (h1 : Ev ta σ H x) (h2 : Ev tb σ H y) (h3 : ∀ H2, Ex H H2 → EvH tc σ B H2 R) (m : Mono R) : EvH (tTup (tCons ta (tCons tb (tCons tc tNil)))) σ B H fun v B2 => ∃ p z, v = .ref p ∧ B2 p = some (.tup [x, y, z]) ∧ R z B2 := fun Q q =>
  h1 H (Ex.refl H) _ fun H1 e1 => h2 H1 e1 _ fun H2 e2 => h3 H2 (e1.trans e2) _ fun z B3 H3 a r => ⟨sz_of (by show 3 ≤ 100000; decide), fun p n => q _ _ _ ((a.pre (e1.trans e2)).new n) ⟨p, z, rfl, upd_same, m z _ _ (Ex.new (a.noB n)) r⟩⟩
/-- xs.append(e), xs a name's -/
theorem s_appH {i : Nat} {l : Addr} {xs : List V} (hi : σ[i]? = some (some (.ref l))) (h : EvH te σ B H R) (hl : H l = some (.lst xs)) (hz : xs.length < 100000) (k : ∀ v B2 H2, Ext B H B2 H2 → R v B2 → D.nx σ (upd H2 l (.lst (xs ++ [v])))) :
    tDrop (tBM K "list" rAppend (tVar i) (tCons te tNil)) D σ H :=
  ⟨.ref l, hi, .inl ⟨rfl, xs, sq_of hl⟩, h _ fun v B2 H2 a r => ⟨l, xs, v, rfl, rfl, a.keep hl, sz_lt hz, k v B2 H2 a r⟩⟩
/-- a comprehension over a thing that is made on the way -/
theorem evh_lc {tl : TE} {j : Nat} {ws : List Nat} (h : EvH tl σ B H R) (hw : ∀ x, wipe ((wipe σ ws).set j (some x)) ws = wipe σ ws)
    (k : ∀ v B2 H2, Ext B H B2 H2 → R v B2 → ∃ (a : Addr) (xs : List V) (Ri : Nat → V → Hp → Prop), v = .ref a ∧ B2 a = some (.lst xs) ∧ xs.length ≤ 40000 ∧ (∀ i, Mono (Ri i)) ∧ (∀ i x B3, Ex B2 B3 → xs[i]? = some x → EvP te ((wipe σ ws).set j (some x)) B3 (Ri i)) ∧
      ∀ p vs B3, Ex B2 B3 → B3 p = some (.lst vs) → Lcs B3 Ri xs.length vs → S (.ref p) B3) : EvH (tLc (iList K tl) (gName j) tYes te ws) σ B H S := fun Q q =>
  h _ fun v B2 H2 a r => by
    obtain ⟨l, xs, Ri, rfl, hx, hz, m, he, hf⟩ := k v B2 H2 a r
    exact ⟨l, rfl, ⟨xs, sq_of (a.sub _ _ hx)⟩, fun Dl hD => lc_list (xs := xs) (Lw B2 H2 Ri Dl) (lw_start a.sub hD) (fun i H' _ p => by
        obtain ⟨B', vs, b, _⟩ := p
        exact sq_of (b.hh _ _ (a.sub _ _ hx))) (fun i x H' hi p => ⟨hw x, lw_turn m hD p (by have := (List.getElem?_eq_some_iff.mp hi).1; omega) fun B3 b => he i x B3 b hi⟩)
      fun H' p => lw_done m hD p fun w B3 H3 b r => by
        obtain ⟨p, vs, rfl, h1, h2⟩ := r
        exact q _ B3 H3 (a.trans b) (hf p vs B3 b.bb h1 h2)⟩
end

/-! ### comprehensions over the keys of a dict, under its lock -/
section
variable {K : PySem.W.Frag} {σ : L2.St} {H H' : Hp} {td te : TE} {t : TT}
theorem el_lcK {d : Addr} {od : Obj} {kvs : List (Key × V)} {j : Nat} {vs : List Nat} (f : Nat → Bool) (v : Nat → V) (h : Ev td σ H (.ref d)) (hd : H d = some (.frz od (.dK kvs))) (hz : kvs.length ≤ 40000) (hw : ∀ x, wipe ((wipe σ vs).set j (some x)) vs = wipe σ vs)
    (ht : ∀ (i : Nat) (k : Key) (y : V) H1, Ex H H1 → kvs[i]? = some (k, y) → EvT t ((wipe σ vs).set j (some (kV k))) H1 (f i)) (he : ∀ (i : Nat) (k : Key) (y : V) H1, Ex H H1 → kvs[i]? = some (k, y) → f i = true → Ev te ((wipe σ vs).set j (some (kV k))) H1 (v i)) :
    EvL (tLc (iKeys td) (gName j) t te vs) σ H (given kvs.length f v) := fun H0 e Q q => h H0 e _ fun H1 e1 => ⟨d, od, rfl, .inl ⟨kvs, (e.trans e1) _ _ hd, fun Dl hD => by
  refine ⟨fun i m H2 => m = kvs.length - i ∧ i ≤ kvs.length ∧ Cw H1 f v Dl i H2, ⟨kvs.length, by simp, Nat.zero_le _, hD, Ex.new hD, upd_same⟩, ?_⟩
  rintro i m H2 ⟨rfl, hi, p⟩
  have q1 : H2 d = some (.frz od (.dK kvs)) := p.2.1 _ _ ((e.trans e1) _ _ hd)
  by_cases hlt : i < kvs.length
  · refine .inr ⟨⟨q1, hlt⟩, Cw H1 f v Dl (i + 1), fun H' p' => ⟨kvs.length - (i + 1), by omega, rfl, hlt, p'⟩, fun x H' y => ?_⟩
    obtain ⟨rfl, k, y, hk, rfl⟩ := y
    exact ⟨hw _, cw_turn p (by omega) (ht i k y H1 (e.trans e1) hk) fun hf => he i k y H1 (e.trans e1) hk hf⟩
  · have hn : i = kvs.length := by omega
    subst hn
    exact .inl ⟨⟨q1, Nat.le_refl _⟩, q Dl H2 (fresh_back e1 p.1) (e1.trans p.2.1) p.2.2⟩⟩⟩
/-- name = [.. over d ..], d locked meanwhile -/
theorem q_lockL {d : Addr} {u : HO} {i : Nat} {xs : List V} {D : Ends} {tz : TS} (hd : H d = some u) (mu : Mut (some u)) (h : ∀ od, EvL te σ (upd H d (.frz od u)) xs) (k : ∀ p H1, H p = none → Ex H H1 → H1 p = some (.lst xs) → tz D (σ.set i (some (.ref p))) H1) :
    tSeq (tLock (tAsg te (gName i))) tz D σ H := ⟨d, u, hd, mu, fun od => h od _ (Ex.refl _) _ fun p H2 n e hp => by
  have npd : p ≠ d := fun z => by
    rw [z, upd_same] at n
    cases n
  refine ⟨e _ _ upd_same, k p _ ?_ (fun a o q => ?_) ?_⟩
  · rw [upd_ne npd] at n
    exact n
  · by_cases ha : a = d
    · subst ha
      rw [hd] at q
      cases q
      exact upd_same
    · rw [upd_ne ha]
      exact e _ _ (by rw [upd_ne ha]; exact q)
  · rw [upd_ne npd]
    exact hp⟩
end
/-- filtered by what stands at the place -/
theorem given_filter (ks : List Nat) (q : Nat → Bool) : given ks.length (fun i => q (ks.getD i 0)) (fun i => vN (ks.getD i 0)) = (ks.filter q).map vN := by
  unfold given
  have e : ks = (List.range ks.length).map fun i => ks.getD i 0 := by
    refine List.ext_getElem? fun i => ?_
    rw [List.getElem?_map]
    by_cases hi : i < ks.length
    · rw [List.getElem?_range hi, List.getElem?_eq_getElem hi, Option.map_some, List.getD_eq_getElem?_getD, List.getElem?_eq_getElem hi]
      rfl
    · rw [List.getElem?_eq_none (by omega), List.getElem?_eq_none (by rw [List.length_range]; omega)]
      rfl
  have e2 : ks.filter q = ((List.range ks.length).map fun i => ks.getD i 0).filter q := congrArg (List.filter q) e
  rw [e2, List.filter_map, List.map_map]
  rfl

/-! ### sorted -/
section
variable {K : PySem.W.Frag} {H : Hp} {Q : VK}
theorem sorted_by {β : Type} (us : List β) (val : β → V) (dat : β → PyData) {a : Addr} (hs : SqL K H a (us.map val)) (hd : ∀ u ∈ us, Dp K H (val u) (dat u)) (hal : PySem.W.AllAlike (us.map dat)) (hk : PySem.W.Sortable (us.map dat)) (hdep : ∀ u ∈ us, (dat u).depth ≤ 8)
    (q : ∀ p, H p = none → Q (.ref p) (upd H p (.lst ((us.mergeSort (PySem.W.dataLe false dat)).map val)))) : rSortedDt K [V.ref a] H Q := by
  refine ⟨a, us.map fun u => (val u, dat u), rfl, ?_, fun z hz => ?_, ?_, ?_, fun z hz => ?_, fun p hp => ?_⟩
  · rw [List.map_map]
    exact hs
  · obtain ⟨u, hu, rfl⟩ := List.mem_map.mp hz
    exact hd u hu
  · rw [List.map_map]
    exact hal
  · rw [List.map_map]
    exact hk
  · obtain ⟨u, hu, rfl⟩ := List.mem_map.mp hz
    exact hdep u hu
  · have g := PySem.W.sort_maps (r := PySem.W.dataLe false dat) (s := PySem.W.dataLe false (fun z : V × PyData => z.2)) (fun u => (val u, dat u)) (l := us) (fun _ _ _ _ => rfl)
    rw [← g, List.map_map]
    exact q p hp
/-- sorted of a list of numbers, all different -/
theorem sorted_ns {a : Addr} {ks m : List Nat} (hs : SqL K H a (ks.map vN)) (hn : ks.Nodup) (hm : m.Pairwise (· < ·)) (hmem : ∀ g, g ∈ ks ↔ g ∈ m) (q : ∀ p, H p = none → Q (.ref p) (upd H p (.lst (m.map vN)))) : rSortedI K [V.ref a] H Q := by
  refine ⟨a, up ks, rfl, by rw [← vn_map]; exact hs, fun ys p hp hs np => ?_⟩
  have e := sorted_is hp hs hn hm hmem
  subst e
  rw [← vn_map]
  exact q p np
end
/-- sorted data, rising -/
theorem sorted_pw {β : Type} (us : List β) (dat : β → PyData) : (us.mergeSort (PySem.W.dataLe false dat)).Pairwise fun x y => PySem.W.dataLt (dat y) (dat x) = false := by
  refine (PySem.W.sort_pairwise (PySem.W.sortLe_total _ false _) us).imp fun {x y} h => ?_
  have h2 : (!PySem.W.dataLt (dat y) (dat x)) = true := h
  simpa using h2
end Pk

namespace Pk
open PySem PySem.Spec PyProof.Rows L2 Evl
section
variable {P : Program} {w : World} {K : PySem.W.Frag} {mg : Str → Option Value} {base : Heap}
def pReached : List V → Hp → (V → Hp → Prop) → Prop := fun vs B R => ∃ (v : V) (Bd : List Pl) (st : Nat), vs = [v, vN st] ∧ BdAt Bd v B ∧ Wf Bd ∧ st < Bd.length ∧ R = NsAt (rl Bd st)
theorem scReached : FnScope ["board", "start"] ["board", "start"] (defScope sReached) := ⟨rfl, rfl, rfl, by decide +kernel, rfl, by decide +kernel, by decide +kernel⟩
theorem kn_map (l : List Nat) : l.map kN = (up l).map Sum.inl := by
  unfold up
  rw [List.map_map]
  rfl
theorem ok_reached {f fC : Addr} {fd fdC : FuncData} (F : Fun K "reached" "reached" sReached f fd) (FC : Fun K "come_by" "come_by" sCome fC fdC) (GC : FnOk P w K mg base CX0 2 fC fdC ["board", "start"] (spP pCome)) (bC : Binds K fdC ["board", "start"] []) (gC : mg "come_by" = some (.ref fC)) (ms : mg "sorted" = none) :
    FnOk P w K mg base CX0 3 f fd ["board", "start"] (spP pReached) := by
  refine F.ok scReached (fun vs H Q E h => ?_) (fun cdv A outer s H vs Q E hr h => ?_)
  · obtain ⟨B, R, _, ⟨v, Bd, st, rfl, _⟩, _⟩ := h
    rfl
  · obtain ⟨B, R, hB, ⟨v, Bd, st, rfl, hv, W, hst, rfl⟩, q⟩ := h
    refine ⟨_, pss_one (ps_ret (pe_callB (call_sortedDI rfl) (by rfl) ms boot_sorted (pa_cons (pe_call GC hr (by rfl) gC FC.kp bC .nil pass0 (pa_cons (pv 0) (pa_cons (pv 1) pa_nil))) pa_nil))), ?_⟩
    refine s_retH (B := B) (R := NsAt (rl Bd st)) ?_ q
    refine evh_cb1 (R := DkAt Bd st) (evh_call2 hB (ev_var rfl) (ev_var rfl) ⟨v, Bd, st, rfl, hv, W, hst, rfl⟩) fun v2 B2 H2 x2 r2 Q q => ?_
    obtain ⟨d, kvs, ks, rfl, hd, hk, hn, hm⟩ := r2
    refine ⟨d, kvs, up ks, rfl, .inl (x2.sub _ _ hd), by rw [hk, kn_map], ?_, fun ys p hp hs np => ?_⟩
    · rw [up_len]
      have := nd_len (n := Bd.length) hn fun k hk => (mem_rl.mp ((hm k).mp hk)).1
      have := W.len
      omega
    · have e := sorted_is hp hs hn (rl_lt Bd st) hm
      subst e
      refine q _ _ _ ((Ext.refl x2.sub).new np) ⟨p, rfl, ?_⟩
      rw [upd_same, vn_map]
end
end Pk

namespace Pk
open PySem PySem.Spec PyProof.Rows L2 Evl
open Classical in
noncomputable def repsTo (Bd : List Pl) (i : Nat) : List Nat := (List.range i).filter fun a => decide (Rep Bd a)
theorem repsTo_all (Bd : List Pl) : repsTo Bd Bd.length = reps Bd := rfl
open Classical in
theorem repsTo_yes {Bd : List Pl} {i : Nat} (h : Rep Bd i) : repsTo Bd (i + 1) = repsTo Bd i ++ [i] := by
  unfold repsTo
  rw [List.range_succ, List.filter_append, List.filter_cons, if_pos (decide_eq_true h)]
  rfl
open Classical in
theorem repsTo_no {Bd : List Pl} {i : Nat} (h : ¬ Rep Bd i) : repsTo Bd (i + 1) = repsTo Bd i := by
  unfold repsTo
  rw [List.range_succ, List.filter_append, List.filter_cons, if_neg (by rw [decide_eq_false h]; decide)]
  exact List.append_nil _
theorem repsTo_len (Bd : List Pl) (i : Nat) : (repsTo Bd i).length ≤ i := by
  have := List.length_filter_le (fun a => @decide (Rep Bd a) (Classical.propDecidable _)) (List.range i)
  rw [List.length_range] at this
  exact this
theorem min_rep {Bd : List Pl} {a : Nat} {ms : List Nat} (hmem : ∀ g, g ∈ ms ↔ g ∈ mates Bd a) (ha : a < Bd.length) {m : Int} (h1 : m ∈ up ms) (h2 : ∀ y ∈ up ms, m ≤ y) : m = (a : Int) ↔ Rep Bd a := by
  obtain ⟨n, hn, rfl⟩ := mem_up.mp h1
  constructor
  · intro e
    have e : n = a := by omega
    subst e
    refine ⟨ha, fun g hg => ?_⟩
    have := h2 (g : Int) (mem_up.mpr ⟨g, (hmem g).mpr hg, rfl⟩)
    omega
  · intro r
    have l1 := r.2 n ((hmem n).mp hn)
    have l2 := h2 (a : Int) (mem_up.mpr ⟨a, (hmem a).mpr (self_mates ha), rfl⟩)
    omega

/-! ### rows (number reached, place, its part) as data -/
noncomputable def dat (Bd : List Pl) (r : Nat) : PyData := .tuple [.int ((rl Bd r).length : Int), .int (r : Int), .list ((up (mates Bd r)).map .int)]
theorem dat_alike (Bd : List Pl) (r s : Nat) : PySem.W.alike (dat Bd r) (dat Bd s) = true := by
  unfold dat
  simp [PySem.W.alike, PySem.W.alikeAll, PySem.W.alike_ints]
theorem dat_depth (Bd : List Pl) (r : Nat) : (dat Bd r).depth ≤ 8 := by
  unfold dat
  simp [PyData.depth, PyData.depthAll, PySem.W.depth_ints]
theorem dat_lt {Bd : List Pl} {r s : Nat} (h : PySem.W.dataLt (dat Bd s) (dat Bd r) = false) : (rl Bd r).length ≤ (rl Bd s).length := by
  apply Classical.byContradiction
  intro n
  have n : (rl Bd s).length < (rl Bd r).length := by omega
  unfold dat at h
  rw [PySem.W.dataLt_tuple, PySem.W.dataLt_cons (by simp [PySem.W.alike])] at h
  rw [if_neg (by simp only [PyData.eqv, beq_iff_eq]; omega), PySem.W.dataLt_int] at h
  have := of_decide_eq_false h
  omega
theorem dpAll_ints {K : PySem.W.Frag} {H : Hp} : ∀ l : List Int, DpAll K H (l.map V.int) (l.map .int)
  | [] => .nil
  | x :: l => .cons (.int x) (dpAll_ints l)
theorem dp_ns {K : PySem.W.Frag} {H : Hp} {l : List Nat} {v : V} (h : NsAt l v H) : Dp K H v (.list ((up l).map .int)) := by
  obtain ⟨p, rfl, hp⟩ := h
  rw [vn_map] at hp
  exact .lst (sq_of hp) (dpAll_ints _)
def RowAt (Bd : List Pl) (u : V × Nat) (H : Hp) : Prop := ∃ (t : Addr) (z : V), u.1 = V.ref t ∧ H t = some (HO.tup [V.int ((rl Bd u.2).length : Int), vN u.2, z]) ∧ NsAt (mates Bd u.2) z H
theorem RowAt.mono {Bd : List Pl} {u : V × Nat} {H H2 : Hp} (e : Ex H H2) : RowAt Bd u H → RowAt Bd u H2
  | ⟨t, z, h1, h2, h3⟩ => ⟨t, z, h1, e _ _ h2, NsAt.mono _ _ _ e h3⟩
theorem RowAt.dp {K : PySem.W.Frag} {Bd : List Pl} {u : V × Nat} {H : Hp} (h : RowAt Bd u H) : Dp K H u.1 (dat Bd u.2) := by
  obtain ⟨t, z, e, h1, h2⟩ := h
  rw [e]
  exact .tup (st_of h1) (.cons (.int _) (.cons (.int _) (.cons (dp_ns h2) .nil)))

section
variable {P : Program} {w : World} {K : PySem.W.Frag} {mg : Str → Option Value} {base : Heap}
def pParts : List V → Hp → (V → Hp → Prop) → Prop := fun vs B R => ∃ (v : V) (Bd : List Pl), vs = [v] ∧ BdAt Bd v B ∧ Wf Bd ∧ R = fun v B2 => ∃ T rs, Told Bd T rs ∧ LlAt T v B2
/-- the word of the loop over the places -/
def PW2 (Bd : List Pl) (B H : Hp) (ky : Addr) (i : Nat) (B' H' : Hp) : Prop := Ext B H B' H' ∧ B' ky = none ∧ ∃ us : List (V × Nat), us.map (·.2) = repsTo Bd i ∧ H' ky = some (.lst (us.map (·.1))) ∧ ∀ u ∈ us, RowAt Bd u B'
theorem scParts : FnScope ["board", "at", "all_reached", "keyed", "mates", "other", "row"] ["board"] (defScope sParts) := ⟨rfl, rfl, rfl, by decide +kernel, rfl, by decide +kernel, by decide +kernel⟩
theorem ok_parts {f fC : Addr} {fd fdC : FuncData} (F : Fun K "parts" "parts" sParts f fd) (FC : Fun K "come_by" "come_by" sCome fC fdC) (GC : FnOk P w K mg base CX0 2 fC fdC ["board", "start"] (spP pCome)) (bC : Binds K fdC ["board", "start"] []) (gC : mg "come_by" = some (.ref fC))
    (ms : mg "sorted" = none) (ml : mg "len" = none) (mr : mg "range" = none) (mm : mg "min" = none) : FnOk P w K mg base CX0 3 f fd ["board"] (spP pParts) := by
  refine F.ok scParts (fun vs H Q E h => ?_) (fun cdv A outer s H vs Q E hr h => ?_)
  · obtain ⟨B, R, _, ⟨v, Bd, rfl, _⟩, _⟩ := h
    rfl
  · obtain ⟨B, R, hB, ⟨v, Bd, rfl, hv, W, rfl⟩, q⟩ := h
    have hu := hu_of hr
    have hu64 := hr.units
    refine ⟨_, pss_cons (ps_set (i := 2) scParts.nd rfl (.inr rfl) (pe_lc (own := [("at", 1)]) (g := gName 1) (tt := tYes) rfl scParts.nd (pi_range1 (by rfl) mr (pa_cons (pe_callB call_len_seq (by rfl) ml PySem.boot_len (pa_cons (pv 0) pa_nil)) pa_nil))
          (blkOk_by (N := ["board", "at", "all_reached", "keyed", "mates", "other", "row"]) (sc := defScope sParts) (by decide +kernel)) (fun _ _ _ _ _ => pg_name (i := 1) scParts.nd rfl (Or.inl rfl)) (fun _ _ _ _ _ => pts_nil)
          (fun _ _ _ _ _ => pe_call GC hr (by rfl) gC FC.kp bC .nil pass0 (pa_cons (pv 0) (pa_cons (pv 1) pa_nil)))))
      (pss_cons (ps_set (i := 3) scParts.nd rfl (.inl rfl) (pe_lst pa_nil))
      (pss_cons (ps_for PassesOwn.never rfl (pi_range1 (by rfl) mr (pa_cons (pe_callB call_len_seq (by rfl) ml PySem.boot_len (pa_cons (pv 0) pa_nil)) pa_nil)) (pg_name (i := 1) scParts.nd rfl (.inr rfl))
        (pss_cons (ps_lock (ps_setLc (i := 4) (own := [("other", 5)]) (g := gName 5) rfl scParts.nd rfl rfl (sw_true rfl rfl rfl (by decide +kernel)) (pi_keys (pe_ix ix_list (pv 2) (pv 1) (fun _ _ => rfl)))
            (blkOk_by (N := ["board", "at", "all_reached", "keyed", "mates", "other", "row"]) (sc := defScope sParts) (by decide +kernel)) (fun _ _ _ _ _ => pg_name (i := 5) scParts.nd rfl (Or.inl rfl))
            (fun _ _ _ _ _ => pts_one (pt_cmp (pc_din hu (pv 1) (pe_ix (r := rIxL K) ix_list (pv 2) (pv 5) (fun _ _ => rfl))))) (fun _ _ _ _ _ => pv 5)))
        (pss_one (ps_if (pt_cmpR op_eq (pe_callB (cr_min rfl) (by rfl) mm boot_min (pa_cons (pv 4) pa_nil)) (pv 1) (nomark _))
          (pss_one (ps_expr (pe_bm PySem.F.plainAttrs_list PySem.F.slot_list_append PySem.F.type_list_append mt_append (pv 3) (pa_cons (pe_tup (pa_cons (pe_callB call_lenD (by rfl) ml PySem.boot_len (pa_cons (pe_ix ix_list (pv 2) (pv 1) (fun _ _ => rfl)) pa_nil)) (pa_cons (pv 1) (pa_cons (pe_callB cr_sortedI (by rfl) ms boot_sorted (pa_cons (pv 4) pa_nil)) pa_nil)))) pa_nil)))) pss_nil))))
      (pss_one (ps_ret (pe_lc (own := [("row", 6)]) (g := gName 6) (tt := tYes) rfl scParts.nd (pi_list (pe_callB (cr_sortedDt hu64) (by rfl) ms boot_sorted (pa_cons (pv 3) pa_nil)))
          (blkOk_by (N := ["board", "at", "all_reached", "keyed", "mates", "other", "row"]) (sc := defScope sParts) (by decide +kernel)) (fun _ _ _ _ _ => pg_name (i := 6) scParts.nd rfl (Or.inl rfl)) (fun _ _ _ _ _ => pts_nil)
          (fun _ _ _ _ _ => pe_ix (r := rIxT K) ix_tup (pv 6) pe_int (fun _ _ => rfl))))))), ?_⟩
    obtain ⟨ab, ps, rfl, hab, hps⟩ := hv
    have hn24 := W.len
    have hlen : ∀ {σ : L2.St} {B' : Hp}, σ[0]? = some (some (.ref ab)) → Ex B B' → EvA (tCons (tCB (rLenS K) (tCons (tVar 0) tNil)) tNil) σ B' [.int (Bd.length : Int)] := fun h e => ea_cons (ev_is (ev_len (ev_var h) (sq_of (e _ _ hab))) (by rw [hps.1])) ea_nil
    -- all_reached = [come_by(board, at) for at in range(len(board))]
    refine q_asgH ((evp_lcR (n := (Bd.length : Int)) (R := fun i v B => i < Bd.length → DkAt Bd i v B) (fun i v B B2 e h hi => DkAt.mono _ _ _ e (h hi)) (hlen rfl (Ex.refl B)) (by omega) (fun _ => rfl) fun i B2 e hi => ?_).h hB) fun v B1 H1 x1 r1 => ?_
    · refine (evp_call (epa_of (ea_cons (ev_var rfl) (ea_cons (ev_var rfl) ea_nil))) fun vs B3 e3 hv => ?_ : EvP _ _ B2 (DkAt Bd i)).imp fun _ _ _ h _ => h
      subst hv
      exact ⟨.ref ab, Bd, i, rfl, ⟨ab, ps, rfl, (e.trans e3) _ _ hab, hps.mono (e.trans e3)⟩, W, by omega, rfl⟩
    obtain ⟨al, ds, rfl, hal, L⟩ := r1
    have hdl : ds.length = Bd.length := by rw [L.len]; omega
    have hds : ∀ i, i < Bd.length → ∃ (d : Addr) (kvs : List (Key × V)) (ks : List Nat), ds[i]? = some (V.ref d) ∧ B1 d = some (HO.dK kvs) ∧ kvs.map (·.1) = ks.map kN ∧ ks.Nodup ∧ ∀ g, g ∈ ks ↔ g ∈ rl Bd i := fun i hi => by
      have h := List.getElem?_eq_getElem (l := ds) (i := i) (by omega)
      obtain ⟨d, kvs, ks, e, h1, h2⟩ := L.all i _ h hi
      rw [e] at h
      exact ⟨d, kvs, ks, h, h1, h2⟩
    -- keyed = []
    refine q_asgL (el_lst ea_nil (Nat.zero_le _)) fun ky H2 nky e2 hky => ?_
    have nkB : B1 ky = none := x1.noB nky
    have nkH : H ky = none := x1.noH nky
    -- the loop
    refine q_forR1 (n := (Bd.length : Int)) (hlen rfl (fun a o h => e2 _ _ (x1.sub _ _ (x1.bb _ _ h)))) (by omega)
      (fun i σ' H' => ∃ (B' : Hp) (y1 y4 : Option V), σ' = [some (.ref ab), y1, some (.ref al), some (.ref ky), y4, none, none] ∧ Ex B1 B' ∧ PW2 Bd B H ky i B' H')
      (fun H3 e3 => ⟨B1, none, none, rfl, Ex.refl _, (x1.run e2).run e3, nkB, [], rfl, e3 _ _ hky, fun u h => by cases h⟩) (fun i σ' H' hi hW => ?_) (fun σ' H' hW => ?_)
    · obtain ⟨B', y1, y4, rfl, b1, x, nk, us, hus, hkl, hrow⟩ := hW
      have hi : i < Bd.length := by omega
      obtain ⟨d, kvs, ks, hd1, hd2, hkv, hnd, hmem⟩ := hds i hi
      have hdH : H' d = some (.dK kvs) := x.sub _ _ (b1 _ _ hd2)
      have hal' : H' al = some (.lst ds) := x.sub _ _ (b1 _ _ hal)
      have hky' : H' ky = some (.lst (us.map (·.1))) := hkl
      have nad : al ≠ d := ne_of hal' hdH (by intro z; cases z)
      have hkl2 : kvs.length = ks.length := by
        have := congrArg List.length hkv
        rw [List.length_map, List.length_map] at this
        exact this
      have hkrl : ks.length = (rl Bd i).length := ((List.perm_ext_iff_of_nodup hnd (rl_nd Bd i)).mpr hmem).length_eq
      have hkn : ks.length ≤ 24 := by
        have := rl_len Bd i
        omega
      -- mates = [other for other in all_reached[at] if at in all_reached[other]]
      refine q_lockL (d := d) (u := .dK kvs) (xs := given kvs.length (fun j => decide (i ∈ rl Bd (ks.getD j 0))) (fun j => vN (ks.getD j 0))) hdH trivial (fun od => ?_) fun p H3 np e3 hp => ?_
      · have halL : (upd H' d (.frz od (.dK kvs))) al = some (.lst ds) := by
          rw [upd_ne nad]
          exact hal'
        have key : ∀ (j : Nat) (k : Key) (y : V), kvs[j]? = some (k, y) → ∃ g, ks[j]? = some g ∧ k = kN g := fun j k y hk => by
          have h1 : (kvs.map (·.1))[j]? = some k := by
            rw [List.getElem?_map, hk]
            rfl
          rw [hkv, List.getElem?_map] at h1
          obtain ⟨g, h2, h3⟩ := Option.map_eq_some_iff.mp h1
          exact ⟨g, h2, h3.symm⟩
        refine el_lcK (d := d) (od := od) (kvs := kvs) _ _ (ev_op (ev_var rfl) (ev_var rfl) (rv_ixL (sq_of halL) (atI_nat hd1))) upd_same (by omega) (fun _ => rfl) (fun j k y H4 e4 hk => ?_) (fun j k y H4 e4 hk _ => ?_)
        · obtain ⟨g, hg, rfl⟩ := key j k y hk
          have hgr : g ∈ rl Bd i := (hmem g).mp (List.mem_of_getElem? hg)
          obtain ⟨d2, kvs2, ks2, hq1, hq2, hq3, hq4, hq5⟩ := hds g (mem_rl.mp hgr).1
          have hq6 : H' d2 = some (.dK kvs2) := x.sub _ _ (b1 _ _ hq2)
          have rd : Rd H4 d2 (.dK kvs2) := by
            by_cases z : d2 = d
            · subst z
              rw [hdH] at hq6
              cases hq6
              exact .inr ⟨od, e4 _ _ upd_same⟩
            · exact .inl (e4 _ _ (by rw [upd_ne z]; exact hq6))
          refine et_is (et_B (ev_din (k := kN i) (ev_var rfl) (ev_op (ev_var rfl) (ev_var rfl) (rv_ixL (sq_of (e4 _ _ halL)) (atI_nat hq1))) rd)) ?_
          have eg : ks.getD j 0 = g := by rw [List.getD_eq_getElem?_getD, hg]; rfl
          rw [eg]
          by_cases z : i ∈ ks2
          · rw [val_some (by rw [hq3, mem_kN]; exact z), decide_eq_true ((hq5 i).mp z)]
          · rw [val_none (by rw [hq3, mem_kN]; exact z), decide_eq_false fun y => z ((hq5 i).mpr y)]
            rfl
        · obtain ⟨g, hg, rfl⟩ := key j k y hk
          have eg : ks.getD j 0 = g := by rw [List.getD_eq_getElem?_getD, hg]; rfl
          rw [eg]
          exact ev_var rfl
      rw [hkl2, given_filter ks (fun g => decide (i ∈ rl Bd g))] at hp
      generalize hms : ks.filter (fun g => decide (i ∈ rl Bd g)) = ms' at hp
      have hmm : ∀ g, g ∈ ms' ↔ g ∈ mates Bd i := fun g => by
        rw [← hms, List.mem_filter, hmem g, decide_eq_true_iff, mem_rl, mem_rl, mem_mates]
        exact ⟨fun h => ⟨h.1.1, h.1.2, h.2.2⟩, fun h => ⟨⟨h.1, h.2.1⟩, hi, h.2.2⟩⟩
      have hmn : ms'.Nodup := by
        rw [← hms]
        exact hnd.filter _
      have x3 := x.run e3
      have hky3 := e3 _ _ hky'
      -- if min(mates) == at
      refine s_when (b := @decide (Rep Bd i) (Classical.propDecidable _)) (fun H4 e4 Q4 q4 => ?_) (fun hb H4 e4 => ?_) (fun hb H4 e4 => ?_)
      · refine ⟨.ref p, rfl, p, up ms', rfl, sq_of (by rw [← vn_map]; exact e4 _ _ hp), ?_, fun m h1 h2 => ⟨vN i, rfl, rfl, _, rfl, ?_⟩⟩
        · exact List.length_pos_of_mem (mem_up.mpr ⟨i, (hmm i).mpr (self_mates hi), rfl⟩)
        · have e5 : decide (V.int m = vN i) = @decide (Rep Bd i) (Classical.propDecidable _) := by
            have := min_rep hmm hi h1 h2
            by_cases z : Rep Bd i
            · rw [@decide_eq_true _ (Classical.propDecidable _) z, decide_eq_true (by rw [this.mpr z])]
            · rw [@decide_eq_false _ (Classical.propDecidable _) z, decide_eq_false fun y => z (this.mp (V.int.inj y))]
          rw [e5]
          exact q4 H4 (Ex.refl H4)
      · -- keyed.append(..)
        have hR : Rep Bd i := @of_decide_eq_true _ (Classical.propDecidable _) hb
        have x4 := x3.run e4
        refine s_appH (i := 3) (l := ky) (B := B') (R := fun v B2 => ∃ p z, v = V.ref p ∧ B2 p = some (HO.tup [.int ((rl Bd i).length : Int), vN i, z]) ∧ NsAt (mates Bd i) z B2) rfl ?_ (e4 _ _ hky3) ?_ fun v B5 H5 x5 r5 => ?_
        · refine evh_tup3 (R := NsAt (mates Bd i)) (ev_cb (ea_cons (ev_op (ev_var rfl) (ev_var rfl) (rv_ixL (sq_of (e4 _ _ (e3 _ _ hal'))) (atI_nat hd1))) ea_nil) fun H5 e5 Q5 q5 => ?_) (ev_var rfl) (fun H5 e5 Q5 q5 => ?_) NsAt.mono
          · refine ⟨d, kvs, rfl, e5 _ _ (e4 _ _ (e3 _ _ hdH)), ?_⟩
            rw [hkl2, hkrl]
            exact q5 H5 (Ex.refl H5)
          · exact ⟨.ref p, rfl, sorted_ns (sq_of (e5 _ _ (e4 _ _ hp))) hmn (mates_lt Bd i) hmm fun p2 hp2 => q5 _ _ _ ((Ext.refl (x4.sub.trans e5)).new hp2) ⟨p2, rfl, upd_same⟩⟩
        · have := congrArg List.length hus
          rw [List.length_map] at this
          have h2 := repsTo_len Bd i
          rw [List.length_map]
          omega
        · have nk5 := x5.off (e4 _ _ hky3) nk
          refine ⟨B5, _, _, rfl, b1.trans x5.bb, (x4.trans x5).mut nkH nk5, nk5, us ++ [(v, i)], ?_, ?_, fun u hu => ?_⟩
          · rw [List.map_append, hus, repsTo_yes hR]
            rfl
          · rw [upd_same, List.map_append]
            rfl
          · rcases List.mem_append.mp hu with h | h
            · exact (hrow u h).mono x5.bb
            · rw [List.mem_singleton] at h
              subst h
              exact r5
      · have hR : ¬ Rep Bd i := @of_decide_eq_false _ (Classical.propDecidable _) hb
        exact ⟨B', _, _, rfl, b1, x3.run e4, nk, us, by rw [hus, repsTo_no hR], e4 _ _ hky3, hrow⟩
    · -- return [row[2] for row in sorted(keyed)]
      obtain ⟨B', y1, y4, rfl, b1, x, nk, us, hus, hkl, hrow⟩ := hW
      have hn : ((Bd.length : Int)).toNat = Bd.length := by omega
      rw [hn, repsTo_all] at hus
      have hul : us.length ≤ 24 := by
        have := congrArg List.length hus
        rw [List.length_map] at this
        have h2 := repsTo_len Bd Bd.length
        rw [repsTo_all] at h2
        omega
      generalize hss : us.mergeSort (PySem.W.dataLe false fun u => dat Bd u.2) = ss
      have hperm : ss.Perm us := by
        rw [← hss]
        exact List.mergeSort_perm _ _
      have hpw : ss.Pairwise fun x y => PySem.W.dataLt (dat Bd y.2) (dat Bd x.2) = false := by
        rw [← hss]
        exact sorted_pw us fun u => dat Bd u.2
      have hT : Told Bd (ss.map fun u => mates Bd u.2) (ss.map (·.2)) := by
        refine ⟨by rw [List.map_map]; rfl, by rw [← hus]; exact hperm.map _, ?_⟩
        rw [List.pairwise_map]
        exact hpw.imp fun h => dat_lt h
      refine s_retH (B := B') (R := fun v B2 => ∃ T rs, Told Bd T rs ∧ LlAt T v B2) ?_ fun v B2 H2 x2 r2 => q v B2 H2 (x.trans x2) r2
      refine evh_lc (R := fun v B2 => ∃ p, v = V.ref p ∧ B2 p = some (HO.lst (ss.map (·.1)))) (fun Q5 q5 => ?_) (fun _ => rfl) fun v B2 H2 x2 r2 => ?_
      · refine ⟨.ref ky, rfl, sorted_by us (·.1) (fun u => dat Bd u.2) (sq_of hkl) (fun u hu => ((hrow u hu).mono x.sub).dp) (PySem.W.AllAlike.of fun u u' => dat_alike Bd u.2 u'.2) (PySem.W.Sortable.tuples fun u => ⟨_, _, rfl⟩) (fun u _ => dat_depth Bd u.2) fun p hp => ?_⟩
        rw [hss]
        exact q5 _ _ _ ((Ext.refl x.sub).new hp) ⟨p, rfl, upd_same⟩
      · obtain ⟨p, rfl, hp⟩ := r2
        refine ⟨p, ss.map (·.1), fun i v B => ∃ u, ss[i]? = some u ∧ NsAt (mates Bd u.2) v B, rfl, hp, ?_, fun i v B B2 e ⟨u, h1, h2⟩ => ⟨u, h1, NsAt.mono _ _ _ e h2⟩, fun i y B3 e3 hy => ?_, fun p2 vs B3 e3 hp2 L2 => ?_⟩
        · rw [List.length_map, hperm.length_eq]
          omega
        · rw [List.getElem?_map] at hy
          obtain ⟨u, hu, rfl⟩ := Option.map_eq_some_iff.mp hy
          obtain ⟨t, z, ht, h1, h2⟩ := (hrow u (hperm.mem_iff.mp (List.mem_of_getElem? hu))).mono (x2.bb.trans e3)
          exact evp_at (v := z) (ev_op (ev_var (by rw [ht]; rfl)) ev_c (rv_ixT (st_of h1) rfl)) ⟨u, hu, h2⟩
        · refine ⟨_, _, hT, p2, vs, rfl, hp2, by rw [L2.len, List.length_map, List.length_map], fun i s hs => ?_⟩
          rw [List.getElem?_map] at hs
          obtain ⟨u, hu, rfl⟩ := Option.map_eq_some_iff.mp hs
          have hi : i < vs.length := by
            rw [L2.len, List.length_map]
            exact (List.getElem?_eq_some_iff.mp hu).1
          obtain ⟨u', hu', h2⟩ := L2.all i _ (List.getElem?_eq_getElem hi)
          rw [hu] at hu'
          cases hu'
          exact ⟨_, List.getElem?_eq_getElem hi, h2⟩
end
end Pk

namespace Pk
open PySem PySem.Spec PyProof.Rows L2 Evl
section
variable {K : PySem.W.Frag} {σ : L2.St} {B H H' : Hp} {te : TE} {R : Nat → V → Hp → Prop}
theorem lw_run {D : Addr} {i : Nat} {H2 : Hp} (w : Lw B H R D i H') (e : Ex H' H2) : Lw B H R D i H2 := by
  obtain ⟨B', vs, a, n, h, L⟩ := w
  exact ⟨B', vs, a.run e, n, e _ _ h, L⟩
theorem ext_pre {H0 H1 B2 H2 : Hp} (e : Ex H0 H1) (a : Ext B H1 B2 H2) : Ext B H0 B2 H2 := a.pre e
/-- [e for i, x in enumerate(xs)] -/
theorem evp_lcE {a : Addr} {xs : List V} {tl : TE} {j1 j2 : Nat} {ws : List Nat} (m : ∀ i, Mono (R i)) (h : Ev tl σ B (.ref a)) (hx : B a = some (.lst xs)) (hz : xs.length ≤ 40000) (hw : ∀ x y, wipe (((wipe σ ws).set j1 (some x)).set j2 (some y)) ws = wipe σ ws)
    (he : ∀ (i : Nat) (x : V) B2, Ex B B2 → xs[i]? = some x → EvP te (((wipe σ ws).set j1 (some (.int (i : Int)))).set j2 (some x)) B2 (R i)) :
    EvP (tLc (iEnum K (tCons tl tNil)) (gTup K 2 (gCons (gName j1) (gCons (gName j2) gNil))) tYes te ws) σ B fun v B2 => ∃ p vs, v = .ref p ∧ B2 p = some (.lst vs) ∧ Lcs B2 R xs.length vs := fun H0 e Q q => h H0 e _ fun H1 e1 => ⟨a, xs, rfl, sq_of (e1 a _ (e a _ hx)), fun D hD => by
  have hsq : ∀ {i H'}, Lw B H1 R D i H' → SqL K H' a xs := fun p => by
    obtain ⟨B', vs, b, _⟩ := p
    exact sq_of (b.hh a _ (e1 a _ (e a _ hx)))
  refine ⟨fun i m H2 => m = xs.length - i ∧ i ≤ xs.length ∧ Lw B H1 R D i H2, ⟨xs.length, by simp, Nat.zero_le _, lw_start (e.trans e1) hD⟩, ?_⟩
  rintro i m H2 ⟨rfl, hi, p⟩
  have q1 := hsq p
  by_cases hlt : i < xs.length
  · refine .inr ⟨⟨xs, xs[i], q1, by simp [hlt]⟩, Lw B H1 R D (i + 1), fun H' p' => ⟨xs.length - (i + 1), by omega, rfl, hlt, p'⟩, fun x H' y => ?_⟩
    obtain ⟨T, z, rfl, nT, rfl, hz2⟩ := y
    refine ⟨T, _, rfl, st_of upd_same, rfl, _, _, rfl, _, _, rfl, rfl, hw _ _, ?_⟩
    exact lw_turn m hD (lw_run p (Ex.new nT)) (by omega) fun B2 b => he i z B2 b (hz2 xs q1)
  · have hn : i = xs.length := by omega
    subst hn
    exact .inl ⟨⟨xs, q1, Nat.le_refl _⟩, lw_done m hD p fun v B2 H2 a r => q v B2 H2 (a.pre e1) r⟩⟩
/-- [e for x, y in xs], xs a list of pairs -/
theorem evp_lcT {a : Addr} {xs : List V} {tl : TE} {j1 j2 : Nat} {ws : List Nat} (m : ∀ i, Mono (R i)) (h : Ev tl σ B (.ref a)) (hx : B a = some (.lst xs)) (hz : xs.length ≤ 40000) (hp : ∀ (i : Nat) (x : V), xs[i]? = some x → ∃ (t : Addr) (y z : V), x = V.ref t ∧ B t = some (HO.tup [y, z])) (hw : ∀ x y, wipe (((wipe σ ws).set j1 (some x)).set j2 (some y)) ws = wipe σ ws)
    (he : ∀ (i : Nat) (t : Addr) (y z : V) B2, Ex B B2 → xs[i]? = some (.ref t) → B t = some (.tup [y, z]) → EvP te (((wipe σ ws).set j1 (some y)).set j2 (some z)) B2 (R i)) :
    EvP (tLc (iList K tl) (gTup K 2 (gCons (gName j1) (gCons (gName j2) gNil))) tYes te ws) σ B fun v B2 => ∃ p vs, v = .ref p ∧ B2 p = some (.lst vs) ∧ Lcs B2 R xs.length vs := fun H0 e Q q => h H0 e _ fun H1 e1 => ⟨a, rfl, ⟨xs, sq_of (e1 a _ (e a _ hx))⟩, fun D hD =>
  lc_list (xs := xs) (Lw B H1 R D) (lw_start (e.trans e1) hD) (fun i H' _ p => by
      obtain ⟨B', vs, b, _⟩ := p
      exact sq_of (b.hh a _ (e1 a _ (e a _ hx)))) (fun i x H' hi p => by
      obtain ⟨t, y, z, rfl, ht⟩ := hp i x hi
      have ht' : H' t = some (.tup [y, z]) := by
        obtain ⟨B', vs, b, _⟩ := p
        exact b.hh _ _ (e1 _ _ (e _ _ ht))
      exact ⟨t, _, rfl, st_of ht', rfl, _, _, rfl, _, _, rfl, rfl, hw _ _, lw_turn m hD p (by have := (List.getElem?_eq_some_iff.mp hi).1; omega) fun B2 b => he i t y z B2 b hi ht⟩)
    fun H' p => lw_done m hD p fun v B2 H2 a r => q v B2 H2 (a.pre e1) r⟩
end

/-! ### _law_place -/
section
variable {P : Program} {w : World} {K : PySem.W.Frag} {mg : Str → Option Value} {base : Heap}
def PlOk (n : Nat) (v : V) (H : Hp) : Prop := ∃ pl : Pl, PlAt v H pl ∧ pl.gs.length ≤ 100 ∧ ∀ g ∈ pl.gs, g < n
theorem PlOk.mono {n : Nat} : Mono (PlOk n) := fun v B B2 e ⟨pl, h1, h2⟩ => ⟨pl, h1.mono e, h2⟩
def pPlace (K : PySem.W.Frag) : List V → Hp → (V → Hp → Prop) → Prop := fun vs B R => ∃ (a : Addr) (ns : List Int) (k n : Nat) (mode : Int), vs = [.ref a, vN k, vN n, .int mode] ∧ SqL K B a (ns.map V.int) ∧ ns.length ≤ 63 ∧ k < n ∧ n ≤ 24 ∧ R = PlOk n
abbrev nPlace : List Str := ["_law_script", "_law_k", "_law_n", "_law_mode", "_law_cell_here", "_law_bits", "_law_many", "_law_goals", "_law_j", "_law_goal_here"]
theorem scPlace : FnScope nPlace ["_law_script", "_law_k", "_law_n", "_law_mode"] (defScope sPlace) := ⟨rfl, rfl, rfl, by decide +kernel, rfl, by decide +kernel, by decide +kernel⟩
theorem ok_place {f fC fM fG : Addr} {fd fdC fdM fdG : FuncData} (F : Fun K "_law_place" "_law_place" sPlace f fd)
    (FC : Fun K "_law_cell" "_law_cell" sCell fC fdC) (bC : Binds K fdC ["_law_script", "_law_k"] []) (gC : mg "_law_cell" = some (.ref fC))
    (FM : Fun K "_law_mixed" "_law_mixed" sMixed fM fdM) (bM : Binds K fdM ["_law_cell_here", "_law_many"] []) (gM : mg "_law_mixed" = some (.ref fM))
    (FG : Fun K "_law_goal" "_law_goal" sGoal fG fdG) (bG : Binds K fdG ["_law_bits", "_law_k", "_law_n", "_law_mode"] []) (gG : mg "_law_goal" = some (.ref fG))
    (ml : mg "len" = none) (mx : mg "max" = none) (mr : mg "range" = none) (me : mg "enumerate" = none) : FnOk P w K mg base CX0 2 f fd ["_law_script", "_law_k", "_law_n", "_law_mode"] (spP (pPlace K)) := by
  have GC : FnOk P w K mg base CX0 1 fC fdC ["_law_script", "_law_k"] (spS (pCell K)) := ok_cell FC ml
  have GM : FnOk P w K mg base CX0 1 fM fdM ["_law_cell_here", "_law_many"] (spS pMixed) := ok_mixed FM
  have GG : FnOk P w K mg base CX0 1 fG fdG ["_law_bits", "_law_k", "_law_n", "_law_mode"] (spS pGoal) := ok_goal FG mx
  refine F.ok scPlace (fun vs H Q E h => ?_) (fun cdv A outer s H vs Q E hr h => ?_)
  · obtain ⟨B, R, _, ⟨a, ns, k, n, mode, rfl, _⟩, _⟩ := h
    rfl
  · obtain ⟨B, R, hB, ⟨a, ns, k, n, mode, rfl, hs, hl, hk, hn, rfl⟩, q⟩ := h
    refine ⟨_, pss_cons (ps_set (i := 4) scPlace.nd rfl (.inr rfl) (pe_op op_add (pe_op op_mul (pe_call GC hr (by rfl) gC FC.kp bC .nil pass0 (pa_cons (pv 0) (pa_cons (pe_op op_add pe_int (pv 1)) pa_nil))) (pe_op op_add (pe_op op_mul (pv 1) (pv 1)) pe_int)) (pv 1)))
      (pss_cons (ps_set (i := 5) scPlace.nd rfl (.inr rfl) (pe_call GM hr (by rfl) gM FM.kp bM .nil pass0 (pa_cons (pv 4) (pa_cons (pe_op op_pow pe_int pe_int) pa_nil))))
      (pss_cons (ps_if (PW.pt (pw_or (pt_cmpR op_eq (pe_op op_mod (pv 5) pe_int) pe_int (nomark _)) (pw_or1 (PW.pt (pw_and (pt_cmpR op_eq (pv 3) pe_int (nomark _)) (pw_and1 (pt_cmpR op_eq (pv 1) (pe_op op_sub (pv 2) pe_int) (nomark _))))))))
        (pss_one (ps_ret (pe_tup (pa_cons pe_str (pa_cons (pe_tup (pa_cons (pe_op op_sub (pe_op op_mod (pe_op op_fdiv (pv 5) pe_int) pe_int) pe_int) (pa_cons pe_int pa_nil))) pa_nil))))) pss_nil)
      (pss_cons (ps_set (i := 6) scPlace.nd rfl (.inl rfl) (pe_op op_add pe_int (pe_op op_mod (pe_op op_fdiv (pv 5) pe_int) pe_int)))
      (pss_cut (ps_if (pt_cmpR op_lt (pe_op op_mod (pv 5) pe_int) pe_int (nomark _))
        (pss_cons (ps_set (i := 6) scPlace.nd rfl (.inl rfl) (pe_op op_add pe_int (pe_op op_mod (pe_op op_fdiv (pv 5) pe_int) pe_int)))
          (pss_one (ps_if (pt_cmpR op_eq (pe_op op_mod (pe_op op_fdiv (pv 5) pe_int) pe_int) pe_int (nomark _)) (pss_one (ps_set (i := 6) scPlace.nd rfl (.inl rfl) (pe_op op_add pe_int (pe_op op_mod (pe_op op_fdiv (pv 5) pe_int) pe_int)))) pss_nil))) pss_nil)
      (pss_cons (ps_setLc (i := 7) (own := [("_law_j", 8)]) (g := gName 8) (tt := tYes) rfl scPlace.nd rfl rfl (sw_true rfl rfl rfl (by decide +kernel)) (pi_range1 (by rfl) mr (pa_cons (pv 6) pa_nil))
          (blkOk_by (N := nPlace) (sc := defScope sPlace) (by decide +kernel)) (fun _ _ _ _ _ => pg_name (i := 8) scPlace.nd rfl (Or.inl rfl)) (fun _ _ _ _ _ => pts_nil)
          (fun _ _ _ _ _ => pe_call GG hr (by rfl) gG FG.kp bG .nil pass0 (pa_cons (pe_call GM hr (by rfl) gM FM.kp bM .nil pass0 (pa_cons (pe_op op_add (pe_op op_mul (pv 4) (pe_op op_add (pe_op op_mul (pv 8) (pv 8)) pe_int)) (pv 8)) (pa_cons (pe_op op_pow pe_int pe_int) pa_nil))) (pa_cons (pv 1) (pa_cons (pv 2) (pa_cons (pv 3) pa_nil))))))
      (pss_cons (ps_if (pt_cmpR op_gt (pe_op op_mod (pv 5) pe_int) pe_int (nomark _)) (pss_one (ps_ret (pe_tup (pa_cons pe_str (pa_cons (pe_op op_add pe_int (pe_op op_mod (pe_op op_fdiv (pv 5) pe_int) pe_int)) (pa_cons (pv 7) pa_nil)))))) pss_nil)
      (pss_one (ps_ret (pe_tup (pa_cons pe_str (pa_cons (pe_tup (pa_cons (pe_op op_mod (pe_op op_fdiv (pv 5) pe_int) pe_int) (pa_cons pe_int pa_nil))) (pa_cons
        (pe_lc (own := [("_law_j", 8), ("_law_goal_here", 9)]) (g := gTup K 2 (gCons (gName 8) (gCons (gName 9) gNil))) (tt := tYes) rfl scPlace.nd (pi_enum (by rfl) me (pa_cons (pv 7) pa_nil))
          (blkOk_by (N := nPlace) (sc := defScope sPlace) (by decide +kernel)) (fun _ _ _ _ _ => pg_tup rfl (pgs_cons (pg_name (i := 8) scPlace.nd rfl (Or.inl rfl)) (pgs_cons (pg_name (i := 9) scPlace.nd rfl (Or.inl rfl)) pgs_nil))) (fun _ _ _ _ _ => pts_nil)
          (fun _ _ _ _ _ => pe_tup (pa_cons (pe_op op_add pe_int (pe_op op_mod (pe_op op_fdiv (pv 5) (pe_op op_add pe_int (pv 8))) pe_int)) (pa_cons (pv 9) pa_nil)))) pa_nil)))))))))))), ?_⟩
    have hS : SqL K H a (ns.map V.int) := ex_l hB hs
    have kk0 : (0 : Int) ≤ (k : Int) * k := Int.mul_nonneg (by omega) (by omega)
    have kk1 : (k : Int) * k ≤ 24 * 24 := Int.mul_le_mul (by omega) (by omega) (by omega) (by omega)
    have p50 : CPow 2 50 := ⟨by decide, by decide, by decide⟩
    have p40 : CPow 2 40 := ⟨by decide, by decide, by decide⟩
    -- _law_cell_here
    refine q_asg (v := .int (cellM ns (6 + k) * ((k : Int) * k + 5) + k)) (ev_op (ev_op (ev_call (ea_cons (ev_var rfl) (ea_cons (ev_op ev_c (ev_var rfl) rv_I0) ea_nil)) (spv_of ⟨a, ns, 6 + k, rfl, hS, hl, by omega, by omega, rfl⟩)) (ev_op (ev_op (ev_var rfl) (ev_var rfl) (rv_I (.inl ⟨by omega, by omega⟩))) ev_c rv_I0) (rv_I (.inr ⟨by omega, by omega⟩))) (ev_var rfl) rv_I0) fun H1 e1 => ?_
    generalize cellM ns (6 + k) * ((k : Int) * k + 5) + k = c
    -- _law_bits
    refine q_asg (v := .int (mixedM c (2 ^ (Int.toNat 50)))) (ev_call (ea_cons (ev_var rfl) (ea_cons (ev_op ev_c ev_c (rv_I p50)) ea_nil)) (spv_of ⟨c, _, rfl, by decide, rfl⟩)) fun H2 e2 => ?_
    generalize mixedM c (2 ^ (Int.toNat 50)) = b
    have e02 := e1.trans e2
    refine q_when (b := decide (V.int (b % 8) = V.int 0) || (decide (V.int mode = V.int 1) && decide (vN k = V.int ((n : Int) - 1)))) (et_or (et_test (ev_op (ev_op (ev_var rfl) ev_c (rv_I (by decide))) ev_c (rv_eq rfl))) fun _ => et_and (et_test (ev_op (ev_var rfl) ev_c (rv_eq rfl))) fun _ => et_test (ev_op (ev_var rfl) (ev_op (ev_var rfl) ev_c rv_I0) (rv_eq rfl))) (fun hb H3 e3 => ?_) (fun hb H3 e3 => ?_)
    · -- an end
      refine s_retH ((evp_tup (epa_two (R := fun x _ => x = .str "end") (S := fun _ _ => True) (evp_of ev_c) (fun _ _ _ _ h => h) fun B2 _ => (evp_u (eu_tup (ea_cons (ev_op (ev_op (ev_op (ev_var rfl) ev_c (rv_I ⟨by decide, by decide⟩)) ev_c (rv_I (by decide))) ev_c rv_I0) (ea_cons ev_c ea_nil)) (by show 2 ≤ 100000; decide))).imp fun _ _ _ _ => trivial)
        (fun vs B2 B3 _ h => h) (fun vs B2 h => by obtain ⟨v, w, rfl, _⟩ := h; show 2 ≤ 100000; decide)).h (hB.trans (e02.trans e3))) fun v B4 H4 x4 r4 => ?_
      obtain ⟨p, vs, rfl, hp, v1, v2, rfl, rfl, _⟩ := r4
      exact q _ B4 H4 (x4.pre (e02.trans e3)) ⟨.fin, ⟨p, v2, rfl, hp⟩, Nat.zero_le _, fun g hg => by cases hg⟩
    have hmode : mode = 1 → (k : Int) < n - 1 := fun hm => by
      rw [Bool.or_eq_false_iff, Bool.and_eq_false_iff] at hb
      rcases hb.2 with h | h
      · exact absurd (by rw [hm]) (of_decide_eq_false h)
      · have h2 : ¬ (k : Int) = n - 1 := fun z => of_decide_eq_false h (by show V.int (k : Int) = _; rw [z])
        omega
    have e03 := e02.trans e3
    -- _law_many
    refine q_asg (ev_op ev_c (ev_op (ev_op (ev_var rfl) ev_c (rv_I ⟨by decide, by decide⟩)) ev_c (rv_I (by decide))) rv_I0) fun H4 e4 => ?_
    have e04 := e03.trans e4
    refine q_cut (M := fun σ' H' => ∃ m : Int, 1 ≤ m ∧ m ≤ 100 ∧ σ' = [some (.ref a), some (vN k), some (vN n), some (.int mode), some (.int c), some (.int b), some (.int m), none, none, none] ∧ Ex H H') ?_ fun σ' H5 hM => ?_
    · refine s_when (et_test (ev_op (ev_op (ev_var rfl) ev_c (rv_I (by decide))) ev_c rv_I0)) (fun hb H5 e5 => ?_) (fun hb H5 e5 => ?_)
      · refine q_asg (ev_op ev_c (ev_op (ev_op (ev_var rfl) ev_c (rv_I ⟨by decide, by decide⟩)) ev_c (rv_I (by decide))) rv_I0) fun H6 e6 => ?_
        refine s_when (et_test (ev_op (ev_op (ev_op (ev_var rfl) ev_c (rv_I ⟨by decide, by decide⟩)) ev_c (rv_I (by decide))) ev_c (rv_eq rfl))) (fun hb H7 e7 => ?_) (fun hb H7 e7 => ?_)
        · refine s_asg (ev_op ev_c (ev_op (ev_op (ev_var rfl) ev_c (rv_I ⟨by decide, by decide⟩)) ev_c (rv_I (by decide))) rv_I0) fun H8 e8 => ?_
          have l1 := Int.emod_nonneg (b / 1024) (b := 100) (by decide)
          have l2 := Int.emod_lt_of_pos (b / 1024) (b := 100) (by decide)
          exact ⟨1 + b / 1024 % 100, by omega, by omega, rfl, e04.trans (e5.trans (e6.trans (e7.trans e8)))⟩
        · have l1 := Int.emod_nonneg (b / 8) (b := 3) (by decide)
          have l2 := Int.emod_lt_of_pos (b / 8) (b := 3) (by decide)
          exact ⟨1 + b / 8 % 3, by omega, by omega, rfl, e04.trans (e5.trans (e6.trans e7))⟩
      · have l1 := Int.emod_nonneg (b / 8) (b := 4) (by decide)
        have l2 := Int.emod_lt_of_pos (b / 8) (b := 4) (by decide)
        exact ⟨1 + b / 8 % 4, by omega, by omega, rfl, e04.trans e5⟩
    obtain ⟨m, m1, m2, rfl, e05⟩ := hM
    -- _law_goals
    generalize hgv : (fun j : Nat => goalM (mixedM (c * ((j : Int) * j + 3) + j) (2 ^ (Int.toNat 40))) k n mode) = gv
    have gin : ∀ j, 0 ≤ gv j ∧ gv j < n := fun j => by
      rw [← hgv]
      exact goalM_in (by omega) (by omega) hmode
    refine q_asgL (el_lcR1 (n := m) (fun _ => true) (fun j => .int (gv j)) (ea_cons (ev_var rfl) ea_nil) (by omega) (fun _ => rfl) (fun j H6 e6 hj => et_yes) (fun j H6 e6 hj _ => ?_)) fun gl H6 ngl e6 hgl => ?_
    · have jj0 : (0 : Int) ≤ (j : Int) * j := Int.mul_nonneg (by omega) (by omega)
      have jj1 : (j : Int) * j ≤ 100 * 100 := Int.mul_le_mul (by omega) (by omega) (by omega) (by omega)
      refine ev_is (ev_call (ea_cons (ev_call (ea_cons (ev_op (ev_op (ev_var rfl) (ev_op (ev_op (ev_var rfl) (ev_var rfl) (rv_I (.inl ⟨by omega, by omega⟩))) ev_c rv_I0) (rv_I (.inr ⟨by omega, by omega⟩))) (ev_var rfl) rv_I0) (ea_cons (ev_op ev_c ev_c (rv_I p40)) ea_nil)) (spv_of ⟨_, _, rfl, by decide, rfl⟩)) (ea_cons (ev_var rfl) (ea_cons (ev_var rfl) (ea_cons (ev_var rfl) ea_nil)))) (spv_of ⟨_, _, _, _, rfl, by omega, hmode, rfl⟩)) ?_
      rw [← hgv]
    rw [given_all] at hgl
    generalize hgs : (List.range m.toNat).map (fun j => (gv j).toNat) = gs
    have hgl2 : H6 gl = some (.lst (gs.map vN)) := by
      rw [hgl, ← hgs, List.map_map]
      refine congrArg (fun l => some (HO.lst l)) (List.map_congr_left fun j _ => ?_)
      show V.int (gv j) = V.int ((gv j).toNat : Int)
      rw [Int.toNat_of_nonneg (gin j).1]
    have hgl3 : gs.length ≤ 100 := by
      rw [← hgs, List.length_map, List.length_range]
      omega
    have hgl4 : ∀ g ∈ gs, g < n := fun g hg => by
      rw [← hgs] at hg
      obtain ⟨j, _, rfl⟩ := List.mem_map.mp hg
      have := gin j
      omega
    have nH : H gl = none := fresh_back e05 ngl
    have xg : Ext B H (upd B gl (.lst (gs.map vN))) H6 := Ext.ofL hB nH (e05.trans e6) hgl2
    refine q_when (et_test (ev_op (ev_op (ev_var rfl) ev_c (rv_I (by decide))) ev_c rv_I0)) (fun hb H7 e7 => ?_) (fun hb H7 e7 => ?_)
    · -- a pick
      refine s_retU (eu_tup (ea_cons ev_c (ea_cons (ev_op ev_c (ev_op (ev_op (ev_var rfl) ev_c (rv_I ⟨by decide, by decide⟩)) ev_c (rv_I (by decide))) rv_I0) (ea_cons (ev_var rfl) ea_nil))) (by show 3 ≤ 100000; decide)) fun p H8 np e8 hp => ?_
      have xg7 := xg.run e7
      have xg8 := (xg7.run e8).frz (xg7.noH np) (xg7.noB np) hp
      refine q _ _ _ xg8 ⟨.pick gs, ⟨p, _, gl, rfl, upd_same, ?_⟩, hgl3, hgl4⟩
      rw [upd_ne fun z => ?_]
      · exact upd_same
      · rw [z] at hgl2
        rw [e7 _ _ hgl2] at np
        cases np
    · -- a throw
      have xg7 := xg.run e7
      have hBgl : (upd B gl (.lst (gs.map vN))) gl = some (.lst (gs.map vN)) := upd_same
      generalize upd B gl (.lst (gs.map vN)) = B' at xg xg7 hBgl
      refine s_retH ((evp_tup (epa_three (R := fun x _ => x = .str "throw") (S := fun _ _ => True) (U := fun v B2 => ∃ p vs, v = V.ref p ∧ B2 p = some (HO.lst vs) ∧ Lcs B2 (fun i v B => ∃ (t : Addr) (y : V), v = V.ref t ∧ B t = some (HO.tup [y, vN (gs.getD i 0)])) (gs.map vN).length vs) (evp_of ev_c) (fun _ _ _ _ h => h)
          (fun B2 _ => (evp_u (eu_tup (ea_cons (ev_op (ev_op (ev_var rfl) ev_c (rv_I ⟨by decide, by decide⟩)) ev_c (rv_I (by decide))) (ea_cons ev_c ea_nil)) (by show 2 ≤ 100000; decide))).imp fun _ _ _ _ => trivial) (fun _ _ _ _ _ => trivial)
          (fun B2 e2 => evp_lcE (xs := gs.map vN) (fun i v B B2 e h => by obtain ⟨t, y, h1, h2⟩ := h; exact ⟨t, y, h1, e _ _ h2⟩) (ev_var rfl) (e2 _ _ hBgl) (by rw [List.length_map]; omega) (fun _ _ => rfl) fun i x B3 e3 hx => ?_))
        (fun vs B2 B3 e h => ?_) (fun vs B2 h => by obtain ⟨v, w, z, rfl, _⟩ := h; show 3 ≤ 100000; decide)).h xg7.sub) fun v B4 H4 x4 r4 => ?_
      · have hil := (List.getElem?_eq_some_iff.mp hx).1
        rw [List.length_map] at hil
        have ex : x = vN (gs.getD i 0) := by
          rw [List.getElem?_map, List.getElem?_eq_getElem hil] at hx
          rw [List.getD_eq_getElem?_getD, List.getElem?_eq_getElem hil]
          exact (Option.some.inj hx).symm
        refine (evp_u (eu_tup (ea_cons (ev_op ev_c (ev_op (ev_op (ev_var rfl) (ev_op ev_c (ev_var rfl) rv_I0) (rv_I ⟨by omega, by omega⟩)) ev_c (rv_I (by decide))) rv_I0) (ea_cons (ev_var rfl) ea_nil)) (by show 2 ≤ 100000; decide))).imp fun v B5 _ h => ?_
        obtain ⟨t, h1, h2⟩ := h
        rw [ex] at h2
        exact ⟨t, _, h1, h2⟩
      · obtain ⟨v, w, z, h1, h2, h3, p, ws, h4, h5, L⟩ := h
        exact ⟨v, w, z, h1, h2, h3, p, ws, h4, e _ _ h5, L.mono (fun i v B B2 e h => by obtain ⟨t, y, h1, h2⟩ := h; exact ⟨t, y, h1, e _ _ h2⟩) e⟩
      · obtain ⟨p, vs, rfl, hp, v1, v2, v3, rfl, rfl, _, l, ws, rfl, hl2, L⟩ := r4
        refine q _ B4 H4 (xg7.trans x4) ⟨.throw gs, ⟨p, v2, l, ws, rfl, hp, hl2, by rw [L.len, List.length_map], fun i g hg => ?_⟩, hgl3, hgl4⟩
        have hil : i < ws.length := by
          rw [L.len, List.length_map]
          exact (List.getElem?_eq_some_iff.mp hg).1
        obtain ⟨t, y, h1, h2⟩ := L.all i _ (List.getElem?_eq_getElem hil)
        rw [List.getD_eq_getElem?_getD, hg] at h2
        exact ⟨t, y, by rw [List.getElem?_eq_getElem hil, h1], h2⟩
end
end Pk

namespace Pk
open PySem PySem.Spec PyProof.Rows L2 Evl

theorem pls_ex {H : Hp} {Qp : Nat → Pl → Prop} : ∀ (ws : List V) (k : Nat), (∀ (i : Nat) (v : V), ws[i]? = some v → ∃ pl, PlAt v H pl ∧ Qp (k + i) pl) → ∃ C, BdVs ws H C ∧ ∀ (i : Nat) (pl : Pl), C[i]? = some pl → Qp (k + i) pl
  | [], k, _ => ⟨[], ⟨rfl, fun i p h => by simp at h⟩, fun i p h => by simp at h⟩
  | v :: ws, k, h => by
    obtain ⟨pl, h1, h2⟩ := h 0 v rfl
    obtain ⟨C, h3, h4⟩ := pls_ex ws (k + 1) fun i w hw => by
      obtain ⟨p, q1, q2⟩ := h (i + 1) w hw
      exact ⟨p, q1, by rw [show k + 1 + i = k + (i + 1) by omega]; exact q2⟩
    refine ⟨pl :: C, ⟨by rw [List.length_cons, List.length_cons, h3.1], fun i p hp => ?_⟩, fun i p hp => ?_⟩
    · cases i with
      | zero =>
        have e : pl = p := Option.some.inj hp
        subst e
        exact ⟨v, rfl, h1⟩
      | succ i => exact h3.2 i p hp
    · cases i with
      | zero =>
        have e : pl = p := Option.some.inj hp
        subst e
        exact h2
      | succ i =>
        rw [show k + (i + 1) = k + 1 + i by omega]
        exact h4 i p hp
section
variable {P : Program} {w : World} {K : PySem.W.Frag} {mg : Str → Option Value} {base : Heap}
def pBoard (K : PySem.W.Frag) : List V → Hp → (V → Hp → Prop) → Prop := fun vs B R => ∃ (a : Addr) (ns : List Int), vs = [.ref a] ∧ SqL K B a (ns.map V.int) ∧ ns.length ≤ 63 ∧ R = fun v B2 => ∃ Bd, Wf Bd ∧ BdAt Bd v B2
abbrev nBoard : List Str := ["_law_script", "_law_n", "_law_k"]
theorem scBoard : FnScope nBoard ["_law_script"] (defScope sBoard) := ⟨rfl, rfl, rfl, by decide +kernel, rfl, by decide +kernel, by decide +kernel⟩
theorem ok_board {f fC fP : Addr} {fd fdC fdP : FuncData} (F : Fun K "_law_board" "_law_board" sBoard f fd)
    (FC : Fun K "_law_cell" "_law_cell" sCell fC fdC) (bC : Binds K fdC ["_law_script", "_law_k"] []) (gC : mg "_law_cell" = some (.ref fC))
    (FP : Fun K "_law_place" "_law_place" sPlace fP fdP) (GP : FnOk P w K mg base CX0 2 fP fdP ["_law_script", "_law_k", "_law_n", "_law_mode"] (spP (pPlace K))) (bP : Binds K fdP ["_law_script", "_law_k", "_law_n", "_law_mode"] []) (gP : mg "_law_place" = some (.ref fP))
    (ml : mg "len" = none) (mr : mg "range" = none) : FnOk P w K mg base CX0 3 f fd ["_law_script"] (spP (pBoard K)) := by
  have GC : FnOk P w K mg base CX0 1 fC fdC ["_law_script", "_law_k"] (spS (pCell K)) := ok_cell FC ml
  refine F.ok scBoard (fun vs H Q E h => ?_) (fun cdv A outer s H vs Q E hr h => ?_)
  · obtain ⟨B, R, _, ⟨a, ns, rfl, _⟩, _⟩ := h
    rfl
  · obtain ⟨B, R, hB, ⟨a, ns, rfl, hs, hl, rfl⟩, q⟩ := h
    have hr1 : Room 1 _ := hr.mono (by decide)
    refine ⟨_, pss_cons (ps_set (i := 1) scBoard.nd rfl (.inr rfl) (pe_op op_add pe_int (pe_op op_mod (pe_call GC hr1 (by rfl) gC FC.kp bC .nil pass0 (pa_cons (pv 0) (pa_cons pe_int pa_nil))) pe_int)))
      (pss_cons (ps_if (pt_cmpR op_eq (pe_op op_mod (pe_op op_fdiv (pe_call GC hr1 (by rfl) gC FC.kp bC .nil pass0 (pa_cons (pv 0) (pa_cons pe_int pa_nil))) pe_int) pe_int) pe_int (nomark _))
        (pss_one (ps_set (i := 1) scBoard.nd rfl (.inr rfl) (pe_op op_add pe_int (pe_op op_mod (pe_op op_fdiv (pe_call GC hr1 (by rfl) gC FC.kp bC .nil pass0 (pa_cons (pv 0) (pa_cons pe_int pa_nil))) pe_int) pe_int)))) pss_nil)
      (pss_one (ps_ret (pe_lc (own := [("_law_k", 2)]) (g := gName 2) (tt := tYes) rfl scBoard.nd (pi_range1 (by rfl) mr (pa_cons (pv 1) pa_nil)) (blkOk_by (N := nBoard) (sc := defScope sBoard) (by decide +kernel))
        (fun _ _ _ _ _ => pg_name (i := 2) scBoard.nd rfl (Or.inl rfl)) (fun _ _ _ _ _ => pts_nil)
        (fun _ _ _ _ _ => pe_call GP hr (by rfl) gP FP.kp bP .nil pass0 (pa_cons (pv 0) (pa_cons (pv 2) (pa_cons (pv 1) (pa_cons (pe_op op_mod (pe_call GC hr1 (by rfl) gC FC.kp bC .nil pass0 (pa_cons (pv 0) (pa_cons pe_int pa_nil))) pe_int) pa_nil))))))))), ?_⟩
    have cell : ∀ {σ : L2.St} {H1 : Hp} {i : Int}, σ[0]? = some (some (.ref a)) → Ex B H1 → 0 ≤ i → i ≤ 1000 → Ev (tCall (spS (pCell K)) [] E0 (tCons (tVar 0) (tCons (tC (.int i)) tNil))) σ H1 (.int (cellM ns i)) := fun h e h0 h1 =>
      ev_call (ea_cons (ev_var h) (ea_cons ev_c ea_nil)) (spv_of ⟨a, ns, _, rfl, ex_l e hs, hl, h0, h1, rfl⟩)
    refine q_asg (ev_op ev_c (ev_op (cell rfl hB (by decide) (by decide)) ev_c (rv_I (by decide))) rv_I0) fun H1 e1 => ?_
    refine q_ifAsg (v := .int (if cellM ns 0 / 10 % 6 = 5 then 1 + cellM ns 0 / 60 % 24 else 1 + cellM ns 0 % 10)) (et_test (ev_op (ev_op (ev_op (cell rfl (hB.trans e1) (by decide) (by decide)) ev_c (rv_I ⟨by decide, by decide⟩)) ev_c (rv_I (by decide))) ev_c (rv_eq rfl))) (fun hb => ?_) (fun hb => ?_) fun H2 e2 => ?_
    · rw [if_pos (V.int.inj (of_decide_eq_true hb))]
      exact ev_op ev_c (ev_op (ev_op (cell rfl (hB.trans e1) (by decide) (by decide)) ev_c (rv_I ⟨by decide, by decide⟩)) ev_c (rv_I (by decide))) rv_I0
    · rw [if_neg fun z => of_decide_eq_false hb (by rw [z])]
      rfl
    · obtain ⟨n, hn, n1, n2⟩ : ∃ n : Nat, (if cellM ns 0 / 10 % 6 = 5 then 1 + cellM ns 0 / 60 % 24 else 1 + cellM ns 0 % 10) = (n : Int) ∧ 1 ≤ n ∧ n ≤ 24 := by
        have l1 := Int.emod_nonneg (cellM ns 0 / 60) (b := 24) (by decide)
        have l2 := Int.emod_lt_of_pos (cellM ns 0 / 60) (b := 24) (by decide)
        have l3 := Int.emod_nonneg (cellM ns 0) (b := 10) (by decide)
        have l4 := Int.emod_lt_of_pos (cellM ns 0) (b := 10) (by decide)
        split
        · exact ⟨(1 + cellM ns 0 / 60 % 24).toNat, by omega, by omega, by omega⟩
        · exact ⟨(1 + cellM ns 0 % 10).toNat, by omega, by omega, by omega⟩
      rw [hn]
      have e02 := e1.trans e2
      refine s_retH ((evp_lcR (n := (n : Int)) (R := fun _ => PlOk n) (fun _ => PlOk.mono) (ea_cons (ev_var rfl) ea_nil) (by omega) (fun _ => rfl) fun i B2 e hi => ?_).h (hB.trans e02)) fun v B3 H3 x3 r3 => ?_
      · refine evp_call (epa_of (ea_cons (ev_var rfl) (ea_cons (ev_var rfl) (ea_cons (ev_var rfl) (ea_cons (ev_op (cell rfl e (by decide) (by decide)) ev_c (rv_I (by decide))) ea_nil))))) fun vs B3 e3 hv => ?_
        subst hv
        exact ⟨a, ns, i, n, _, rfl, ex_l (e.trans e3) hs, hl, by omega, n2, rfl⟩
      · obtain ⟨p, vs, rfl, hp, L⟩ := r3
        have hL : vs.length = n := by rw [L.len]; omega
        obtain ⟨Bd, h1, h2⟩ := pls_ex (H := B3) (Qp := fun _ pl => pl.gs.length ≤ 100 ∧ ∀ g ∈ pl.gs, g < n) vs 0 fun i v hv => L.all i v hv
        have hlen : Bd.length = n := by rw [← h1.1, hL]
        refine q _ B3 H3 (x3.pre e02) ⟨Bd, ⟨by omega, fun x g hg => ?_, fun x => ?_⟩, p, vs, rfl, hp, h1⟩
        · rw [hlen]
          unfold goals at hg
          split at hg
          · rename_i p hp
            exact (h2 _ _ hp).2 g hg
          · cases hg
        · unfold goals
          split
          · rename_i p hp
            exact (h2 _ _ hp).1
          · exact Nat.zero_le _
end
end Pk

namespace Pk
open PySem PySem.Spec PyProof.Rows L2 Evl

/-- a list of names for n places -/
structure Nms (n : Nat) (nm : List Nat) : Prop where
  len : nm.length = n
  nd : nm.Nodup
  lt : ∀ x ∈ nm, x < n
def nam (nm : List Nat) (i : Nat) : Nat := nm.getD i 0
theorem nam_at {nm : List Nat} {i : Nat} (h : i < nm.length) : nm[i]? = some (nam nm i) := by
  unfold nam
  rw [List.getD_eq_getElem?_getD, List.getElem?_eq_getElem h]
  rfl
theorem Nms.num {n : Nat} {nm : List Nat} (N : Nms n nm) : Num n (nam nm) := by
  have hinj : ∀ a b, a < n → b < n → nam nm a = nam nm b → a = b := fun a b ha hb e => by
    have h1 := nam_at (nm := nm) (i := a) (by rw [N.len]; exact ha)
    have h2 := nam_at (nm := nm) (i := b) (by rw [N.len]; exact hb)
    rw [← e] at h2
    exact nd_at N.nd h1 h2
  refine ⟨fun a ha => N.lt _ (List.mem_of_getElem? (nam_at (by rw [N.len]; exact ha))), hinj, fun b hb => ?_⟩
  have hp : nm.Perm (List.range n) := by
    have hs : nm ⊆ List.range n := fun x hx => List.mem_range.mpr (N.lt x hx)
    refine (List.perm_ext_iff_of_nodup N.nd List.nodup_range).mpr fun x => ⟨fun h => hs h, fun h => ?_⟩
    apply Classical.byContradiction
    intro hx
    have : (x :: nm).length ≤ n := by
      refine nd_len (List.nodup_cons.mpr ⟨hx, N.nd⟩) fun k hk => ?_
      rcases List.mem_cons.mp hk with e | e
      · rw [e]
        exact List.mem_range.mp h
      · exact N.lt k e
    rw [List.length_cons, N.len] at this
    omega
  obtain ⟨a, ha⟩ := List.getElem?_of_mem (hp.mem_iff.mpr (List.mem_range.mpr hb))
  have hl := (List.getElem?_eq_some_iff.mp ha).1
  refine ⟨a, by rw [← N.len]; exact hl, ?_⟩
  rw [nam_at hl] at ha
  exact Option.some.inj ha
section
variable {P : Program} {w : World} {K : PySem.W.Frag} {mg : Str → Option Value} {base : Heap}

/-! ### _law_named -/
def pNamed : List V → Hp → (V → Hp → Prop) → Prop := fun vs B R => ∃ (v u : V) (l nm m : List Nat), vs = [v, u] ∧ NsAt l v B ∧ NsAt nm u B ∧ l.length ≤ 100 ∧ (∀ x ∈ l, x < nm.length) ∧ (l.map (nam nm)).Nodup ∧ m.Pairwise (· < ·) ∧ (∀ g, g ∈ l.map (nam nm) ↔ g ∈ m) ∧ R = NsAt m
abbrev nNamed : List Str := ["_law_some", "_law_names", "_law_place_here"]
theorem scNamed : FnScope nNamed ["_law_some", "_law_names"] (defScope sNamed) := ⟨rfl, rfl, rfl, by decide +kernel, rfl, by decide +kernel, by decide +kernel⟩
theorem given_map (l : List Nat) (g : Nat → Nat) : given l.length (fun _ => true) (fun i => vN (g (l.getD i 0))) = (l.map g).map vN := by
  rw [given_all]
  have e := range_get (l := l.map g) (g := fun i => vN (g (l.getD i 0))) fun i x hx => by
    rw [List.getElem?_map] at hx
    obtain ⟨y, hy, rfl⟩ := Option.map_eq_some_iff.mp hx
    rw [List.getD_eq_getElem?_getD, hy]
    rfl
  rw [List.length_map] at e
  exact e
theorem ok_named {f : Addr} {fd : FuncData} (F : Fun K "_law_named" "_law_named" sNamed f fd) (ms : mg "sorted" = none) : FnOk P w K mg base CX0 1 f fd ["_law_some", "_law_names"] (spP pNamed) := by
  refine F.ok scNamed (fun vs H Q E h => ?_) (fun cdv A outer s H vs Q E hr h => ?_)
  · obtain ⟨B, R, _, ⟨v, u, l, nm, m, rfl, _⟩, _⟩ := h
    rfl
  · obtain ⟨B, R, hB, ⟨v, u, l, nm, m, rfl, hl, hn, hz, hlt, hnd, hm, hmem, rfl⟩, q⟩ := h
    obtain ⟨al, rfl, hal⟩ := hl
    obtain ⟨an, rfl, han⟩ := hn
    refine ⟨_, pss_one (ps_ret (pe_callB cr_sortedI (by rfl) ms boot_sorted (pa_cons (pe_lc (own := [("_law_place_here", 2)]) (g := gName 2) (tt := tYes) rfl scNamed.nd (pi_list (pv 0)) (blkOk_by (N := nNamed) (sc := defScope sNamed) (by decide +kernel))
        (fun _ _ _ _ _ => pg_name (i := 2) scNamed.nd rfl (Or.inl rfl)) (fun _ _ _ _ _ => pts_nil) (fun _ _ _ _ _ => pe_ix (r := rIxL K) ix_list (pv 1) (pv 2) (fun _ _ => rfl))) pa_nil))), ?_⟩
    refine s_retH (B := B) (R := NsAt m) ?_ q
    refine evh_cb1 (R := NsAt (l.map (nam nm))) (((evp_l (el_lcL (xs := l.map vN) (fun _ => true) (fun i => vN (nam nm (l.getD i 0))) (ev_var rfl) (sq_of hal) (by rw [List.length_map]; omega) (fun _ => rfl) (fun i x H1 e1 hx => et_yes) (fun i x H1 e1 hx _ => ?_))).imp fun v B2 _ h => ?_).h hB) fun v B2 H2 x2 r2 Q2 q2 => ?_
    · rw [List.getElem?_map] at hx
      obtain ⟨g, hg, rfl⟩ := Option.map_eq_some_iff.mp hx
      have e : l.getD i 0 = g := by rw [List.getD_eq_getElem?_getD, hg]; rfl
      rw [e]
      exact ev_op (ev_var rfl) (ev_var rfl) (rv_ixL (sq_of (e1 _ _ han)) (at_vn (nam_at (hlt g (List.mem_of_getElem? hg)))))
    · obtain ⟨p, h1, h2⟩ := h
      rw [List.length_map, given_map] at h2
      exact ⟨p, h1, h2⟩
    · obtain ⟨p, rfl, hp⟩ := r2
      exact sorted_ns (sq_of (x2.sub _ _ hp)) hnd hm hmem fun p2 hp2 => q2 _ _ _ ((Ext.refl x2.sub).new hp2) ⟨p2, rfl, upd_same⟩

/-! ### _law_turned -/
theorem s_setH {σ : L2.St} {B H : Hp} {te ta tb : TE} {R : V → Hp → Prop} {D : Ends} {l : Addr} {xs : List V} {j : Nat} (h : EvH te σ B H R) (hl : H l = some (.lst xs)) (ho : Ev ta σ H (.ref l)) (hi : Ev tb σ H (vN j)) (hj : j < xs.length)
    (k : ∀ v B2 H2, Ext B H B2 H2 → R v B2 → D.nx σ (upd H2 l (.lst (xs.set j v)))) : tAsg te (gSub ta tb rSetL) D σ H := h _ fun v B2 H2 x r => ho H2 x.hh _ fun H3 e3 => hi H3 (x.hh.trans e3) _ fun H4 e4 =>
  ⟨l, xs, (j : Int), j, rfl, rfl, (e3.trans e4) _ _ (x.keep hl), ixN_nat hj, k v B2 H4 (x.run (e3.trans e4)) r⟩
def pTurned : List V → Hp → (V → Hp → Prop) → Prop := fun vs B R => ∃ (v u : V) (Bd : List Pl) (nm : List Nat), vs = [v, u] ∧ BdAt Bd v B ∧ Wf Bd ∧ NsAt nm u B ∧ Nms Bd.length nm ∧ R = fun v B2 => ∃ C, BdAt C v B2 ∧ Ren Bd C (nam nm)
abbrev nTurned : List Str := ["_law_board_here", "_law_names", "_law_place_here", "_law_made", "_law_at", "_law_goal_here", "_law_weight"]
theorem scTurned : FnScope nTurned ["_law_board_here", "_law_names"] (defScope sTurned) := ⟨rfl, rfl, rfl, by decide +kernel, rfl, by decide +kernel, by decide +kernel⟩
theorem ok_turned {f : Addr} {fd : FuncData} (F : Fun K "_law_turned" "_law_turned" sTurned f fd) (ml : mg "len" = none) (mr : mg "range" = none) : FnOk P w K mg base CX0 1 f fd ["_law_board_here", "_law_names"] (spP pTurned) := by
  refine F.ok scTurned (fun vs H Q E h => ?_) (fun cdv A outer s H vs Q E hr h => ?_)
  · obtain ⟨B, R, _, ⟨v, u, Bd, nm, rfl, _⟩, _⟩ := h
    rfl
  · obtain ⟨B, R, hB, ⟨v, u, Bd, nm, rfl, hv, W, hn, N, rfl⟩, q⟩ := h
    obtain ⟨ab, ps, rfl, hab, hps⟩ := hv
    obtain ⟨an, rfl, han⟩ := hn
    refine ⟨_, pss_cons (ps_setLc (i := 3) (own := [("_law_place_here", 2)]) (g := gName 2) (tt := tYes) rfl scTurned.nd rfl rfl (sw_true rfl rfl rfl (by decide +kernel)) (pi_list (pv 0)) (blkOk_by (N := nTurned) (sc := defScope sTurned) (by decide +kernel))
          (fun _ _ _ _ _ => pg_name (i := 2) scTurned.nd rfl (Or.inl rfl)) (fun _ _ _ _ _ => pts_nil) (fun _ _ _ _ _ => pe_non))
      (pss_cons (ps_for PassesOwn.never rfl (pi_range1 (by rfl) mr (pa_cons (pe_callB call_len_seq (by rfl) ml PySem.boot_len (pa_cons (pv 0) pa_nil)) pa_nil)) (pg_name (i := 4) scTurned.nd rfl (.inl rfl))
        (pss_cons (ps_set (i := 2) scTurned.nd rfl (.inl rfl) (pe_ix ix_list (pv 0) (pv 4) (fun _ _ => rfl)))
        (pss_one (ps_if (pt_cmpR op_eq (pe_ix ix_tup (pv 2) pe_int (fun _ _ => rfl)) pe_str (nomark _))
          (pss_one (ps_asg (pv 2) (pg_sub (pv 3) (pe_ix ix_list (pv 1) (pv 4) (fun _ _ => rfl)) set_list)))
          (pss_one (ps_if (pt_cmpR op_eq (pe_ix ix_tup (pv 2) pe_int (fun _ _ => rfl)) pe_str (nomark _))
            (pss_one (ps_asg (pe_tup (pa_cons pe_str (pa_cons (pe_ix ix_tup (pv 2) pe_int (fun _ _ => rfl)) (pa_cons
              (pe_lc (own := [("_law_goal_here", 5)]) (g := gName 5) (tt := tYes) rfl scTurned.nd (pi_list (pe_ix ix_tup (pv 2) pe_int (fun _ _ => rfl))) (blkOk_by (N := nTurned) (sc := defScope sTurned) (by decide +kernel))
                (fun _ _ _ _ _ => pg_name (i := 5) scTurned.nd rfl (Or.inl rfl)) (fun _ _ _ _ _ => pts_nil) (fun _ _ _ _ _ => pe_ix (r := rIxL K) ix_list (pv 1) (pv 5) (fun _ _ => rfl))) pa_nil))))
              (pg_sub (pv 3) (pe_ix ix_list (pv 1) (pv 4) (fun _ _ => rfl)) set_list)))
            (pss_one (ps_asg (pe_tup (pa_cons pe_str (pa_cons (pe_ix ix_tup (pv 2) pe_int (fun _ _ => rfl)) (pa_cons
              (pe_lc (own := [("_law_weight", 6), ("_law_goal_here", 5)]) (g := gTup K 2 (gCons (gName 6) (gCons (gName 5) gNil))) (tt := tYes) rfl scTurned.nd (pi_list (pe_ix ix_tup (pv 2) pe_int (fun _ _ => rfl))) (blkOk_by (N := nTurned) (sc := defScope sTurned) (by decide +kernel))
                (fun _ _ _ _ _ => pg_tup rfl (pgs_cons (pg_name (i := 6) scTurned.nd rfl (Or.inl rfl)) (pgs_cons (pg_name (i := 5) scTurned.nd rfl (Or.inl rfl)) pgs_nil))) (fun _ _ _ _ _ => pts_nil)
                (fun _ _ _ _ _ => pe_tup (pa_cons (pv 6) (pa_cons (pe_ix (r := rIxL K) ix_list (pv 1) (pv 5) (fun _ _ => rfl)) pa_nil)))) pa_nil))))
              (pg_sub (pv 3) (pe_ix ix_list (pv 1) (pv 4) (fun _ _ => rfl)) set_list)))))))))
      (pss_one (ps_ret (pv 3)))), ?_⟩
    have hn24 := W.len
    have hpl := hps.1
    have NN := N.num
    -- _law_made
    refine q_asgL (el_lcL (xs := ps) (fun _ => true) (fun _ => .non) (ev_var rfl) (sq_of (hB _ _ hab)) (by omega) (fun _ => rfl) (fun i x H1 e1 hx => et_yes) (fun i x H1 e1 hx _ => ev_c)) fun md H1 nmd e1 hmd => ?_
    refine q_forR1 (n := (Bd.length : Int)) (ea_cons (ev_is (ev_len (ev_var rfl) (sq_of (e1 _ _ (hB _ _ hab)))) (by rw [hpl])) ea_nil) (by omega)
      (fun i σ' H' => ∃ (B' : Hp) (y2 y4 : Option V) (ws : List V), σ' = [some (.ref ab), some (.ref an), y2, some (.ref md), y4, none, none] ∧ Ext B H B' H' ∧ B' md = none ∧ H' md = some (.lst ws) ∧ ws.length = Bd.length ∧
        ∀ (j : Nat) (p : Pl), j < i → Bd[j]? = some p → ∃ v : V, ws[nam nm j]? = some v ∧ PlAt v B' (p.ren (nam nm)))
      (fun H2 e2 => ⟨B, none, none, _, rfl, Ext.of hB (e1.trans e2), fresh_back hB nmd, e2 _ _ hmd, by rw [given_all, List.length_map, List.length_range, hpl], fun j p h => absurd h (Nat.not_lt_zero _)⟩) (fun i σ' H' hi hW => ?_) (fun σ' H' hW => ?_)
    · obtain ⟨B', y2, y4, ws, rfl, x, nm0, hws, hwl, hold⟩ := hW
      have hi : i < Bd.length := by omega
      have hab' : B' ab = some (.lst ps) := x.bb _ _ hab
      have han' : B' an = some (.lst (nm.map vN)) := x.bb _ _ han
      obtain ⟨v, hv1, hv2⟩ := (hps.mono x.bb).2 i _ (List.getElem?_eq_getElem hi)
      have hbp := List.getElem?_eq_getElem hi
      have hfi : nam nm i < ws.length := by
        rw [hwl]
        exact NN.lt i hi
      have hwl2 : ∀ g ∈ goals Bd i, g < nm.length := fun g hg => by
        rw [N.len]
        exact W.pl _ _ hg
      have hw100 := W.ways i
      rw [goals_of hbp] at hw100 hwl2
      generalize Bd[i] = p at hv2 hbp hw100 hwl2
      -- _law_place_here
      refine q_asg (ev_op (ev_var rfl) (ev_var rfl) (rv_ixL (sq_of (x.sub _ _ hab')) (atI_nat hv1))) fun H5 e5 => ?_
      have x5 := x.run e5
      have fin : ∀ (v' : V) (B2 H6 H2 : Hp) (e : Ex H5 H6), Ext B' H6 B2 H2 → PlAt v' B2 (p.ren (nam nm)) →
          ∃ (B' : Hp) (y2 y4 : Option V) (ws' : List V), [some (.ref ab), some (.ref an), some v, some (.ref md), some (vN i), none, none] = [some (.ref ab), some (.ref an), y2, some (.ref md), y4, none, none] ∧ Ext B H B' (upd H2 md (.lst (ws.set (nam nm i) v'))) ∧ B' md = none ∧ (upd H2 md (.lst (ws.set (nam nm i) v'))) md = some (.lst ws') ∧ ws'.length = Bd.length ∧
            ∀ (j : Nat) (p : Pl), j < i + 1 → Bd[j]? = some p → ∃ v : V, ws'[nam nm j]? = some v ∧ PlAt v B' (p.ren (nam nm)) := fun v' B2 H6 H2 e a hp => by
        have off := a.off (e _ _ (e5 _ _ hws)) nm0
        refine ⟨B2, _, _, _, rfl, ((x5.run e).trans a).mut nmd off, off, upd_same, by rw [List.length_set]; exact hwl, fun j p' hj hpj => ?_⟩
        by_cases hji : j = i
        · subst hji
          rw [hbp] at hpj
          cases hpj
          exact ⟨v', List.getElem?_set_self hfi, hp⟩
        · have hjl := (List.getElem?_eq_some_iff.mp hpj).1
          obtain ⟨v2, q1, q2⟩ := hold j p' (by omega) hpj
          refine ⟨v2, ?_, q2.mono a.bb⟩
          rw [List.getElem?_set_ne fun z => hji (NN.inj j i hjl hi z.symm)]
          exact q1
      have hidx : ∀ {H6 : Hp}, Ex H5 H6 → Ev (tOp (rIxL K) (tVar 1) (tVar 4)) [some (.ref ab), some (.ref an), some v, some (.ref md), some (vN i), none, none] H6 (vN (nam nm i)) := fun e => ev_op (ev_var rfl) (ev_var rfl) (rv_ixL (sq_of (e _ _ (x5.sub _ _ han'))) (at_vn (nam_at (by rw [N.len]; exact hi))))
      cases p with
      | fin =>
        obtain ⟨a, z, rfl, h1⟩ := hv2
        refine s_if (et_test (ev_op (ev_op (ev_var rfl) ev_c (rv_ixT (st_of (x5.sub _ _ h1)) rfl)) ev_c (rv_eq rfl))) (fun hb H6 e6 => ?_) (fun hb H6 e6 => absurd rfl (of_decide_eq_false hb))
        refine s_setH (B := B') (R := fun y _ => y = .ref a) ((evp_of (ev_var rfl)).h (x5.run e6).sub) (e6 _ _ (e5 _ _ hws)) (ev_var rfl) (hidx e6) hfi fun v' B2 H2 x2 r2 => ?_
        subst r2
        exact fin _ B2 H6 H2 e6 x2 ⟨a, z, rfl, x2.bb _ _ h1⟩
      | pick gs =>
        obtain ⟨a, z, l, rfl, h1, h2⟩ := hv2
        refine s_if (et_test (ev_op (ev_op (ev_var rfl) ev_c (rv_ixT (st_of (x5.sub _ _ h1)) rfl)) ev_c (rv_eq rfl))) (fun hb H6 e6 => absurd (V.str.inj (of_decide_eq_true hb)) (by decide +kernel)) (fun hb H6 e6 => ?_)
        refine s_if (et_test (ev_op (ev_op (ev_var rfl) ev_c (rv_ixT (st_of ((x5.run e6).sub _ _ h1)) rfl)) ev_c (rv_eq rfl))) (fun hb H7 e7 => ?_) (fun hb H7 e7 => absurd rfl (of_decide_eq_false hb))
        have e67 := e6.trans e7
        refine s_setH (B := B') (R := fun v' B2 => PlAt v' B2 (Pl.pick (gs.map (nam nm)))) (EvP.h ((evp_tup (epa_three (R := fun x _ => x = .str "pick") (S := fun _ _ => True) (U := NsAt (gs.map (nam nm))) (evp_of ev_c) (fun _ _ _ _ h => h)
            (fun B2 b2 => (evp_of (ev_op (ev_var rfl) ev_c (rv_ixT (st_of (b2 _ _ h1)) rfl))).imp fun _ _ _ _ => trivial) (fun _ _ _ _ _ => trivial)
            (fun B2 b2 => (evp_l (el_lcL (xs := gs.map vN) (fun _ => true) (fun i => vN (nam nm (gs.getD i 0))) (ev_op (ev_var rfl) ev_c (rv_ixT (st_of (b2 _ _ h1)) rfl)) (sq_of (b2 _ _ h2)) (by rw [List.length_map]; exact Nat.le_trans hw100 (by decide)) (fun _ => rfl) (fun i x H1 e1 hx => et_yes) (fun j y H8 e8 hx _ => ?_))).imp fun v8 B8 _ h8 => ?_))
          (fun vs B2 B3 e h => ?_) (fun vs B2 h => by obtain ⟨v, w, z, rfl, _⟩ := h; show 3 ≤ 100000; decide)).imp fun v8 B8 _ h8 => ?_) (x5.run e67).sub) (e67 _ _ (e5 _ _ hws)) (ev_var rfl) (hidx e67) hfi fun v' B2 H2 x2 r2 => fin _ B2 H7 H2 e67 x2 r2
        · rw [List.getElem?_map] at hx
          obtain ⟨g, hg, rfl⟩ := Option.map_eq_some_iff.mp hx
          have e : gs.getD j 0 = g := by rw [List.getD_eq_getElem?_getD, hg]; rfl
          rw [e]
          exact ev_op (ev_var rfl) (ev_var rfl) (rv_ixL (sq_of (e8 _ _ (b2 _ _ han'))) (at_vn (nam_at (hwl2 g (List.mem_of_getElem? hg)))))
        · obtain ⟨p8, q1, q2⟩ := h8
          rw [List.length_map, given_map] at q2
          exact ⟨p8, q1, q2⟩
        · obtain ⟨v, w, z, q1, q2, q3, q4⟩ := h
          exact ⟨v, w, z, q1, q2, q3, NsAt.mono _ _ _ e q4⟩
        · obtain ⟨p8, vs, rfl, q1, v1, v2, v3, rfl, rfl, _, l8, rfl, q2⟩ := h8
          exact ⟨p8, v2, l8, rfl, q1, q2⟩
      | throw gs =>
        obtain ⟨a, z, l, rs, rfl, h1, h2, h3, h4⟩ := hv2
        refine s_if (et_test (ev_op (ev_op (ev_var rfl) ev_c (rv_ixT (st_of (x5.sub _ _ h1)) rfl)) ev_c (rv_eq rfl))) (fun hb H6 e6 => absurd (V.str.inj (of_decide_eq_true hb)) (by decide +kernel)) (fun hb H6 e6 => ?_)
        refine s_if (et_test (ev_op (ev_op (ev_var rfl) ev_c (rv_ixT (st_of ((x5.run e6).sub _ _ h1)) rfl)) ev_c (rv_eq rfl))) (fun hb H7 e7 => absurd (V.str.inj (of_decide_eq_true hb)) (by decide +kernel)) (fun hb H7 e7 => ?_)
        have e67 := e6.trans e7
        have hgr : ∀ (j : Nat) (y : V), rs[j]? = some y → ∃ (g : Nat) (t : Addr) (y0 : V), gs[j]? = some g ∧ y = V.ref t ∧ B' t = some (HO.tup [y0, vN g]) := fun j y hy => by
          have hj := (List.getElem?_eq_some_iff.mp hy).1
          rw [h3] at hj
          obtain ⟨t, y0, q1, q2⟩ := h4 j _ (List.getElem?_eq_getElem hj)
          rw [hy] at q1
          exact ⟨_, t, y0, List.getElem?_eq_getElem hj, Option.some.inj q1, q2⟩
        refine s_setH (B := B') (R := fun v' B2 => PlAt v' B2 (Pl.throw (gs.map (nam nm)))) (EvP.h ((evp_tup (epa_three (R := fun x _ => x = .str "throw") (S := fun _ _ => True)
            (U := fun v B2 => ∃ p vs, v = V.ref p ∧ B2 p = some (HO.lst vs) ∧ Lcs B2 (fun i v B => ∃ (t : Addr) (y : V), v = V.ref t ∧ B t = some (HO.tup [y, vN (nam nm (gs.getD i 0))])) rs.length vs) (evp_of ev_c) (fun _ _ _ _ h => h)
            (fun B2 b2 => (evp_of (ev_op (ev_var rfl) ev_c (rv_ixT (st_of (b2 _ _ h1)) rfl))).imp fun _ _ _ _ => trivial) (fun _ _ _ _ _ => trivial)
            (fun B2 b2 => evp_lcT (xs := rs) (fun i v B B2 e h => by obtain ⟨t, y, h1, h2⟩ := h; exact ⟨t, y, h1, e _ _ h2⟩) (ev_op (ev_var rfl) ev_c (rv_ixT (st_of (b2 _ _ h1)) rfl)) (b2 _ _ h2) (by rw [h3]; exact Nat.le_trans hw100 (by decide))
              (fun j y hy => by obtain ⟨g, t, y0, _, q1, q2⟩ := hgr j y hy; exact ⟨t, y0, _, q1, b2 _ _ q2⟩) (fun _ _ => rfl) fun j t y y2 B3 b3 hy ht => ?_))
          (fun vs B2 B3 e h => ?_) (fun vs B2 h => by obtain ⟨v, w, z, rfl, _⟩ := h; show 3 ≤ 100000; decide)).imp fun v8 B8 _ h8 => ?_) (x5.run e67).sub) (e67 _ _ (e5 _ _ hws)) (ev_var rfl) (hidx e67) hfi fun v' B2 H2 x2 r2 => fin _ B2 H7 H2 e67 x2 r2
        · obtain ⟨g, t', y0, hg, q1, q2⟩ := hgr j _ hy
          cases q1
          have q3 := b2 _ _ q2
          rw [ht] at q3
          cases q3
          have e : gs.getD j 0 = g := by rw [List.getD_eq_getElem?_getD, hg]; rfl
          refine (evp_u (eu_tup (ea_cons (ev_var rfl) (ea_cons (ev_op (ev_var rfl) (ev_var rfl) (rv_ixL (sq_of (b3 _ _ (b2 _ _ han'))) (at_vn (nam_at (hwl2 g (List.mem_of_getElem? hg)))))) ea_nil)) (by show 2 ≤ 100000; decide))).imp fun v5 B5 _ h => ?_
          obtain ⟨t5, q4, q5⟩ := h
          rw [← e] at q5
          exact ⟨t5, _, q4, q5⟩
        · obtain ⟨v, w, z, h1, h2, h3, p, ws, h4, h5, L⟩ := h
          exact ⟨v, w, z, h1, h2, h3, p, ws, h4, e _ _ h5, L.mono (fun i v B B2 e h => by obtain ⟨t, y, h1, h2⟩ := h; exact ⟨t, y, h1, e _ _ h2⟩) e⟩
        · obtain ⟨p8, vs, rfl, q1, v1, v2, v3, rfl, rfl, _, l8, us, rfl, q2, L⟩ := h8
          refine ⟨p8, v2, l8, us, rfl, q1, q2, by rw [L.len, List.length_map, h3], fun j g hg => ?_⟩
          rw [List.getElem?_map] at hg
          obtain ⟨g0, hg0, rfl⟩ := Option.map_eq_some_iff.mp hg
          have hju : j < us.length := by
            rw [L.len, h3]
            exact (List.getElem?_eq_some_iff.mp hg0).1
          obtain ⟨t, y, q3, q4⟩ := L.all j _ (List.getElem?_eq_getElem hju)
          have e : gs.getD j 0 = g0 := by rw [List.getD_eq_getElem?_getD, hg0]; rfl
          rw [e] at q4
          exact ⟨t, y, by rw [List.getElem?_eq_getElem hju, q3], q4⟩
    · -- return _law_made
      obtain ⟨B', y2, y4, ws, rfl, x, nm0, hws, hwl, hold⟩ := hW
      refine s_ret (ev_var rfl) fun H5 e5 => ?_
      have hn : ((Bd.length : Int)).toNat = Bd.length := by omega
      rw [hn] at hold
      obtain ⟨C, h1, h2⟩ := pls_ex (H := B') (Qp := fun b pl => ∃ (a : Nat) (p : Pl), a < Bd.length ∧ nam nm a = b ∧ Bd[a]? = some p ∧ pl = p.ren (nam nm)) ws 0 fun i v hv => by
        have hil := (List.getElem?_eq_some_iff.mp hv).1
        rw [hwl] at hil
        obtain ⟨a, ha, rfl⟩ := NN.onto i hil
        obtain ⟨v2, q1, q2⟩ := hold a _ ha (List.getElem?_eq_getElem ha)
        rw [hv] at q1
        cases q1
        exact ⟨_, q2, a, _, ha, by rw [Nat.zero_add], List.getElem?_eq_getElem ha, rfl⟩
      have hcl : C.length = Bd.length := by rw [← h1.1, hwl]
      refine q (.ref md) (upd B' md (.lst ws)) H5 ((x.run e5).frz nmd nm0 (e5 _ _ hws)) ⟨C, ⟨md, ws, rfl, upd_same, h1.mono (Ex.new nm0)⟩, NN, hcl, fun a ha => ?_⟩
      have hfa : nam nm a < C.length := by rw [hcl]; exact NN.lt a ha
      obtain ⟨a', p, ha', e, hp, hc⟩ := h2 _ _ (List.getElem?_eq_getElem hfa)
      rw [Nat.zero_add] at e
      have e2 := NN.inj a' a ha' ha e
      subst e2
      rw [goals_of (List.getElem?_eq_getElem hfa), hc, Pl.gs_ren, goals_of hp]
end
end Pk

namespace Pk
open PySem PySem.Spec PyProof.Rows L2 Evl

/-! ### lists of numbers as data -/
def dNs (l : List Nat) : PyData := .list ((up l).map .int)
def dLl (T : List (List Nat)) : PyData := .list (T.map dNs)
theorem lay_ints : ∀ l : List Int, PyData.canLayAll0 (l.map .int) = true
  | [] => rfl
  | x :: l => by
    rw [List.map_cons, PyData.canLayAll0, lay_ints l]
    rfl
theorem lay_dNs (l : List Nat) : (dNs l).canLay0 = true := by
  unfold dNs
  rw [PyData.canLay0]
  exact lay_ints _
theorem lay_dLl : ∀ T : List (List Nat), PyData.canLayAll0 (T.map dNs) = true
  | [] => rfl
  | s :: T => by
    rw [List.map_cons, PyData.canLayAll0, lay_dLl T, lay_dNs]
    rfl
theorem depth_dNs (l : List Nat) : (dNs l).depth ≤ 1 := by
  unfold dNs
  simp [PyData.depth, PySem.W.depth_ints]
theorem depth_dLl : ∀ T : List (List Nat), PyData.depthAll (T.map dNs) ≤ 1
  | [] => by simp [PyData.depthAll]
  | s :: T => by
    have h1 := depth_dLl T
    have h2 := depth_dNs s
    rw [List.map_cons, PyData.depthAll]
    omega
theorem sh_dNs (l : List Nat) : SeqAt.shaped (dNs l) = true := by
  unfold SeqAt.shaped
  rw [lay_dNs, decide_eq_true (Nat.le_trans (depth_dNs l) (by decide))]
  rfl
theorem sh_dLl (T : List (List Nat)) : SeqAt.shaped (dLl T) = true := by
  unfold SeqAt.shaped
  have h1 : (dLl T).canLay0 = true := by
    unfold dLl
    rw [PyData.canLay0]
    exact lay_dLl T
  have h2 : (dLl T).depth ≤ 64 := by
    unfold dLl
    have := depth_dLl T
    simp only [PyData.depth]
    omega
  rw [h1, decide_eq_true h2]
  rfl
theorem dNs_self (l : List Nat) : PyData.eqv (dNs l) (dNs l) = true := SeqAt.eqv_refl _ (lay_dNs l)
theorem dLl_self (T : List (List Nat)) : PyData.eqv (dLl T) (dLl T) = true := SeqAt.eqv_refl _ (by
  unfold dLl
  rw [PyData.canLay0]
  exact lay_dLl T)
theorem dpAll_ll {K : PySem.W.Frag} {H : Hp} : ∀ {T : List (List Nat)} {vs : List V}, LlVs T vs H → DpAll K H vs (T.map dNs)
  | [], [], _ => .nil
  | [], v :: vs, h => by
    have := h.1
    simp at this
  | s :: T, [], h => by
    have := h.1
    simp at this
  | s :: T, v :: vs, h => by
    obtain ⟨w, q1, q2⟩ := h.2 0 s rfl
    cases q1
    refine .cons (dp_ns q2) (dpAll_ll ⟨by simpa using h.1, fun i s' hs => ?_⟩)
    obtain ⟨w, q3, q4⟩ := h.2 (i + 1) s' (by simpa using hs)
    exact ⟨w, by simpa using q3, q4⟩
theorem dp_ll {K : PySem.W.Frag} {H : Hp} {T : List (List Nat)} {v : V} (h : LlAt T v H) : Dp K H v (dLl T) := by
  obtain ⟨p, vs, rfl, hp, hv⟩ := h
  exact .lst (sq_of hp) (dpAll_ll hv)

/-! ### lists of lists, sorted -/
def sortLL (T : List (List Nat)) : List (List Nat) := T.mergeSort (PySem.W.dataLe false dNs)
theorem up_inj : ∀ {l m : List Nat}, up l = up m → l = m
  | [], [], _ => rfl
  | [], _ :: _, h => by cases h
  | _ :: _, [], h => by cases h
  | x :: l, y :: m, h => by
    unfold up at h
    rw [List.map_cons, List.map_cons] at h
    have h1 := (List.cons.inj h).1
    have h2 : l = m := up_inj (List.cons.inj h).2
    rw [h2, show x = y by omega]
theorem sortLL_perm {T U : List (List Nat)} (h : T.Perm U) : sortLL T = sortLL U := by
  have tot := PySem.W.sortLe_total (listOrd itemOrd) false (fun s : List Nat => PySem.W.keyToks (dNs s))
  refine PySem.W.Srt.the_of_perm (PySem.W.dataLe false dNs) (fun x y z => tot.trans x y z) (fun x y => Bool.or_eq_true_iff.mpr (tot.total x y)) (fun x y h1 h2 => ?_) ((List.mergeSort_perm _ _).trans h) (PySem.W.sort_pairwise tot T)
  have e : PySem.W.dataLe false dNs = fun p q => decide (up p ≤ up q) := PySem.W.dataLe_rows up
  rw [e] at h1 h2
  exact up_inj (List.le_antisymm (of_decide_eq_true h1) (of_decide_eq_true h2))
theorem sorted_ll {K : PySem.W.Frag} {B H : Hp} {Q : VK} {T : List (List Nat)} {a : Addr} {vs : List V} (e : Ex B H) (hs : H a = some (.lst vs)) (hv : LlVs T vs B) (q : ∀ p ws, H p = none → LlVs (sortLL T) ws B → Q (.ref p) (upd H p (.lst ws))) : rSortedDt K [V.ref a] H Q := by
  have hz : (vs.zip T).map (·.1) = vs := List.map_fst_zip (by rw [hv.1]; exact Nat.le_refl _)
  have hz2 : (vs.zip T).map (·.2) = T := List.map_snd_zip (by rw [hv.1]; exact Nat.le_refl _)
  have hu : ∀ u ∈ vs.zip T, NsAt u.2 u.1 B := fun u hu => by
    obtain ⟨i, hi⟩ := List.getElem?_of_mem hu
    rw [List.getElem?_zip_eq_some] at hi
    obtain ⟨w, q1, q2⟩ := hv.2 i u.2 hi.2
    rw [hi.1] at q1
    cases q1
    exact q2
  refine sorted_by (vs.zip T) (·.1) (fun u => dNs u.2) (sq_of (by rw [hz]; exact hs)) (fun u hx => dp_ns (NsAt.mono _ _ _ e (hu u hx))) (PySem.W.AllAlike.of fun u u' => ?_) (PySem.W.Sortable.others fun u => ⟨(by intro e; cases e), (by intro xs e; cases e)⟩) (fun u _ => Nat.le_trans (depth_dNs _) (by decide)) fun p hp => q p _ hp ⟨?_, fun i s hs => ?_⟩
  · unfold dNs
    simp [PySem.W.alike, PySem.W.alike_ints]
  · have := congrArg List.length hz2
    rw [List.length_map] at this
    unfold sortLL
    rw [List.length_map, List.length_mergeSort, List.length_mergeSort, this]
  · have g := PySem.W.sort_maps (r := PySem.W.dataLe false (fun u : V × List Nat => dNs u.2)) (s := PySem.W.dataLe false dNs) (fun u => u.2) (l := vs.zip T) (fun _ _ _ _ => rfl)
    rw [hz2] at g
    unfold sortLL at hs
    rw [← g, List.getElem?_map] at hs
    obtain ⟨u, hu1, rfl⟩ := Option.map_eq_some_iff.mp hs
    refine ⟨u.1, by rw [List.getElem?_map, hu1]; rfl, hu u ((List.mergeSort_perm _ _).mem_iff.mp (List.mem_of_getElem? hu1))⟩

/-! ### the dict of the parts' numbers -/
def nK (L : List (Nat × Nat)) : List (Key × V) := L.map fun p => (kN p.1, vN p.2)
theorem nK_keys (L : List (Nat × Nat)) : (nK L).map (·.1) = (L.map (·.1)).map kN := by
  unfold nK
  rw [List.map_map, List.map_map]
  rfl
theorem val_nK : ∀ {L : List (Nat × Nat)} {p j : Nat}, (L.map (·.1)).Nodup → (p, j) ∈ L → valV (nK L) (kN p) = some (vN j)
  | (a, b) :: L, p, j, hn, h => by
    rw [List.map_cons, List.nodup_cons] at hn
    unfold nK
    rw [List.map_cons]
    rcases List.mem_cons.mp h with e | h
    · cases e
      exact valV_pos rfl
    · have hne : ¬ kN a = kN p := fun e => by
        have := kN_inj e
        subst this
        exact hn.1 (List.mem_map.mpr ⟨_, h, rfl⟩)
      rw [valV_neg hne]
      exact val_nK hn.2 h
theorem fresh_key {T : List (List Nat)} (hN : T.flatten.Nodup) {k i x : Nat} {s : List Nat} (hk : T[k]? = some s) (hi : s[i]? = some x) : x ∉ (T.take k).flatten ++ s.take i := by
  obtain ⟨hkl, rfl⟩ := List.getElem?_eq_some_iff.mp hk
  obtain ⟨hil, rfl⟩ := List.getElem?_eq_some_iff.mp hi
  have e1 : T = T.take k ++ T[k] :: T.drop (k + 1) := by rw [← List.drop_eq_getElem_cons hkl, List.take_append_drop]
  have e2 : T[k] = T[k].take i ++ T[k][i] :: T[k].drop (i + 1) := by rw [← List.drop_eq_getElem_cons hil, List.take_append_drop]
  have e3 : T.flatten = ((T.take k).flatten ++ T[k].take i) ++ (T[k][i] :: (T[k].drop (i + 1) ++ (T.drop (k + 1)).flatten)) := by
    have h1 := congrArg List.flatten e1
    rw [List.flatten_append, List.flatten_cons] at h1
    rw [h1, List.append_assoc]
    refine congrArg _ ?_
    have h2 := congrArg (fun l => l ++ (T.drop (k + 1)).flatten) e2
    simp only [List.append_assoc, List.cons_append] at h2
    exact h2
  rw [e3, List.nodup_append] at hN
  intro h
  exact hN.2.2 _ h _ List.mem_cons_self rfl
theorem in_vn (x : Nat) (l : List Nat) : inV (vN x) (l.map vN) = decide (x ∈ l) := by
  unfold inV
  rw [List.any_map]
  by_cases h : x ∈ l
  · rw [decide_eq_true h, List.any_eq_true]
    exact ⟨x, h, by simp [eqV]⟩
  · rw [decide_eq_false h, List.any_eq_false]
    intro y hy
    have : y ≠ x := fun e => h (e ▸ hy)
    simp [eqV]
    omega
theorem flat_vn (l : List Nat) : (l.map vN).all flatV = true := by
  rw [List.all_map, List.all_eq_true]
  intro _ _
  rfl

theorem given_none (n : Nat) (v : Nat → V) : given n (fun _ => false) v = [] := by
  unfold given
  rw [List.filter_eq_nil_iff.mpr fun _ _ h => by cases h]
  rfl
theorem evp_cb1 {σ : L2.St} {B : Hp} {ta : TE} {R S : V → Hp → Prop} {r : List V → Hp → VK → Prop} (h : EvP ta σ B R) (hr : ∀ v B2 H2, Ex B B2 → Ex B2 H2 → R v B2 → ∀ Q : VK, (∀ w B3 H3, Ext B2 H2 B3 H3 → S w B3 → Q w H3) → r [v] H2 Q) : EvP (tCB r (tCons ta tNil)) σ B S :=
  fun H e => evh_cb1 (h.h e) fun v B2 H2 x r Q q => hr v B2 H2 x.bb x.sub r Q q
/-! ### pairs (number, place), sorted: the places in some order -/
def dat2 (zf : Nat → Int) (i : Nat) : PyData := .tuple [.int (zf i), .int (i : Int)]
def PrAt (nm : List Nat) (v : V) (H : Hp) : Prop := ∃ (p : Addr) (ws : List V), v = V.ref p ∧ H p = some (HO.lst ws) ∧ ws.length = nm.length ∧ ∀ (i x : Nat), nm[i]? = some x → ∃ (t : Addr) (z : V), ws[i]? = some (V.ref t) ∧ H t = some (HO.tup [z, vN x])
theorem sorted_pr {K : PySem.W.Frag} {B H : Hp} {Q : VK} {n : Nat} {zf : Nat → Int} {a : Addr} {vs : List V} (e : Ex B H) (hs : H a = some (.lst vs)) (L : Lcs B (fun i v B => ∃ t : Addr, v = V.ref t ∧ B t = some (HO.tup [.int (zf i), vN i])) n vs) (hn : n ≤ 100)
    (q : ∀ (p : Addr) (ws : List V) (nm : List Nat), H p = none → nm.Perm (List.range n) → ws.length = nm.length → (∀ (i x : Nat), nm[i]? = some x → ∃ (t : Addr) (z : V), ws[i]? = some (V.ref t) ∧ B t = some (HO.tup [z, vN x])) → Q (.ref p) (upd H p (.lst ws))) : rSortedDt K [V.ref a] H Q := by
  have hz : (vs.zip (List.range n)).map (·.1) = vs := List.map_fst_zip (by rw [List.length_range, L.len]; exact Nat.le_refl _)
  have hz2 : (vs.zip (List.range n)).map (·.2) = List.range n := List.map_snd_zip (by rw [List.length_range, L.len]; exact Nat.le_refl _)
  have hu : ∀ u ∈ vs.zip (List.range n), ∃ t : Addr, u.1 = V.ref t ∧ B t = some (HO.tup [.int (zf u.2), vN u.2]) := fun u hu => by
    obtain ⟨i, hi⟩ := List.getElem?_of_mem hu
    rw [List.getElem?_zip_eq_some] at hi
    obtain ⟨h1, h2⟩ := hi
    have hl := (List.getElem?_eq_some_iff.mp h2).1
    rw [List.length_range] at hl
    rw [List.getElem?_range hl] at h2
    have h3 : i = u.2 := Option.some.inj h2
    rw [← h3]
    exact L.all i _ h1
  refine sorted_by (vs.zip (List.range n)) (·.1) (fun u => dat2 zf u.2) (sq_of (by rw [hz]; exact hs)) (fun u hx => ?_) (PySem.W.AllAlike.of fun u u' => ?_) (PySem.W.Sortable.tuples fun u => ⟨_, _, rfl⟩) (fun u _ => ?_) fun p hp => ?_
  · obtain ⟨t, h1, h2⟩ := hu u hx
    rw [h1]
    exact .tup (st_of (e _ _ h2)) (.cons (.int _) (.cons (.int _) .nil))
  · unfold dat2
    simp [PySem.W.alike, PySem.W.alikeAll]
  · unfold dat2
    simp [PyData.depth, PyData.depthAll]
  · have hp2 := List.mergeSort_perm (vs.zip (List.range n)) (PySem.W.dataLe false fun u => dat2 zf u.2)
    generalize (vs.zip (List.range n)).mergeSort (PySem.W.dataLe false fun u => dat2 zf u.2) = ss at hp2
    refine q p _ (ss.map (·.2)) hp (by have := hp2.map (·.2); rw [hz2] at this; exact this) (by rw [List.length_map, List.length_map]) fun i x hx => ?_
    rw [List.getElem?_map] at hx
    obtain ⟨u, hu1, rfl⟩ := Option.map_eq_some_iff.mp hx
    obtain ⟨t, h1, h2⟩ := hu u (hp2.mem_iff.mp (List.mem_of_getElem? hu1))
    exact ⟨t, _, by rw [List.getElem?_map, hu1, Option.map_some, h1], h2⟩
/-! ### two things that are made are not unequal -/
mutual
theorem dp_mono {K : PySem.W.Frag} {H H2 : Hp} (e : Ex H H2) : ∀ {v : V} {d : PyData}, Dp K H v d → Dp K H2 v d
  | _, _, .non => .non
  | _, _, .bl b => .bl b
  | _, _, .int i => .int i
  | _, _, .str x => .str x
  | _, _, .lst h t => .lst (ex_l e h) (dpAll_mono e t)
  | _, _, .tup h t => .tup (ex_t e h) (dpAll_mono e t)
theorem dpAll_mono {K : PySem.W.Frag} {H H2 : Hp} (e : Ex H H2) : ∀ {vs : List V} {ds : List PyData}, DpAll K H vs ds → DpAll K H2 vs ds
  | _, _, .nil => .nil
  | _, _, .cons h t => .cons (dp_mono e h) (dpAll_mono e t)
end
theorem et_neD {K : PySem.W.Frag} {σ : L2.St} {B : Hp} {ta tb : TE} {R S : V → Hp → Prop} {b : Bool} (ha : EvP ta σ B R) (m : Mono R) (hb : ∀ B2, Ex B B2 → EvP tb σ B2 S)
    (h : ∀ x y B3, R x B3 → S y B3 → ∃ d e, Dp K B3 x d ∧ Dp K B3 y e ∧ SeqAt.shaped d = true ∧ SeqAt.shaped e = true ∧ (!PyData.eqv d e) = b) : EvT (tTest (tOp (rNeD K) ta tb)) σ B b := fun H1 e Q q =>
  ha H1 e _ fun x B2 H2 a r => hb B2 a.bb H2 a.sub _ fun y B3 H3 c s => by
    obtain ⟨d, d', h1, h2, h3, h4, h5⟩ := h x y B3 (m _ _ _ c.bb r) s
    refine ⟨d, d', ?_, ?_, h3, h4, b, by rw [h5], q H3 (a.hh.trans c.hh)⟩
    · exact dp_mono c.sub h1
    · exact dp_mono c.sub h2
end Pk

namespace Pk
open PySem PySem.Spec PyProof.Rows L2 Evl
section
variable {P : Program} {w : World} {K : PySem.W.Frag} {mg : Str → Option Value} {base : Heap}
def spLaw (K : PySem.W.Frag) : Sp := fun vs H Q _ => ∃ (a : Addr) (ns : List Int), vs = [.ref a] ∧ SqL K H a (ns.map V.int) ∧ ns.length ≤ 63 ∧ ∀ H', Q (.bl true) H'
abbrev nLaw : List Str := ["_law_script", "_law_board_here", "_law_n", "_law_told", "_law_come", "_law_number", "_law_k", "_law_place_here", "_law_one", "_law_other", "_law_first", "_law_keyed", "_law_names", "_law_about", "_law_at", "_law_pair", "_law_some"]
theorem scLaw : FnScope nLaw ["_law_script"] (defScope sLaw) := ⟨rfl, rfl, rfl, by decide +kernel, rfl, by decide +kernel, by decide +kernel⟩
theorem ok_law {f fB fP fR fC fM fT fN : Addr} {fd fdB fdP fdR fdC fdM fdT fdN : FuncData} (F : Fun K "law" "law" sLaw f fd)
    (FB : Fun K "_law_board" "_law_board" sBoard fB fdB) (GB : FnOk P w K mg base CX0 3 fB fdB ["_law_script"] (spP (pBoard K))) (bB : Binds K fdB ["_law_script"] []) (gB : mg "_law_board" = some (.ref fB))
    (FP : Fun K "parts" "parts" sParts fP fdP) (GP : FnOk P w K mg base CX0 3 fP fdP ["board"] (spP pParts)) (bP : Binds K fdP ["board"] []) (gP : mg "parts" = some (.ref fP))
    (FR : Fun K "reached" "reached" sReached fR fdR) (GR : FnOk P w K mg base CX0 3 fR fdR ["board", "start"] (spP pReached)) (bR : Binds K fdR ["board", "start"] []) (gR : mg "reached" = some (.ref fR))
    (FC : Fun K "_law_cell" "_law_cell" sCell fC fdC) (GC : FnOk P w K mg base CX0 1 fC fdC ["_law_script", "_law_k"] (spS (pCell K))) (bC : Binds K fdC ["_law_script", "_law_k"] []) (gC : mg "_law_cell" = some (.ref fC))
    (FM : Fun K "_law_mixed" "_law_mixed" sMixed fM fdM) (GM : FnOk P w K mg base CX0 1 fM fdM ["_law_cell_here", "_law_many"] (spS pMixed)) (bM : Binds K fdM ["_law_cell_here", "_law_many"] []) (gM : mg "_law_mixed" = some (.ref fM))
    (FT : Fun K "_law_turned" "_law_turned" sTurned fT fdT) (GT : FnOk P w K mg base CX0 1 fT fdT ["_law_board_here", "_law_names"] (spP pTurned)) (bT : Binds K fdT ["_law_board_here", "_law_names"] []) (gT : mg "_law_turned" = some (.ref fT))
    (FN : Fun K "_law_named" "_law_named" sNamed fN fdN) (GN : FnOk P w K mg base CX0 1 fN fdN ["_law_some", "_law_names"] (spP pNamed)) (bN : Binds K fdN ["_law_some", "_law_names"] []) (gN : mg "_law_named" = some (.ref fN))
    (ml : mg "len" = none) (mr : mg "range" = none) (ms : mg "sorted" = none) (mi : mg "list" = none) : FnOk P w K mg base CX0 4 f fd ["_law_script"] (spLaw K) := by
  refine F.ok scLaw (fun vs H Q E h => ?_) (fun cdv A outer s H vs Q E hr h => ?_)
  · obtain ⟨a, ns, rfl, _⟩ := h
    rfl
  · obtain ⟨a, ns, rfl, hS, hlen, q⟩ := h
    have hu := hu_of hr
    have hu64 := hr.units
    have hr1 : Room 1 _ := hr.mono (by decide)
    refine ⟨_, pss_cons (ps_set (i := 1) scLaw.nd rfl (.inr rfl) (pe_call GB hr (by rfl) gB FB.kp bB .nil pass0 (pa_cons (pv 0) pa_nil)))
      (pss_cons (ps_set (i := 2) scLaw.nd rfl (.inl rfl) (pe_callB call_len_seq (by rfl) ml PySem.boot_len (pa_cons (pv 1) pa_nil)))
      (pss_cons (ps_set (i := 3) scLaw.nd rfl (.inl rfl) (pe_call GP hr (by rfl) gP FP.kp bP .nil pass0 (pa_cons (pe_callTy call_list_of (by rfl) mi boot_list (pa_cons (pv 1) pa_nil)) pa_nil)))
      (pss_cons (ps_set (i := 4) scLaw.nd rfl (.inr rfl) (pe_lc (own := [("_law_at", 14)]) (g := gName 14) (tt := tYes) rfl scLaw.nd (pi_range1 (by rfl) mr (pa_cons (pv 2) pa_nil)) (blkOk_by (N := nLaw) (sc := defScope sLaw) (by decide +kernel))
          (fun _ _ _ _ _ => pg_name (i := 14) scLaw.nd rfl (Or.inl rfl)) (fun _ _ _ _ _ => pts_nil)
          (fun _ _ _ _ _ => pe_call GR hr (by rfl) gR FR.kp bR .nil pass0 (pa_cons (pe_callTy (r := rListS K) call_list_of (by rfl) mi boot_list (pa_cons (pv 1) pa_nil)) (pa_cons (pv 14) pa_nil)))))
      (pss_cons (ps_set (i := 5) scLaw.nd rfl (.inr rfl) pe_dnewK)
      (pss_cons (ps_for PassesOwn.never rfl (pi_range1 (by rfl) mr (pa_cons (pe_callB call_len_seq (by rfl) ml PySem.boot_len (pa_cons (pv 3) pa_nil)) pa_nil)) (pg_name (i := 6) scLaw.nd rfl (.inl rfl))
          (pss_one (ps_for PassesOwn.never rfl (pi_list (pe_ix ix_list (pv 3) (pv 6) (fun _ _ => rfl))) (pg_name (i := 7) scLaw.nd rfl (.inl rfl)) (pss_one (ps_dput hu (pv 5) (pv 7) (pv 6) rfl)))))
      (pss_cons (ps_if (pt_cmpR (op_neD hu64) (pe_callB (call_sortedDI rfl) (by rfl) ms boot_sorted (pa_cons (pv 5) pa_nil)) (pe_listRg rfl (by rfl) mi (prg_1 (by rfl) mr (pv 2))) (nomark _)) (pss_one (ps_ret pe_bl)) pss_nil)
      (pss_cons (ps_for PassesOwn.never rfl (pi_range1 (by rfl) mr (pa_cons (pv 2) pa_nil)) (pg_name (i := 8) scLaw.nd rfl (.inr rfl))
          (pss_cons (ps_if (pt_cmpR (op_neD hu64) (pe_lc (own := [("_law_place_here", 7)]) (g := gName 7) rfl scLaw.nd (pi_list (pe_ix ix_list (pv 4) (pv 8) (fun _ _ => rfl))) (blkOk_by (N := nLaw) (sc := defScope sLaw) (by decide +kernel))
              (fun _ _ _ _ _ => pg_name (i := 7) scLaw.nd rfl (Or.inl rfl)) (fun _ _ _ _ _ => pts_one (pt_cmpR op_gt (pe_dget hu (pv 5) (pv 7) (fun _ _ => rfl)) (pe_dget hu (pv 5) (pv 8) (fun _ _ => rfl)) (nomark _))) (fun _ _ _ _ _ => pv 7)) (pe_lst pa_nil) (nomark _)) (pss_one (ps_ret pe_bl)) pss_nil)
          (pss_cons (ps_if (PW.pt (pw_and (pt_cmpR op_eq (pe_ix ix_tup (pe_ix ix_list (pv 1) (pv 8) (fun _ _ => rfl)) pe_int (fun _ _ => rfl)) pe_str (nomark _))
              (pw_and1 (pt_cmpR (op_neD hu64) (pe_ix ix_list (pv 3) (pe_dget hu (pv 5) (pv 8) (fun _ _ => rfl)) (fun _ _ => rfl)) (pe_lst (pa_cons (pv 8) pa_nil)) (nomark _))))) (pss_one (ps_ret pe_bl)) pss_nil)
          (pss_one (ps_for PassesOwn.never rfl (pi_range1 (by rfl) mr (pa_cons (pv 2) pa_nil)) (pg_name (i := 9) scLaw.nd rfl (.inl rfl))
            (pss_one (ps_if (pt_cmpR op_ne (pe_cmpR op_eq (pe_dget hu (pv 5) (pv 8) (fun _ _ => rfl)) (pe_dget hu (pv 5) (pv 9) (fun _ _ => rfl)) (nomark _))
              (pe_and (pe_cmpR op_in_seq (pv 8) (pe_ix ix_list (pv 4) (pv 9) (fun _ _ => rfl)) (by rfl)) (pe_one (pe_cmpR op_in_seq (pv 9) (pe_ix ix_list (pv 4) (pv 8) (fun _ _ => rfl)) (by rfl)))) (nomark _)) (pss_one (ps_ret pe_bl)) pss_nil)))))))
      (pss_cons (ps_set (i := 10) scLaw.nd rfl (.inr rfl) (pe_op op_mod (pe_call GC hr1 (by rfl) gC FC.kp bC .nil pass0 (pa_cons (pv 0) (pa_cons pe_int pa_nil))) pe_int))
      (pss_cons (ps_set (i := 11) scLaw.nd rfl (.inl rfl) (pe_callB (cr_sortedDt hu64) (by rfl) ms boot_sorted (pa_cons (pe_lc (own := [("_law_k", 6)]) (g := gName 6) (tt := tYes) rfl scLaw.nd (pi_range1 (by rfl) mr (pa_cons (pv 2) pa_nil)) (blkOk_by (N := nLaw) (sc := defScope sLaw) (by decide +kernel))
          (fun _ _ _ _ _ => pg_name (i := 6) scLaw.nd rfl (Or.inl rfl)) (fun _ _ _ _ _ => pts_nil)
          (fun _ _ _ _ _ => pe_tup (pa_cons (pe_call GM hr1 (by rfl) gM FM.kp bM .nil pass0 (pa_cons (pe_op op_add (pe_op op_mul (pv 10) (pe_op op_add (pe_op op_mul (pv 6) (pv 6)) pe_int)) (pv 6)) (pa_cons (pe_op op_pow pe_int pe_int) pa_nil))) (pa_cons (pv 6) pa_nil)))) pa_nil)))
      (pss_cons (ps_set (i := 12) scLaw.nd rfl (.inr rfl) (pe_lc (own := [("_law_pair", 15)]) (g := gName 15) (tt := tYes) rfl scLaw.nd (pi_list (pv 11)) (blkOk_by (N := nLaw) (sc := defScope sLaw) (by decide +kernel))
          (fun _ _ _ _ _ => pg_name (i := 15) scLaw.nd rfl (Or.inl rfl)) (fun _ _ _ _ _ => pts_nil) (fun _ _ _ _ _ => pe_ix (r := rIxT K) ix_tup (pv 15) pe_int (fun _ _ => rfl))))
      (pss_cons (ps_set (i := 13) scLaw.nd rfl (.inr rfl) (pe_call GT hr1 (by rfl) gT FT.kp bT .nil pass0 (pa_cons (pv 1) (pa_cons (pv 12) pa_nil))))
      (pss_cons (ps_if (pt_cmpR (op_neD hu64) (pe_callB (cr_sortedDt hu64) (by rfl) ms boot_sorted (pa_cons (pe_call GP hr (by rfl) gP FP.kp bP .nil pass0 (pa_cons (pv 13) pa_nil)) pa_nil))
          (pe_callB (cr_sortedDt hu64) (by rfl) ms boot_sorted (pa_cons (pe_lc (own := [("_law_some", 16)]) (g := gName 16) (tt := tYes) rfl scLaw.nd (pi_list (pv 3)) (blkOk_by (N := nLaw) (sc := defScope sLaw) (by decide +kernel))
            (fun _ _ _ _ _ => pg_name (i := 16) scLaw.nd rfl (Or.inl rfl)) (fun _ _ _ _ _ => pts_nil) (fun _ _ _ _ _ => pe_call GN hr1 (by rfl) gN FN.kp bN .nil pass0 (pa_cons (pv 16) (pa_cons (pv 12) pa_nil)))) pa_nil)) (nomark _)) (pss_one (ps_ret pe_bl)) pss_nil)
      (pss_one (ps_ret (pe_cmpR op_eq (pe_callB call_len_seq (by rfl) ml PySem.boot_len (pa_cons (pe_lc (own := [("_law_at", 14)]) (g := gName 14) rfl scLaw.nd (pi_range1 (by rfl) mr (pa_cons (pv 2) pa_nil)) (blkOk_by (N := nLaw) (sc := defScope sLaw) (by decide +kernel))
          (fun _ _ _ _ _ => pg_name (i := 14) scLaw.nd rfl (Or.inl rfl))
          (fun _ _ _ _ _ => pts_one (pt_cmpR (r := rNeD K) (op_neD hu64) (pe_call GR hr (by rfl) gR FR.kp bR .nil pass0 (pa_cons (pv 13) (pa_cons (pe_ix (r := rIxL K) ix_list (pv 12) (pv 14) (fun _ _ => rfl)) pa_nil)))
            (pe_call GN hr1 (by rfl) gN FN.kp bN .nil pass0 (pa_cons (pe_ix (r := rIxL K) ix_list (pv 4) (pv 14) (fun _ _ => rfl)) (pa_cons (pv 12) pa_nil))) (nomark _))) (fun _ _ _ _ _ => pv 14)) pa_nil)) pe_int (nomark _)))))))))))))))), ?_⟩
    -- _law_board_here
    refine q_asgH (B := H) (R := fun v B2 => ∃ Bd, Wf Bd ∧ BdAt Bd v B2) ?_ fun v1 B1 H1 x1 r1 => ?_
    · exact evh_call1 (Ex.refl H) (ev_var rfl) ⟨a, ns, rfl, hS, hlen, rfl⟩
    obtain ⟨Bd, W, ab, ps, rfl, hab, hps⟩ := r1
    have hn24 := W.len
    have hplen := hps.1
    have hlist : ∀ {σ : L2.St} {B' : Hp}, σ[1]? = some (some (.ref ab)) → Ex B1 B' → EvP (tCB (rListS K) (tCons (tVar 1) tNil)) σ B' (BdAt Bd) := fun h e => (evp_l (evp_list (ev_var h) (e _ _ hab))).imp fun v B2 e2 h2 => by
      obtain ⟨p, h3, h4⟩ := h2
      exact ⟨p, ps, h3, h4, hps.mono (e.trans e2)⟩
    -- _law_n
    refine q_asg (v := vN Bd.length) (ev_is (ev_len (ev_var rfl) (sq_of (x1.sub _ _ hab))) (by rw [hplen])) fun H2 e2 => ?_
    have s2 : Ex B1 H2 := x1.sub.trans e2
    -- _law_told
    refine q_asgH (B := B1) (R := fun v B2 => ∃ T rs, Told Bd T rs ∧ LlAt T v B2) ?_ fun v3 B3 H3 x3 r3 => ?_
    · refine EvP.h (evp_call (epa_one (hlist rfl (Ex.refl B1))) fun vs B2 e hv => ?_) s2
      obtain ⟨v, rfl, hv⟩ := hv
      exact ⟨v, Bd, rfl, hv, W, rfl⟩
    obtain ⟨T, rs, hT, at_, ts, rfl, hat, hts⟩ := r3
    -- _law_come
    refine q_asgH (B := B3) (R := fun v B2 => ∃ p vs, v = .ref p ∧ B2 p = some (.lst vs) ∧ Lcs B2 (fun i v B => i < Bd.length → NsAt (rl Bd i) v B) ((Bd.length : Int)).toNat vs) ?_ fun v4 B4 H4 x4 r4 => ?_
    · refine EvP.h (evp_lcR (n := (Bd.length : Int)) (fun i v B B2 e h hi => NsAt.mono _ _ _ e (h hi)) (ea_cons (ev_var rfl) ea_nil) (by omega) (fun _ => rfl) fun i B2 e hi => ?_) x3.sub
      refine EvP.imp (R := NsAt (rl Bd i)) (evp_call (epa_two (hlist rfl (x3.bb.trans e)) BdAt.mono fun B2 e2 => evp_of (ev_var rfl)) fun vs B5 e5 hv => ?_) fun _ _ _ h _ => h
      obtain ⟨v, u, rfl, hv, rfl⟩ := hv
      exact ⟨v, Bd, i, rfl, hv, W, by omega, rfl⟩
    obtain ⟨ac, cs, rfl, hac, LC⟩ := r4
    have hcs : ∀ i, i < Bd.length → ∃ c : V, cs[i]? = some c ∧ NsAt (rl Bd i) c B4 := fun i hi => by
      have h := List.getElem?_eq_getElem (l := cs) (i := i) (by rw [LC.len]; omega)
      exact ⟨_, h, LC.all i _ h hi⟩
    have hab4 := x4.bb _ _ (x3.bb _ _ hab)
    have hps4 := hps.mono (x3.bb.trans x4.bb)
    have hat4 := x4.bb _ _ hat
    have hts4 := hts.mono x4.bb
    -- _law_number = {}
    intro dn ndn
    have nB4 : B4 dn = none := x4.noB ndn
    have hfn := hT.flat_nd
    have htl : T.length ≤ Bd.length := hT.len
    have hkl : ∀ (L : List (Nat × Nat)), (L.map (·.1)).Nodup → (∀ x ∈ L.map (·.1), x < Bd.length) → (nK L).length ≤ 24 := fun L h1 h2 => by
      have := nd_len h1 h2
      unfold nK
      rw [List.length_map] at *
      omega
    refine q_forR1 (n := (T.length : Int)) (ea_cons (ev_is (ev_len (ev_var rfl) (sq_of (by
        rw [upd_ne (ne_of_none (x4.sub _ _ hat4) ndn)]
        exact x4.sub _ _ hat4))) (by rw [hts.1])) ea_nil) (by omega)
      (fun k σ' H' => ∃ (y6 y7 : Option V), σ' = [some (.ref a), some (.ref ab), some (vN Bd.length), some (.ref at_), some (.ref ac), some (.ref dn), y6, y7, none, none, none, none, none, none, none, none, none] ∧ Ex B4 H' ∧ H' dn = some (.dK (nK (numL 0 (T.take k)))))
      (fun H5 e5 => ⟨none, none, rfl, (x4.sub.trans (Ex.new ndn)).trans e5, e5 _ _ upd_same⟩) (fun k σ' H' hk hW => ?_) (fun σ' H' hW => ?_)
    · obtain ⟨y6, y7, rfl, eB, hdn⟩ := hW
      have hk : k < T.length := by omega
      have hTk := List.getElem?_eq_getElem hk
      generalize T[k] = s at hTk
      obtain ⟨ws, hw1, al, rfl, hal⟩ := hts4.2 k s hTk
      have hkeys : ∀ i, i ≤ s.length → ((numL 0 (T.take k) ++ (s.take i).map fun x => (x, k)).map (·.1)) = (T.take k).flatten ++ s.take i := fun i _ => by
        rw [List.map_append, numL_keys, List.map_map]
        refine congrArg _ ?_
        have : (s.take i).map ((fun p : Nat × Nat => p.1) ∘ fun x => (x, k)) = (s.take i).map id := List.map_congr_left fun _ _ => rfl
        rw [this, List.map_id]
      refine s_forLn (xs := s.map vN) (ev_op (ev_var rfl) (ev_var rfl) (rv_ixL (sq_of (eB _ _ hat4)) (atI_nat hw1))) (sq_of (eB _ _ hal))
        (fun i σ' H' => ∃ (y7 : Option V), σ' = [some (.ref a), some (.ref ab), some (vN Bd.length), some (.ref at_), some (.ref ac), some (.ref dn), some (vN k), y7, none, none, none, none, none, none, none, none, none] ∧ Ex B4 H' ∧ H' dn = some (.dK (nK (numL 0 (T.take k) ++ (s.take i).map fun x => (x, k)))))
        (fun H6 e6 => ⟨y7, rfl, eB.trans e6, by rw [e6 _ _ hdn]; simp⟩) (fun i σ' H' _ h => by obtain ⟨_, _, e, _⟩ := h; exact sq_of (e _ _ hal)) (fun i x σ' H' hx h => ?_) (fun σ' H' h => ?_)
      · obtain ⟨y7, rfl, eB6, hdn6⟩ := h
        rw [List.getElem?_map] at hx
        obtain ⟨g, hg, rfl⟩ := Option.map_eq_some_iff.mp hx
        have hil := (List.getElem?_eq_some_iff.mp hg).1
        have hfresh := fresh_key hfn hTk hg
        have hsub : ∀ x ∈ (T.take k).flatten ++ s.take i, x < Bd.length := fun x hx => by
          refine hT.flat_mem.mp ?_
          rcases List.mem_append.mp hx with h | h
          · obtain ⟨t, ht, hxt⟩ := List.mem_flatten.mp h
            exact List.mem_flatten.mpr ⟨t, List.mem_of_mem_take ht, hxt⟩
          · exact List.mem_flatten.mpr ⟨s, List.mem_of_getElem? hTk, List.mem_of_mem_take h⟩
        have hnd : ((T.take k).flatten ++ s.take i).Nodup := by
          have e1 : T = T.take k ++ s :: T.drop (k + 1) := by
            obtain ⟨hkl, rfl⟩ := List.getElem?_eq_some_iff.mp hTk
            rw [← List.drop_eq_getElem_cons hkl, List.take_append_drop]
          rw [e1, List.flatten_append, List.flatten_cons] at hfn
          have h1 : ((T.take k).flatten ++ s.take i).Sublist ((T.take k).flatten ++ (s ++ (T.drop (k + 1)).flatten)) := (List.Sublist.refl _).append ((List.take_sublist i s).trans (List.sublist_append_left _ _))
          exact h1.nodup hfn
        refine s_dput (k := kN g) (v := vN k) (ev_var rfl) (ev_var rfl) (ev_var rfl) hdn6 ?_ fun H7 e7 => ?_
        · exact small1000 (Nat.le_trans (hkl _ (by rw [hkeys i (by omega)]; exact hnd) (by rw [hkeys i (by omega)]; exact hsub)) (by decide))
        · refine ⟨some (vN g), rfl, (eB6.trans e7).mut nB4, ?_⟩
          rw [upd_same, putK_new _ (val_none (by rw [nK_keys, mem_kN, hkeys i (by omega)]; exact hfresh)), List.take_add_one, hg]
          unfold nK
          rw [Option.toList_some, List.map_append (l₁ := s.take i), ← List.append_assoc, List.map_append (l₂ := List.map (fun x => (x, k)) [g])]
          rfl
      · obtain ⟨y7, rfl, eB6, hdn6⟩ := h
        refine ⟨some (vN k), y7, rfl, eB6, ?_⟩
        rw [hdn6, List.length_map, List.take_length, List.take_add_one, hTk, Option.toList_some, numL_snoc, List.length_take, Nat.min_eq_left (by omega), Nat.zero_add]
    · obtain ⟨y6, y7, rfl, eB, hdn⟩ := hW
      rw [show ((T.length : Int)).toNat = T.length by omega, List.take_length] at hdn
      have hkeys : (nK (numL 0 T)).map (·.1) = T.flatten.map kN := by rw [nK_keys, numL_keys]
      have hnum : ∀ p, p < Bd.length → ∃ (j : Nat) (s : List Nat), T[j]? = some s ∧ p ∈ s ∧ valV (nK (numL 0 T)) (kN p) = some (vN j) := fun p hp => by
        obtain ⟨j, r, _, h1, h2⟩ := hT.has hp
        exact ⟨j, _, h1, h2, val_nK (by rw [numL_keys]; exact hfn) (numL_mem.mpr ⟨j, _, (Nat.zero_add j).symm, h1, h2⟩)⟩
      generalize nK (numL 0 T) = kvs at hdn hkeys hnum
      -- what was made so far stays
      have e46 : Ex B4 (upd B4 dn (.dK kvs)) := Ex.new nB4
      have e6 : Ex (upd B4 dn (.dK kvs)) H' := fun x o h => by
        by_cases hx : x = dn
        · subst hx
          rw [upd_same] at h
          rw [hdn]
          exact h
        · rw [upd_ne hx] at h
          exact eB x o h
      have hdn6 : (upd B4 dn (.dK kvs)) dn = some (.dK kvs) := upd_same
      generalize upd B4 dn (.dK kvs) = B6 at e46 e6 hdn6
      have hab6 := e46 _ _ hab4
      have hps6 := hps4.mono e46
      have hat6 := e46 _ _ hat4
      have hts6 := hts4.mono e46
      have hac6 := e46 _ _ hac
      have hcs6 : ∀ i, i < Bd.length → ∃ c : V, cs[i]? = some c ∧ NsAt (rl Bd i) c B6 := fun i hi => by
        obtain ⟨c, h1, h2⟩ := hcs i hi
        exact ⟨c, h1, NsAt.mono _ _ _ e46 h2⟩
      have hS6 : SqL K B6 a (ns.map V.int) := ex_l (x1.bb.trans (x3.bb.trans (x4.bb.trans e46))) hS
      -- if sorted(_law_number) != list(range(_law_n))
      refine q_when (b := false) (EvT.mono e6 (et_neD (R := NsAt (List.range Bd.length)) (S := NsAt (List.range Bd.length)) (fun H1 e Q1 q1 => ?_) NsAt.mono (fun B7 e7 H1 e Q1 q1 => ?_) fun x y B8 h1 h2 => ⟨_, _, dp_ns h1, dp_ns h2, sh_dNs _, sh_dNs _, by rw [← dNs, dNs_self]; rfl⟩)) (fun hb => by cases hb) fun _ H7 e7 => ?_
      · refine ⟨.ref dn, rfl, dn, kvs, up T.flatten, rfl, .inl (e _ _ hdn6), by rw [hkeys, kn_map], ?_, fun ys p hp hs np => ?_⟩
        · rw [up_len]
          have := nd_len hfn fun k hk => hT.flat_mem.mp hk
          omega
        · have e9 := sorted_is hp hs hfn (range_lt Bd.length) fun g => hT.flat_mem.trans List.mem_range.symm
          subst e9
          exact q1 _ _ _ ((Ext.refl e).new np) ⟨p, rfl, by rw [upd_same, vn_map]⟩
      · refine ⟨vN Bd.length, rfl, _, rfl, RgOk.of_le (by omega) (by omega) (by omega) (by omega), fun p hp => q1 _ _ _ ((Ext.refl e).new hp) ⟨p, rfl, ?_⟩⟩
        rw [upd_same]
        unfold rgV
        rw [show ((Bd.length : Int) - 0).toNat = Bd.length by omega]
        refine congrArg (fun l => some (HO.lst l)) (List.map_congr_left fun i _ => ?_)
        rw [Int.zero_add]
      have s7 := e6.trans e7
      -- for _law_one in range(_law_n)
      refine q_forR1 (n := (Bd.length : Int)) (ea_cons (ev_var rfl) ea_nil) (by omega)
        (fun i σ' H' => ∃ (y6 y7 y8 y9 : Option V), σ' = [some (.ref a), some (.ref ab), some (vN Bd.length), some (.ref at_), some (.ref ac), some (.ref dn), y6, y7, y8, y9, none, none, none, none, none, none, none] ∧ Ex B6 H')
        (fun H8 e8 => ⟨_, _, _, _, rfl, s7.trans e8⟩) (fun i σ' H' hi hW => ?_) (fun σ' H' hW => ?_)
      · obtain ⟨y6, y7, y8, y9, rfl, s8⟩ := hW
        have hi : i < Bd.length := by omega
        obtain ⟨ji, si, hi1, hi2, hi3⟩ := hnum i hi
        obtain ⟨ci, hci, pci, rfl, hpci⟩ := hcs6 i hi
        have hrl24 := rl_len Bd i
        -- none reached stands later
        refine q_when (b := false) (EvT.mono s8 (et_neD (R := NsAt []) (S := NsAt []) ((evp_l (el_lcL (xs := (rl Bd i).map vN) (fun _ => false) (fun _ => .non) (ev_op (ev_var rfl) (ev_var rfl) (rv_ixL (sq_of hac6) (atI_nat hci))) (sq_of hpci) (by rw [List.length_map]; omega) (fun _ => rfl) (fun j x H1 e1 hx => ?_) (fun j x H1 e1 hx h => by cases h))).imp fun v B7 _ h => ?_)
            NsAt.mono (fun B7 e7 => (evp_l (el_lst ea_nil (Nat.zero_le _))).imp fun v B8 _ h => h) fun x y B8 h1 h2 => ⟨_, _, dp_ns h1, dp_ns h2, sh_dNs _, sh_dNs _, by rw [← dNs, dNs_self]; rfl⟩)) (fun hb => by cases hb) fun _ H8 e8 => ?_
        · rw [List.getElem?_map] at hx
          obtain ⟨g, hg, rfl⟩ := Option.map_eq_some_iff.mp hx
          have hgr := mem_rl.mp (List.mem_of_getElem? hg)
          obtain ⟨jg, sg, hg1, hg2, hg3⟩ := hnum g hgr.1
          have hle := hT.before hi1 hg1 hi2 hg2 hgr.2
          refine et_is (et_test (ev_op (ev_dget (k := kN g) (ev_var rfl) (ev_var rfl) (.inl (e1 _ _ hdn6)) hg3) (ev_dget (k := kN i) (ev_var rfl) (ev_var rfl) (.inl (e1 _ _ hdn6)) hi3) rv_I0)) (decide_eq_false ?_)
          omega
        · obtain ⟨p, h1, h2⟩ := h
          rw [given_none] at h2
          exact ⟨p, h1, h2⟩
        have s9 := s8.trans e8
        -- an end is a part by itself
        refine q_when (b := false) (EvT.mono s9 ?_) (fun hb => by cases hb) fun _ H9 e9 => ?_
        · obtain ⟨v, hv1, hv2⟩ := hps6.2 i _ (List.getElem?_eq_getElem hi)
          have hg0 := goals_of (List.getElem?_eq_getElem hi)
          generalize Bd[i] = p at hv2 hg0
          cases p with
          | fin =>
            obtain ⟨pa, z, rfl, h1⟩ := hv2
            refine et_is (et_and (a := true) (b := false) (et_is (et_test (ev_op (ev_op (ev_op (ev_var rfl) (ev_var rfl) (rv_ixL (sq_of hab6) (atI_nat hv1))) ev_c (rv_ixT (st_of h1) rfl)) ev_c (rv_eq rfl))) (decide_eq_true rfl)) fun _ => ?_) rfl
            obtain ⟨w, hw1, hw2⟩ := hts6.2 ji si hi1
            have es : si = [i] := (hT.part hi1 hi2).trans (mates_end hi hg0)
            rw [es] at hw2
            exact et_neD (R := NsAt [i]) (S := NsAt [i]) (evp_at (v := w) (ev_op (ev_var rfl) (ev_dget (k := kN i) (ev_var rfl) (ev_var rfl) (.inl hdn6) hi3) (rv_ixL (sq_of hat6) (atI_nat hw1))) hw2) NsAt.mono
              (fun B7 e7 => (evp_l (el_lst (ea_cons (ev_var rfl) ea_nil) (by show 1 ≤ 100000; decide))).imp fun v B8 _ h => h) fun x y B8 h1 h2 => ⟨_, _, dp_ns h1, dp_ns h2, sh_dNs _, sh_dNs _, by rw [← dNs, dNs_self]; rfl⟩
          | pick gs =>
            obtain ⟨pa, z, l, rfl, h1, _⟩ := hv2
            exact et_is (et_and (a := false) (b := true) (et_is (et_test (ev_op (ev_op (ev_op (ev_var rfl) (ev_var rfl) (rv_ixL (sq_of hab6) (atI_nat hv1))) ev_c (rv_ixT (st_of h1) rfl)) ev_c (rv_eq rfl))) (decide_eq_false fun z => absurd (V.str.inj z) (by decide +kernel))) fun h => by cases h) rfl
          | throw gs =>
            obtain ⟨pa, z, l, rs', rfl, h1, _⟩ := hv2
            exact et_is (et_and (a := false) (b := true) (et_is (et_test (ev_op (ev_op (ev_op (ev_var rfl) (ev_var rfl) (rv_ixL (sq_of hab6) (atI_nat hv1))) ev_c (rv_ixT (st_of h1) rfl)) ev_c (rv_eq rfl))) (decide_eq_false fun z => absurd (V.str.inj z) (by decide +kernel))) fun h => by cases h) rfl
        have s10 := s9.trans e9
        -- for _law_other in range(_law_n)
        refine s_forR1 (n := (Bd.length : Int)) (ea_cons (ev_var rfl) ea_nil) (by omega)
          (fun o σ' H' => ∃ (y9 : Option V), σ' = [some (.ref a), some (.ref ab), some (vN Bd.length), some (.ref at_), some (.ref ac), some (.ref dn), y6, y7, some (vN i), y9, none, none, none, none, none, none, none] ∧ Ex B6 H')
          (fun H10 e10 => ⟨_, rfl, s10.trans e10⟩) (fun o σ' H' ho hW => ?_) (fun σ' H' hW => ?_)
        · obtain ⟨y9, rfl, s11⟩ := hW
          have ho : o < Bd.length := by omega
          obtain ⟨jo, so, ho1, ho2, ho3⟩ := hnum o ho
          obtain ⟨co, hco, pco, rfl, hpco⟩ := hcs6 o ho
          refine s_when (b := false) (EvT.mono s11 (et_is (et_test (ev_op (ev_op (ev_dget (k := kN i) (ev_var rfl) (ev_var rfl) (.inl hdn6) hi3) (ev_dget (k := kN o) (ev_var rfl) (ev_var rfl) (.inl hdn6) ho3) (rv_eq rfl))
            (ev_andV (ev_op (ev_var rfl) (ev_op (ev_var rfl) (ev_var rfl) (rv_ixL (sq_of hac6) (atI_nat hco))) (rv_isL (sq_of hpco) rfl (flat_vn _))) fun _ => ev_op (ev_var rfl) (ev_op (ev_var rfl) (ev_var rfl) (rv_ixL (sq_of hac6) (atI_nat hci))) (rv_isL (sq_of hpci) rfl (flat_vn _))) (rv_ne rfl))) ?_)) (fun hb => by cases hb) fun _ H12 e12 => ⟨_, rfl, s11.trans e12⟩
          have hsame := hT.same hi1 ho1 hi2 ho2
          rw [in_vn, in_vn, dec_vint]
          have e1 : (decide ((ji : Int) = (jo : Int))) = (decide (i ∈ rl Bd o) && decide (o ∈ rl Bd i)) := by
            by_cases z : ji = jo
            · obtain ⟨h1, h2⟩ := hsame.mp z
              rw [decide_eq_true (by omega), decide_eq_true (mem_rl.mpr ⟨hi, h2⟩), decide_eq_true (mem_rl.mpr ⟨ho, h1⟩)]
              rfl
            · rw [decide_eq_false (by omega)]
              symm
              rw [Bool.and_eq_false_iff]
              apply Classical.byContradiction
              intro hn
              have h3 : i ∈ rl Bd o := Classical.byContradiction fun y => hn (.inl (decide_eq_false y))
              have h4 : o ∈ rl Bd i := Classical.byContradiction fun y => hn (.inr (decide_eq_false y))
              exact z (hsame.mpr ⟨(mem_rl.mp h4).2, (mem_rl.mp h3).2⟩)
          rw [e1, decide_eq_true rfl]
          rfl
        · obtain ⟨y9, rfl, s11⟩ := hW
          exact ⟨_, _, _, _, rfl, s11⟩
      · obtain ⟨y6, y7, y8, y9, rfl, s8⟩ := hW
        -- _law_first
        refine q_asg (ev_op (ev_call (ea_cons (ev_var rfl) (ea_cons ev_c ea_nil)) (spv_of ⟨a, ns, 4, rfl, ex_l s8 hS6, hlen, by decide, by decide, rfl⟩)) ev_c (rv_I (by decide))) fun H9 e9 => ?_
        generalize cellM ns 4 % 1000003 = c
        have s9 := s8.trans e9
        have p40 : CPow 2 40 := ⟨by decide, by decide, by decide⟩
        -- _law_keyed
        refine q_asgH (B := B6) (R := fun v B2 => ∃ nm, nm.Perm (List.range Bd.length) ∧ PrAt nm v B2) (EvP.h (evp_cb1 (evp_lcR (n := (Bd.length : Int)) (R := fun i v B => ∃ t : Addr, v = V.ref t ∧ B t = some (HO.tup [.int (mixedM (c * ((i : Int) * i + 3) + i) (2 ^ (Int.toNat 40))), vN i])) (fun i v B B2 e h => by obtain ⟨t, h1, h2⟩ := h; exact ⟨t, h1, e _ _ h2⟩) (ea_cons (ev_var rfl) ea_nil) (by omega) (fun _ => rfl) fun i B2 e hi => ?_)
          fun v B2 H2 e1 e2 r Q2 q2 => ?_) s9) fun v10 B10 H10 x10 r10 => ?_
        · have jj0 : (0 : Int) ≤ (i : Int) * i := Int.mul_nonneg (by omega) (by omega)
          have jj1 : (i : Int) * i ≤ 24 * 24 := Int.mul_le_mul (by omega) (by omega) (by omega) (by omega)
          exact evp_u (eu_tup (ea_cons (ev_call (ea_cons (ev_op (ev_op (ev_var rfl) (ev_op (ev_op (ev_var rfl) (ev_var rfl) (rv_I (.inl ⟨by omega, by omega⟩))) ev_c rv_I0) (rv_I (.inr ⟨by omega, by omega⟩))) (ev_var rfl) rv_I0) (ea_cons (ev_op ev_c ev_c (rv_I p40)) ea_nil)) (spv_of ⟨_, _, rfl, by decide, rfl⟩)) (ea_cons (ev_var rfl) ea_nil)) (by show 2 ≤ 100000; decide))
        · obtain ⟨p, vs, rfl, hp, L⟩ := r
          rw [show ((Bd.length : Int)).toNat = Bd.length by omega] at L
          refine sorted_pr (zf := fun i => mixedM (c * ((i : Int) * i + 3) + i) (2 ^ (Int.toNat 40))) e2 (e2 _ _ hp) L (by omega) fun p2 ws nm hp2 hpm hwl hw => ?_
          have n2 := fresh_back e2 hp2
          exact q2 _ _ _ ((Ext.refl e2).new hp2) ⟨nm, hpm, p2, ws, rfl, upd_same, hwl, fun i x hx => by
            obtain ⟨t, z, h1, h2⟩ := hw i x hx
            exact ⟨t, z, h1, Ex.new n2 _ _ h2⟩⟩
        obtain ⟨nm, hnp, pk, ws, rfl, hpk, hwl, hws⟩ := r10
        have N : Nms Bd.length nm := ⟨by rw [hnp.length_eq, List.length_range], hnp.nodup_iff.mpr List.nodup_range, fun x hx => List.mem_range.mp (hnp.mem_iff.mp hx)⟩
        have NN := N.num
        have hnl := N.len
        -- _law_names
        refine q_asgH (B := B10) (R := NsAt nm) (EvP.h ((evp_l (el_lcL (xs := ws) (fun _ => true) (fun i => vN (nm.getD i 0)) (ev_var rfl) (sq_of hpk) (by omega) (fun _ => rfl) (fun i x H1 e1 hx => et_yes) (fun i x H1 e1 hx _ => ?_))).imp fun v B2 _ h => ?_) x10.sub) fun v11 B11 H11 x11 r11 => ?_
        · have hil := (List.getElem?_eq_some_iff.mp hx).1
          rw [hwl] at hil
          obtain ⟨t, z, h1, h2⟩ := hws i _ (List.getElem?_eq_getElem hil)
          rw [hx] at h1
          cases h1
          have e : nm.getD i 0 = nm[i] := by rw [List.getD_eq_getElem?_getD, List.getElem?_eq_getElem hil]; rfl
          rw [e]
          exact ev_op (ev_var rfl) ev_c (rv_ixT (st_of (e1 _ _ h2)) rfl)
        · obtain ⟨p, h1, h2⟩ := h
          rw [given_all, hwl, range_get fun i x hx => by rw [List.getD_eq_getElem?_getD, hx]; rfl] at h2
          exact ⟨p, h1, h2⟩
        obtain ⟨an, rfl, han⟩ := r11
        have t11 := x10.bb.trans x11.bb
        -- _law_about
        refine q_asgH (B := B11) (R := fun v B2 => ∃ C, BdAt C v B2 ∧ Ren Bd C (nam nm)) (EvP.h (evp_call (epa_of (ea_cons (ev_var rfl) (ea_cons (ev_var rfl) ea_nil))) fun vs B2 e hv => ?_) x11.sub) fun v12 B12 H12 x12 r12 => ?_
        · subst hv
          exact ⟨_, _, Bd, nm, rfl, ⟨ab, ps, rfl, e _ _ (t11 _ _ hab6), hps6.mono (t11.trans e)⟩, W, ⟨an, rfl, e _ _ han⟩, N, rfl⟩
        obtain ⟨C, ⟨ax, qs, rfl, hax, hqs⟩, hR⟩ := r12
        have WC := hR.wf W
        have t12 := t11.trans x12.bb
        have han12 := x12.bb _ _ han
        have hat12 := t12 _ _ hat6
        have hts12 := hts6.mono t12
        have hac12 := t12 _ _ hac6
        -- if sorted(parts(_law_about)) != sorted([..])
        refine q_when (b := false) (EvT.mono x12.sub (et_neD (R := LlAt (sortLL (rs.map fun r => mates C (nam nm r)))) (S := LlAt (sortLL (rs.map fun r => mates C (nam nm r)))) ?_ LlAt.mono (fun B13 e13 => ?_) fun x y B14 h1 h2 => ⟨_, _, dp_ll h1, dp_ll h2, sh_dLl _, sh_dLl _, by rw [dLl_self]; rfl⟩)) (fun hb => by cases hb) fun _ H13 e13 => ?_
        · refine evp_cb1 (R := fun v B2 => ∃ T' rs', Told C T' rs' ∧ LlAt T' v B2) (evp_call (epa_of (ea_cons (ev_var rfl) ea_nil)) fun vs B2 e hv => ?_) fun v B2 H2 e1 e2 r Q2 q2 => ?_
          · subst hv
            exact ⟨_, C, rfl, ⟨ax, qs, rfl, e _ _ hax, hqs.mono e⟩, WC, rfl⟩
          · obtain ⟨T', rs', hT', p, vs, rfl, hp, hv⟩ := r
            refine sorted_ll e2 (e2 _ _ hp) hv fun p2 ws2 hp2 hw2 => ?_
            rw [sortLL_perm (hR.parts W hT hT')] at hw2
            exact q2 _ _ _ ((Ext.refl e2).new hp2) ⟨p2, ws2, rfl, upd_same, hw2.mono (Ex.new (fresh_back e2 hp2))⟩
        · refine evp_cb1 (R := LlAt (rs.map fun r => mates C (nam nm r))) (EvP.imp (R := fun v B2 => ∃ p vs, v = .ref p ∧ B2 p = some (.lst vs) ∧ Lcs B2 (fun i v B => ∀ r, rs[i]? = some r → NsAt (mates C (nam nm r)) v B) ts.length vs)
            (evp_lcL (xs := ts) (fun i v B B2 e h r hr => NsAt.mono _ _ _ e (h r hr)) (ev_var rfl) (e13 _ _ hat12) (by rw [hts.1]; omega) (fun _ => rfl) fun i x B14 e14 hx => ?_) fun v B14 _ h => ?_) fun v B2 H2 e1 e2 r Q2 q2 => ?_
          · have hil := (List.getElem?_eq_some_iff.mp hx).1
            rw [hts.1] at hil
            have hTi := List.getElem?_eq_getElem hil
            generalize T[i] = si at hTi
            obtain ⟨w, hw1, hw2⟩ := (hts12.mono (e13.trans e14)).2 i si hTi
            rw [hx] at hw1
            cases hw1
            have hTa := hT.at i
            rw [hTi] at hTa
            obtain ⟨r, hr, rfl⟩ := Option.map_eq_some_iff.mp hTa.symm
            have hrl := (hT.rep hr).1
            refine EvP.imp (R := NsAt (mates C (nam nm r))) (evp_call (epa_of (ea_cons (ev_var rfl) (ea_cons (ev_var rfl) ea_nil))) fun vs B15 e15 hv => ?_) fun v B15 _ h r' hr' => ?_
            · subst hv
              refine ⟨_, _, mates Bd r, nm, mates C (nam nm r), rfl, NsAt.mono _ _ _ e15 hw2, ⟨an, rfl, e15 _ _ (e14 _ _ (e13 _ _ han12))⟩, ?_, fun y hy => ?_, map_nd NN (mates_nd Bd r) fun y hy => (mem_mates.mp hy).1, mates_lt C _, fun g => hR.mates W hrl g, rfl⟩
              · have := mates_len Bd r
                omega
              · rw [hnl]
                exact (mem_mates.mp hy).1
            · rw [hr] at hr'
              cases hr'
              exact h
          · obtain ⟨p, vs, rfl, hp, L⟩ := h
            have hrl : rs.length = T.length := by rw [hT.eq, List.length_map]
            refine ⟨p, vs, rfl, hp, by rw [L.len, hts.1, List.length_map, hrl], fun i s hs => ?_⟩
            rw [List.getElem?_map] at hs
            obtain ⟨r, hr, rfl⟩ := Option.map_eq_some_iff.mp hs
            have hil : i < vs.length := by
              rw [L.len, hts.1, ← hrl]
              exact (List.getElem?_eq_some_iff.mp hr).1
            exact ⟨_, List.getElem?_eq_getElem hil, L.all i _ (List.getElem?_eq_getElem hil) r hr⟩
          · obtain ⟨p, vs, rfl, hp, hv⟩ := r
            refine sorted_ll e2 (e2 _ _ hp) hv fun p2 ws2 hp2 hw2 => ?_
            exact q2 _ _ _ ((Ext.refl e2).new hp2) ⟨p2, ws2, rfl, upd_same, hw2.mono (Ex.new (fresh_back e2 hp2))⟩
        have s13 := x12.sub.trans e13
        -- return len([..]) == 0
        refine s_ret (v := .bl true) (ev_is (ev_op (ev_lenN (el_lcR1 (n := (Bd.length : Int)) (fun _ => false) (fun _ => .non) (ea_cons (ev_var rfl) ea_nil) (by omega) (fun _ => rfl) (fun i H1 e1 hi => EvT.mono (s13.trans e1) (et_neD (R := NsAt (rl C (nam nm i))) (S := NsAt (rl C (nam nm i))) ?_ NsAt.mono (fun B14 e14 => ?_) fun x y B15 h1 h2 => ⟨_, _, dp_ns h1, dp_ns h2, sh_dNs _, sh_dNs _, by rw [← dNs, dNs_self]; rfl⟩)) (fun i H1 e1 hi h => by cases h))) ev_c (rv_eq rfl)) (by rw [given_none]; rfl)) fun H14 e14 => q H14
        · have hi : i < Bd.length := by omega
          refine evp_call (epa_of (ea_cons (ev_var rfl) (ea_cons (ev_op (ev_var rfl) (ev_var rfl) (rv_ixL (sq_of han12) (at_vn (nam_at (by omega))))) ea_nil))) fun vs B15 e15 hv => ?_
          subst hv
          exact ⟨_, C, nam nm i, rfl, ⟨ax, qs, rfl, e15 _ _ hax, hqs.mono e15⟩, WC, by rw [hR.len]; exact NN.lt i hi, rfl⟩
        · have hi : i < Bd.length := by omega
          obtain ⟨ci, hci, hcn⟩ := hcs6 i hi
          refine evp_call (epa_of (ea_cons (ev_op (ev_var rfl) (ev_var rfl) (rv_ixL (sq_of (e14 _ _ hac12)) (atI_nat hci))) (ea_cons (ev_var rfl) ea_nil))) fun vs B15 e15 hv => ?_
          subst hv
          refine ⟨_, _, rl Bd i, nm, rl C (nam nm i), rfl, NsAt.mono _ _ _ (t12.trans (e14.trans e15)) hcn, ⟨an, rfl, e15 _ _ (e14 _ _ han12)⟩, ?_, fun y hy => ?_, map_nd NN (rl_nd Bd i) fun y hy => (mem_rl.mp hy).1, rl_lt C _, fun g => hR.rl W hi g, rfl⟩
          · have := rl_len Bd i
            omega
          · rw [hnl]
            exact (mem_rl.mp hy).1
end
end Pk

namespace Pk
open PySem PySem.Spec PyProof.Rows L2 Evl
/-! ### what the top has written; the law's own head -/
theorem all_mk {l : PySem.W.OpenLaw} {w : World} {K : PySem.W.Frag} {h : Heap} {mg : Str → Option Value} {fa f1 f2 f3 f4 f5 f6 f7 f8 f9 f10 f11 f12 : Addr} (X : K.In h) (G : h.Ns mainGlobals mg) (hfa : mg "law" = some (.ref fa))
    {od1 an1 od2 an2 od3 an3 od4 an4 od5 an5 od6 an6 od7 an7 od8 an8 od9 an9 od10 an10 od11 an11 od12 an12 : Option Addr} {sl1 sl2 sl3 sl4 sl5 sl6 sl7 sl8 sl9 sl10 sl11 sl12 : Array (Option Value)} {oc1 kV1 dc1 pm1 cd1 ct1 oc2 kV2 dc2 pm2 cd2 ct2 oc3 kV3 dc3 pm3 cd3 ct3 oc4 kV4 dc4 pm4 cd4 ct4 oc5 kV5 dc5 pm5 cd5 ct5 oc6 kV6 dc6 pm6 cd6 ct6 oc7 kV7 dc7 pm7 cd7 ct7 oc8 kV8 dc8 pm8 cd8 ct8 oc9 kV9 dc9 pm9 cd9 ct9 oc10 kV10 dc10 pm10 cd10 ct10 oc11 kV11 dc11 pm11 cd11 ct11 oc12 kV12 dc12 pm12 cd12 ct12 : Value}
    (a1 : PySem.W.nsIn K mainGlobals "goals_of" = some (some (.ref f1))) (l1 : K.lookup f1 = some ⟨oc1, od1, .func (PySem.W.fnOf "goals_of" "goals_of" (defArgs sGoals) (defBody sGoals) (defScope sGoals) .none kV1 dc1 pm1 an1 cd1 ct1), sl1⟩) (c1 : PySem.W.codeIn K cd1 "goals_of" = true) (k1 : PySem.W.keepIn K (.ref f1) = true)
    (a2 : PySem.W.nsIn K mainGlobals "come_by" = some (some (.ref f2))) (l2 : K.lookup f2 = some ⟨oc2, od2, .func (PySem.W.fnOf "come_by" "come_by" (defArgs sCome) (defBody sCome) (defScope sCome) .none kV2 dc2 pm2 an2 cd2 ct2), sl2⟩) (c2 : PySem.W.codeIn K cd2 "come_by" = true) (k2 : PySem.W.keepIn K (.ref f2) = true)
    (a3 : PySem.W.nsIn K mainGlobals "reached" = some (some (.ref f3))) (l3 : K.lookup f3 = some ⟨oc3, od3, .func (PySem.W.fnOf "reached" "reached" (defArgs sReached) (defBody sReached) (defScope sReached) .none kV3 dc3 pm3 an3 cd3 ct3), sl3⟩) (c3 : PySem.W.codeIn K cd3 "reached" = true) (k3 : PySem.W.keepIn K (.ref f3) = true)
    (a4 : PySem.W.nsIn K mainGlobals "parts" = some (some (.ref f4))) (l4 : K.lookup f4 = some ⟨oc4, od4, .func (PySem.W.fnOf "parts" "parts" (defArgs sParts) (defBody sParts) (defScope sParts) .none kV4 dc4 pm4 an4 cd4 ct4), sl4⟩) (c4 : PySem.W.codeIn K cd4 "parts" = true) (k4 : PySem.W.keepIn K (.ref f4) = true)
    (a5 : PySem.W.nsIn K mainGlobals "_law_cell" = some (some (.ref f5))) (l5 : K.lookup f5 = some ⟨oc5, od5, .func (PySem.W.fnOf "_law_cell" "_law_cell" (defArgs sCell) (defBody sCell) (defScope sCell) .none kV5 dc5 pm5 an5 cd5 ct5), sl5⟩) (c5 : PySem.W.codeIn K cd5 "_law_cell" = true) (k5 : PySem.W.keepIn K (.ref f5) = true)
    (a6 : PySem.W.nsIn K mainGlobals "_law_mixed" = some (some (.ref f6))) (l6 : K.lookup f6 = some ⟨oc6, od6, .func (PySem.W.fnOf "_law_mixed" "_law_mixed" (defArgs sMixed) (defBody sMixed) (defScope sMixed) .none kV6 dc6 pm6 an6 cd6 ct6), sl6⟩) (c6 : PySem.W.codeIn K cd6 "_law_mixed" = true) (k6 : PySem.W.keepIn K (.ref f6) = true)
    (a7 : PySem.W.nsIn K mainGlobals "_law_goal" = some (some (.ref f7))) (l7 : K.lookup f7 = some ⟨oc7, od7, .func (PySem.W.fnOf "_law_goal" "_law_goal" (defArgs sGoal) (defBody sGoal) (defScope sGoal) .none kV7 dc7 pm7 an7 cd7 ct7), sl7⟩) (c7 : PySem.W.codeIn K cd7 "_law_goal" = true) (k7 : PySem.W.keepIn K (.ref f7) = true)
    (a8 : PySem.W.nsIn K mainGlobals "_law_place" = some (some (.ref f8))) (l8 : K.lookup f8 = some ⟨oc8, od8, .func (PySem.W.fnOf "_law_place" "_law_place" (defArgs sPlace) (defBody sPlace) (defScope sPlace) .none kV8 dc8 pm8 an8 cd8 ct8), sl8⟩) (c8 : PySem.W.codeIn K cd8 "_law_place" = true) (k8 : PySem.W.keepIn K (.ref f8) = true)
    (a9 : PySem.W.nsIn K mainGlobals "_law_board" = some (some (.ref f9))) (l9 : K.lookup f9 = some ⟨oc9, od9, .func (PySem.W.fnOf "_law_board" "_law_board" (defArgs sBoard) (defBody sBoard) (defScope sBoard) .none kV9 dc9 pm9 an9 cd9 ct9), sl9⟩) (c9 : PySem.W.codeIn K cd9 "_law_board" = true) (k9 : PySem.W.keepIn K (.ref f9) = true)
    (a10 : PySem.W.nsIn K mainGlobals "_law_turned" = some (some (.ref f10))) (l10 : K.lookup f10 = some ⟨oc10, od10, .func (PySem.W.fnOf "_law_turned" "_law_turned" (defArgs sTurned) (defBody sTurned) (defScope sTurned) .none kV10 dc10 pm10 an10 cd10 ct10), sl10⟩) (c10 : PySem.W.codeIn K cd10 "_law_turned" = true) (k10 : PySem.W.keepIn K (.ref f10) = true)
    (a11 : PySem.W.nsIn K mainGlobals "_law_named" = some (some (.ref f11))) (l11 : K.lookup f11 = some ⟨oc11, od11, .func (PySem.W.fnOf "_law_named" "_law_named" (defArgs sNamed) (defBody sNamed) (defScope sNamed) .none kV11 dc11 pm11 an11 cd11 ct11), sl11⟩) (c11 : PySem.W.codeIn K cd11 "_law_named" = true) (k11 : PySem.W.keepIn K (.ref f11) = true)
    (a12 : PySem.W.nsIn K mainGlobals "law" = some (some (.ref f12))) (l12 : K.lookup f12 = some ⟨oc12, od12, .func (PySem.W.fnOf "law" "law" (defArgs sLaw) (defBody sLaw) (defScope sLaw) .none kV12 dc12 pm12 an12 cd12 ct12), sl12⟩) (c12 : PySem.W.codeIn K cd12 "law" = true) (k12 : PySem.W.keepIn K (.ref f12) = true)
    (z1 : PySem.W.nsIn K mainGlobals "len" = some none) (z2 : PySem.W.nsIn K mainGlobals "range" = some none) (z3 : PySem.W.nsIn K mainGlobals "sorted" = some none) (z4 : PySem.W.nsIn K mainGlobals "list" = some none) (z5 : PySem.W.nsIn K mainGlobals "min" = some none) (z6 : PySem.W.nsIn K mainGlobals "max" = some none) (z7 : PySem.W.nsIn K mainGlobals "enumerate" = some none) :
    ∃ fd : FuncData, (∀ (s : Shared) (v : Value), BindsTo s fd ⟨[v], []⟩ [("_law_script", v)]) ∧ ∀ base : Heap, K.In base → base.Ns mainGlobals mg → FnOk l.prog w K mg base CX0 4 fa fd ["_law_script"] (spLaw K) := by
  have e := hfa.symm.trans (PySem.W.mg_of X G a12)
  cases e
  have F1 := fun_mk (st := sGoals) l1 c1 k1
  have F2 := fun_mk (st := sCome) l2 c2 k2
  have F3 := fun_mk (st := sReached) l3 c3 k3
  have F4 := fun_mk (st := sParts) l4 c4 k4
  have F5 := fun_mk (st := sCell) l5 c5 k5
  have F6 := fun_mk (st := sMixed) l6 c6 k6
  have F7 := fun_mk (st := sGoal) l7 c7 k7
  have F8 := fun_mk (st := sPlace) l8 c8 k8
  have F9 := fun_mk (st := sBoard) l9 c9 k9
  have F10 := fun_mk (st := sTurned) l10 c10 k10
  have F11 := fun_mk (st := sNamed) l11 c11 k11
  have F12 := fun_mk (st := sLaw) l12 c12 k12
  have b1 := F1.binds (ps := ["place"]) fun _ _ _ _ _ _ us hl => match us, hl with | [_], _ => rfl
  have b2 := F2.binds (ps := ["board", "start"]) fun _ _ _ _ _ _ us hl => match us, hl with | [_, _], _ => rfl
  have b3 := F3.binds (ps := ["board", "start"]) fun _ _ _ _ _ _ us hl => match us, hl with | [_, _], _ => rfl
  have b4 := F4.binds (ps := ["board"]) fun _ _ _ _ _ _ us hl => match us, hl with | [_], _ => rfl
  have b5 := F5.binds (ps := ["_law_script", "_law_k"]) fun _ _ _ _ _ _ us hl => match us, hl with | [_, _], _ => rfl
  have b6 := F6.binds (ps := ["_law_cell_here", "_law_many"]) fun _ _ _ _ _ _ us hl => match us, hl with | [_, _], _ => rfl
  have b7 := F7.binds (ps := ["_law_bits", "_law_k", "_law_n", "_law_mode"]) fun _ _ _ _ _ _ us hl => match us, hl with | [_, _, _, _], _ => rfl
  have b8 := F8.binds (ps := ["_law_script", "_law_k", "_law_n", "_law_mode"]) fun _ _ _ _ _ _ us hl => match us, hl with | [_, _, _, _], _ => rfl
  have b9 := F9.binds (ps := ["_law_script"]) fun _ _ _ _ _ _ us hl => match us, hl with | [_], _ => rfl
  have b10 := F10.binds (ps := ["_law_board_here", "_law_names"]) fun _ _ _ _ _ _ us hl => match us, hl with | [_, _], _ => rfl
  have b11 := F11.binds (ps := ["_law_some", "_law_names"]) fun _ _ _ _ _ _ us hl => match us, hl with | [_, _], _ => rfl
  have g1 := PySem.W.mg_of X G a1
  have g2 := PySem.W.mg_of X G a2
  have g3 := PySem.W.mg_of X G a3
  have g4 := PySem.W.mg_of X G a4
  have g5 := PySem.W.mg_of X G a5
  have g6 := PySem.W.mg_of X G a6
  have g7 := PySem.W.mg_of X G a7
  have g8 := PySem.W.mg_of X G a8
  have g9 := PySem.W.mg_of X G a9
  have g10 := PySem.W.mg_of X G a10
  have g11 := PySem.W.mg_of X G a11
  have m_len := PySem.W.mg_none_of X G z1
  have m_range := PySem.W.mg_none_of X G z2
  have m_sorted := PySem.W.mg_none_of X G z3
  have m_list := PySem.W.mg_none_of X G z4
  have m_min := PySem.W.mg_none_of X G z5
  have m_max := PySem.W.mg_none_of X G z6
  have m_enumerate := PySem.W.mg_none_of X G z7
  refine ⟨PySem.W.fnOf "law" "law" (defArgs sLaw) (defBody sLaw) (defScope sLaw) .none kV12 dc12 pm12 an12 cd12 ct12, fun s v => .of_eq rfl, fun base _ _ => ?_⟩
  have GC := ok_come (P := l.prog) (w := w) (base := base) F2 F1 b1 g1 m_list m_len m_enumerate
  have GR := ok_reached F3 F2 GC b2 g2 m_sorted
  have GP := ok_parts F4 F2 GC b2 g2 m_sorted m_len m_range m_min
  have GL := ok_place (P := l.prog) (w := w) (base := base) F8 F5 b5 g5 F6 b6 g6 F7 b7 g7 m_len m_max m_range m_enumerate
  have GB := ok_board F9 F5 b5 g5 F8 GL b8 g8 m_len m_range
  exact ok_law F12 F9 GB b9 g9 F4 GP b4 g4 F3 GR b3 g3 F5 (ok_cell F5 m_len) b5 g5 F6 (ok_mixed F6) b6 g6 F10 (ok_turned F10 m_len m_range) b10 g10 F11 (ok_named F11 m_sorted) b11 g11 m_len m_range m_sorted m_list
end Pk
open PySem PySem.W PyProof.Rows
set_option maxRecDepth 100000 in
set_option maxHeartbeats 0 in
theorem PySem.Challenge.cw_pressluck_k27_whole_parts_and_reached_holds : PySem.Challenge.rw_pressluck_k27_whole_parts_and_reached.Holds := by
  w_on; o_law; k_head; (case hw => w_witness2)
  k_fill
  refine L2.walk_of (l := PySem.Challenge.rw_pressluck_k27_whole_parts_and_reached) (n := 63) (k := 4) (x := "_law_script") (CX := fun _ => L2.CX0) (sp := fun w => Pk.spLaw _) rfl (by decide) rfl ⟨rfl, by decide, by decide⟩ (fun w h Y => PySem.W.kIn_of Y) ?F (fun _ _ a ns hl _ hS => ⟨a, ns, rfl, hS, hl, fun _ => rfl⟩) (fun _ _ _ _ _ h => h)
  case F =>
    intro w mg fa h KX G hmg
    refine' Pk.all_mk KX G hmg ?a1 ?l1 ?c1 ?k1 ?a2 ?l2 ?c2 ?k2 ?a3 ?l3 ?c3 ?k3 ?a4 ?l4 ?c4 ?k4 ?a5 ?l5 ?c5 ?k5 ?a6 ?l6 ?c6 ?k6 ?a7 ?l7 ?c7 ?k7 ?a8 ?l8 ?c8 ?k8 ?a9 ?l9 ?c9 ?k9 ?a10 ?l10 ?c10 ?k10 ?a11 ?l11 ?c11 ?k11 ?a12 ?l12 ?c12 ?k12 ?z1 ?z2 ?z3 ?z4 ?z5 ?z6 ?z7
    (case a1 => k_is); (case l1 => k_is); (case c1 => k_is); (case k1 => k_is); (case a2 => k_is); (case l2 => k_is); (case c2 => k_is); (case k2 => k_is); (case a3 => k_is); (case l3 => k_is); (case c3 => k_is); (case k3 => k_is); (case a4 => k_is); (case l4 => k_is); (case c4 => k_is); (case k4 => k_is); (case a5 => k_is); (case l5 => k_is); (case c5 => k_is); (case k5 => k_is); (case a6 => k_is); (case l6 => k_is); (case c6 => k_is); (case k6 => k_is); (case a7 => k_is); (case l7 => k_is); (case c7 => k_is); (case k7 => k_is); (case a8 => k_is); (case l8 => k_is); (case c8 => k_is); (case k8 => k_is); (case a9 => k_is); (case l9 => k_is); (case c9 => k_is); (case k9 => k_is); (case a10 => k_is); (case l10 => k_is); (case c10 => k_is); (case k10 => k_is); (case a11 => k_is); (case l11 => k_is); (case c11 => k_is); (case k11 => k_is); (case a12 => k_is); (case l12 => k_is); (case c12 => k_is); (case k12 => k_is); (case z1 => k_is); (case z2 => k_is); (case z3 => k_is); (case z4 => k_is); (case z5 => k_is); (case z6 => k_is); (case z7 => k_is)
