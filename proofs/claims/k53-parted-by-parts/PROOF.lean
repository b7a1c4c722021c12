import PyProof.Rows.All
import Wide.All
import OpenK.AllK
import Wide.FinOn
import HandS.ForMost
import HandS.IsInst
import HandS.Conv
import HandS.Flow
import HandS.Walk
import HandS.Rev
import HandS.RevRange
import HandS.Zip
import HandS.SetFor
import HandS.SortInts
import HandS.TupAny
import HandS.Deep
import HandS.Defaults
import HandS.HeadHook1
import HandS.HeadHook2
import HandS.WideBits
import HandS.Steps
import PyProof.ReprRoads
import HandS.Ends
import HandS.HeadEnd
import HandS.EndOwn
import HandS.Strs
import KE.DataEq
import PyProof.ReprLen
import KE.KStateDown
import HandS.More
import HandS.Words
import HandS.WordsExc
import HandS.Head0
import HandS.Head1
import HandS.Head2
import PySem.Challenge.RW_makeskept_k53_parted_by_parts
set_option Elab.async false
set_option linter.all false
set_option maxRecDepth 100000
set_option maxHeartbeats 4000000
/-! M1: trees of makes: a make's own one by a list T (T[i] is the own one of make i + 1); lines, depths, leaps, the nearest make of both. Plain Lean. -/
namespace Mk
abbrev Tre := List Nat
def par (T : Tre) (m : Nat) : Nat := min (T.getD (m - 1) 0) (m - 1)
theorem par_lt {T : Tre} {m : Nat} (h : 0 < m) : par T m < m := by unfold par; omega
theorem par_le (T : Tre) (m : Nat) : par T m ≤ m := by unfold par; omega
theorem par_zero (T : Tre) : par T 0 = 0 := by unfold par; omega
def anc (T : Tre) : Nat → Nat → Nat
  | 0, m => m
  | k + 1, m => anc T k (par T m)
def dep (T : Tre) (m : Nat) : Nat := if h : 0 < m then dep T (par T m) + 1 else 0
termination_by m
decreasing_by exact par_lt h
section
variable {T : Tre}
theorem dep_zero : dep T 0 = 0 := by rw [dep]; simp
theorem dep_pos {m : Nat} (h : 0 < m) : dep T m = dep T (par T m) + 1 := by rw [dep, dif_pos h]
theorem dep_le (m : Nat) : dep T m ≤ m := by
  induction m using Nat.strongRecOn with
  | ind m ih =>
    by_cases h : 0 < m
    · have := ih _ (par_lt (T := T) h)
      have := par_lt (T := T) h
      rw [dep_pos h]; omega
    · have : m = 0 := by omega
      subst this
      rw [dep_zero]; exact Nat.le_refl _
theorem dep_eq_zero {m : Nat} : dep T m = 0 ↔ m = 0 := by
  constructor
  · intro h
    by_cases hm : 0 < m
    · rw [dep_pos hm] at h; omega
    · omega
  · rintro rfl; exact dep_zero
theorem dep_par (m : Nat) : dep T (par T m) = dep T m - 1 := by
  by_cases h : 0 < m
  · rw [dep_pos h]; omega
  · have : m = 0 := by omega
    subst this
    rw [par_zero, dep_zero]
theorem anc_succ (k m : Nat) : anc T (k + 1) m = anc T k (par T m) := rfl
theorem anc_add (j k m : Nat) : anc T (j + k) m = anc T j (anc T k m) := by
  induction k generalizing m with
  | zero => rfl
  | succ k ih => rw [← Nat.add_assoc, anc_succ, ih, anc_succ]
theorem anc_par (k m : Nat) : anc T k (par T m) = par T (anc T k m) := by
  have h1 : anc T (k + 1) m = anc T k (par T m) := rfl
  have h2 : anc T (1 + k) m = anc T 1 (anc T k m) := anc_add 1 k m
  rw [Nat.add_comm 1 k] at h2
  rw [← h1, h2]; rfl
theorem dep_anc (k m : Nat) : dep T (anc T k m) = dep T m - k := by
  induction k generalizing m with
  | zero => rfl
  | succ k ih => rw [anc_succ, ih, dep_par]; omega
theorem anc_dep (m : Nat) : anc T (dep T m) m = 0 := by
  have h := dep_anc (T := T) (dep T m) m
  rw [Nat.sub_self] at h
  exact dep_eq_zero.mp h
theorem anc_zero (k : Nat) : anc T k 0 = 0 := by
  induction k with
  | zero => rfl
  | succ k ih => rw [anc_succ, par_zero, ih]
theorem anc_far {k m : Nat} (h : dep T m ≤ k) : anc T k m = 0 := by
  obtain ⟨j, rfl⟩ : ∃ j, k = j + dep T m := ⟨k - dep T m, by omega⟩
  rw [anc_add, anc_dep, anc_zero]
theorem anc_le (k m : Nat) : anc T k m ≤ m := by
  induction k generalizing m with
  | zero => exact Nat.le_refl _
  | succ k ih => exact Nat.le_trans (ih _) (par_le T m)
end
/-! ### leaps -/
def nlp (T : Tre) (m : Nat) : Nat := if dep T m = 0 then 0 else (dep T m).log2 + 1
def lp (T : Tre) (m : Nat) : List Nat := (List.range (nlp T m)).map fun j => anc T (2 ^ j) m
section
variable {T : Tre}
theorem lt_nlp {j m : Nat} : j < nlp T m ↔ 2 ^ j ≤ dep T m := by
  unfold nlp
  split
  · rename_i h
    constructor
    · intro h2; omega
    · intro h2
      have := Nat.two_pow_pos j
      omega
  · rename_i h
    rw [Nat.lt_succ_iff, Nat.le_log2 h]
theorem lp_length (m : Nat) : (lp T m).length = nlp T m := by unfold lp; simp
theorem lp_get {j m : Nat} (h : 2 ^ j ≤ dep T m) : (lp T m)[j]? = some (anc T (2 ^ j) m) := by
  have h2 := lt_nlp.mpr h
  unfold lp
  rw [List.getElem?_map, List.getElem?_range h2]
  rfl
theorem nlp_le (m : Nat) : nlp T m ≤ dep T m := by
  unfold nlp
  split
  · omega
  · rename_i h
    have := Nat.log2_lt h |>.mpr (Nat.lt_two_pow_self (n := dep T m))
    omega
end
/-! ### lines -/
def lineT (T : Tre) (m : Nat) : List Nat := if h : 0 < m then lineT T (par T m) ++ [m] else [m]
termination_by m
decreasing_by exact par_lt h
section
variable {T : Tre}
theorem lineT_zero : lineT T 0 = [0] := by rw [lineT]; simp
theorem lineT_pos {m : Nat} (h : 0 < m) : lineT T m = lineT T (par T m) ++ [m] := by rw [lineT, dif_pos h]
theorem lineT_length (m : Nat) : (lineT T m).length = dep T m + 1 := by
  induction m using Nat.strongRecOn with
  | ind m ih =>
    by_cases h : 0 < m
    · rw [lineT_pos h, List.length_append, ih _ (par_lt h), dep_pos h]; rfl
    · have : m = 0 := by omega
      subst this
      rw [lineT_zero, dep_zero]; rfl
theorem lineT_get {m i : Nat} (h : i ≤ dep T m) : (lineT T m)[i]? = some (anc T (dep T m - i) m) := by
  induction m using Nat.strongRecOn with
  | ind m ih =>
    by_cases hm : 0 < m
    · rw [lineT_pos hm]
      by_cases hi : i ≤ dep T (par T m)
      · have hl := lineT_length (T := T) (par T m)
        rw [List.getElem?_append_left (by omega), ih _ (par_lt hm) hi, dep_pos hm]
        rw [show dep T (par T m) + 1 - i = (dep T (par T m) - i) + 1 by omega, anc_succ]
      · have hl := lineT_length (T := T) (par T m)
        have hd := dep_pos (T := T) hm
        have : i = (lineT T (par T m)).length := by omega
        subst this
        rw [List.getElem?_append_right (Nat.le_refl _), Nat.sub_self]
        rw [show dep T m - (lineT T (par T m)).length = 0 by omega]
        rfl
    · have : m = 0 := by omega
      subst this
      rw [dep_zero] at h
      have : i = 0 := by omega
      subst this
      rw [lineT_zero, dep_zero]
      rfl
theorem lineT_mem {m x : Nat} : x ∈ lineT T m ↔ ∃ k, anc T k m = x := by
  constructor
  · intro h
    obtain ⟨i, hi⟩ := List.mem_iff_getElem?.mp h
    have hl := lineT_length (T := T) m
    have : i < (lineT T m).length := (List.getElem?_eq_some_iff.mp hi).1
    rw [lineT_get (by omega)] at hi
    exact ⟨_, Option.some.inj hi⟩
  · rintro ⟨k, rfl⟩
    by_cases h : k ≤ dep T m
    · have e := lineT_get (T := T) (m := m) (i := dep T m - k) (by omega)
      rw [show dep T m - (dep T m - k) = k by omega] at e
      exact List.mem_of_getElem? e
    · rw [anc_far (by omega)]
      have e := lineT_get (T := T) (m := m) (i := 0) (by omega)
      rw [Nat.sub_zero, anc_dep] at e
      exact List.mem_of_getElem? e
end
/-! ### the nearest make of both -/
def lca (T : Tre) (a b : Nat) : Nat :=
  if a = b then a
  else if h : b < a then lca T (par T a) b
  else if h2 : a < b then lca T a (par T b) else a
termination_by a + b
decreasing_by
  · have := par_lt (T := T) (m := a) (by omega); omega
  · have := par_lt (T := T) (m := b) (by omega); omega
def An (T : Tre) (x m : Nat) : Prop := ∃ k, anc T k m = x
section
variable {T : Tre}
theorem An.le {x m : Nat} (h : An T x m) : x ≤ m := by
  obtain ⟨k, rfl⟩ := h
  exact anc_le k m
theorem An.refl (m : Nat) : An T m m := ⟨0, rfl⟩
theorem An.trans {x y z : Nat} (h1 : An T x y) (h2 : An T y z) : An T x z := by
  obtain ⟨j, rfl⟩ := h1
  obtain ⟨k, rfl⟩ := h2
  exact ⟨j + k, anc_add j k z⟩
theorem An.par {x m : Nat} (h : An T x m) (n : x ≠ m) : An T x (par T m) := by
  obtain ⟨k, rfl⟩ := h
  cases k with
  | zero => exact absurd rfl n
  | succ k => exact ⟨k, rfl⟩
theorem An.up {x m : Nat} (h : An T x (Mk.par T m)) : An T x m := by
  obtain ⟨k, rfl⟩ := h
  exact ⟨k + 1, rfl⟩
theorem An.eq {x m : Nat} (h : An T x m) : anc T (dep T m - dep T x) m = x := by
  obtain ⟨k, rfl⟩ := h
  rw [dep_anc]
  by_cases hk : k ≤ dep T m
  · rw [show dep T m - (dep T m - k) = k by omega]
  · rw [show dep T m - (dep T m - k) = dep T m by omega, anc_dep, anc_far (by omega)]
theorem An.dep_le {x m : Nat} (h : An T x m) : dep T x ≤ dep T m := by
  obtain ⟨k, rfl⟩ := h
  rw [dep_anc]; omega
theorem lca_spec (a b : Nat) : An T (lca T a b) a ∧ An T (lca T a b) b ∧ ∀ x, An T x a → An T x b → An T x (lca T a b) := by
  induction hn : a + b using Nat.strongRecOn generalizing a b with
  | ind n ih =>
    subst hn
    rw [lca]
    split
    · rename_i e
      subst e
      exact ⟨An.refl _, An.refl _, fun x h _ => h⟩
    · rename_i ne
      split
      · rename_i h
        have hp := par_lt (T := T) (m := a) (by omega)
        obtain ⟨h1, h2, h3⟩ := ih (par T a + b) (by omega) (par T a) b rfl
        refine ⟨h1.up, h2, fun x ha hb => h3 x (ha.par ?_) hb⟩
        have := hb.le
        omega
      · split
        · rename_i h1 h
          have hp := par_lt (T := T) (m := b) (by omega)
          obtain ⟨h1, h2, h3⟩ := ih (a + par T b) (by omega) a (par T b) rfl
          refine ⟨h1, h2.up, fun x ha hb => h3 x ha (hb.par ?_)⟩
          have := ha.le
          omega
        · omega
theorem lca_of {a b r : Nat} (h1 : An T r a) (h2 : An T r b) (h3 : ∀ x, An T x a → An T x b → An T x r) : r = lca T a b := by
  obtain ⟨g1, g2, g3⟩ := lca_spec (T := T) a b
  exact Nat.le_antisymm (g3 r h1 h2).le (h3 _ g1 g2).le
theorem lca_comm (a b : Nat) : lca T a b = lca T b a := by
  obtain ⟨g1, g2, g3⟩ := lca_spec (T := T) a b
  exact lca_of g2 g1 fun x h1 h2 => g3 x h2 h1
theorem lca_self (a : Nat) : lca T a a = a := by rw [lca, if_pos rfl]
/-- of two makes of one depth: k is the least number of steps at which they meet -/
theorem lca_meet {a b k : Nat} (hd : dep T a = dep T b) (h1 : anc T k a = anc T k b) (h2 : ∀ j, anc T j a = anc T j b → k ≤ j) : lca T a b = anc T k a := by
  refine (lca_of ⟨k, rfl⟩ ⟨k, h1.symm⟩ fun x ha hb => ?_).symm
  have ea := ha.eq
  have eb := hb.eq
  have hk := h2 (dep T a - dep T x) (ea.trans (by rw [hd]; exact eb.symm))
  refine ⟨dep T a - dep T x - k, ?_⟩
  rw [← anc_add, show dep T a - dep T x - k + k = dep T a - dep T x by omega, ea]
/-- one of them brought to the other one's depth -/
theorem lca_level {a b : Nat} (h : dep T a ≤ dep T b) : lca T a b = lca T a (anc T (dep T b - dep T a) b) := by
  obtain ⟨g1, g2, g3⟩ := lca_spec (T := T) a b
  refine lca_of g1 ?_ fun x h1 h2 => g3 x h1 (h2.trans ⟨_, rfl⟩)
  have e := g2.eq
  have d := g1.dep_le
  refine ⟨dep T a - dep T (lca T a b), ?_⟩
  rw [← anc_add, show dep T a - dep T (lca T a b) + (dep T b - dep T a) = dep T b - dep T (lca T a b) by omega, e]
theorem lca_le_left (a b : Nat) : lca T a b ≤ a := (lca_spec a b).1.le
theorem lca_le_right (a b : Nat) : lca T a b ≤ b := (lca_spec a b).2.1.le
end
section
variable {T : Tre}
theorem lca_same {a b k : Nat} (hd : dep T a = dep T b) (n : anc T k a ≠ anc T k b) : lca T (anc T k a) (anc T k b) = lca T a b := by
  obtain ⟨g1, g2, g3⟩ := lca_spec (T := T) a b
  have ea := g1.eq
  have eb := g2.eq
  have hk : k < dep T a - dep T (lca T a b) := by
    refine Nat.lt_of_not_le fun z => n ?_
    obtain ⟨j, hj⟩ : ∃ j, k = j + (dep T a - dep T (lca T a b)) := ⟨k - (dep T a - dep T (lca T a b)), by omega⟩
    rw [hj, anc_add, ea, anc_add, hd, eb]
  refine (lca_of ⟨dep T a - dep T (lca T a b) - k, ?_⟩ ⟨dep T b - dep T (lca T a b) - k, ?_⟩ fun x h1 h2 => ?_).symm
  · rw [← anc_add, show dep T a - dep T (lca T a b) - k + k = dep T a - dep T (lca T a b) by omega, ea]
  · rw [← anc_add, show dep T b - dep T (lca T a b) - k + k = dep T b - dep T (lca T a b) by omega, eb]
  · exact g3 x (h1.trans ⟨k, rfl⟩) (h2.trans ⟨k, rfl⟩)
theorem lca_one {a b : Nat} (hd : dep T a = dep T b) (n : a ≠ b) (e : anc T 1 a = anc T 1 b) : lca T a b = anc T 1 a := by
  refine lca_meet hd e fun j hj => ?_
  cases j with
  | zero => exact absurd hj n
  | succ j => omega
theorem lineT_anc (m : Nat) : lineT T m = ((List.range (dep T m + 1)).map fun i => anc T i m).reverse := by
  refine List.ext_getElem? fun i => ?_
  by_cases h : i ≤ dep T m
  · rw [lineT_get h, List.getElem?_reverse (by simp; omega), List.getElem?_map, List.getElem?_range (by simp; omega)]
    simp
  · rw [List.getElem?_eq_none (by rw [lineT_length]; omega), List.getElem?_eq_none (by simp; omega)]
end
/-- the way from one make to another -/
def wayT (T : Tre) (a b : Nat) : List Nat := ((lineT T a).drop (dep T (lca T a b))).reverse ++ (lineT T b).drop (dep T (lca T a b) + 1)
/-- gone up s steps, the lower p figures of s still to be gone -/
def upTo (T : Tre) (m s p : Nat) : Nat := anc T (s / 2 ^ p * 2 ^ p) m
section
variable {T : Tre}
theorem upTo_top {m s p : Nat} (h : s < 2 ^ p) : upTo T m s p = m := by
  unfold upTo
  rw [Nat.div_eq_of_lt h, Nat.zero_mul]
  rfl
theorem upTo_zero {m s : Nat} : upTo T m s 0 = anc T s m := by
  unfold upTo
  rw [Nat.pow_zero, Nat.div_one, Nat.mul_one]
theorem div_two_pow {s p : Nat} : s / 2 ^ (p + 1) = s / 2 ^ p / 2 := by rw [Nat.pow_succ, Nat.div_div_eq_div_mul]
theorem upTo_no {m s p : Nat} (h : s / 2 ^ p % 2 ≠ 1) : upTo T m s p = upTo T m s (p + 1) := by
  unfold upTo
  congr 1
  rw [div_two_pow, Nat.pow_succ]
  have e : s / 2 ^ p = 2 * (s / 2 ^ p / 2) := by omega
  generalize s / 2 ^ p = q at *
  rw [Nat.mul_comm (2 ^ p) 2, ← Nat.mul_assoc]
  congr 1
  omega
theorem upTo_yes {m s p : Nat} (h : s / 2 ^ p % 2 = 1) : upTo T m s p = anc T (2 ^ p) (upTo T m s (p + 1)) := by
  unfold upTo
  rw [← anc_add]
  congr 1
  rw [div_two_pow, Nat.pow_succ]
  generalize s / 2 ^ p = q at *
  rw [Nat.mul_comm (2 ^ p) 2, ← Nat.mul_assoc]
  have e : q = 1 + q / 2 * 2 := by omega
  conv => lhs; rw [e]
  rw [Nat.add_mul, Nat.one_mul]
theorem upTo_dep {m s p : Nat} (hs : s ≤ dep T m) (h : s / 2 ^ p % 2 = 1) : 2 ^ p ≤ dep T (upTo T m s (p + 1)) := by
  unfold upTo
  rw [dep_anc]
  have h1 : s / 2 ^ p * 2 ^ p ≤ s := Nat.div_mul_le_self _ _
  rw [div_two_pow, Nat.pow_succ, Nat.mul_comm (2 ^ p) 2, ← Nat.mul_assoc]
  generalize s / 2 ^ p = q at *
  have e : q = q / 2 * 2 + 1 := by omega
  rw [e, Nat.add_mul, Nat.one_mul] at h1
  have e2 : (q / 2 * 2 + 1) / 2 * 2 = q / 2 * 2 := by omega
  omega
theorem dep_lt_nlp (m : Nat) : dep T m < 2 ^ nlp T m := Nat.lt_of_not_le fun h => absurd (lt_nlp.mpr h) (Nat.lt_irrefl _)
end
/-! ### a tree that grows -/
/-- each make is put on one ahead of it -/
def TreOk (T : Tre) : Prop := ∀ i (h : i < T.length), T[i] ≤ i
section
variable {T : Tre}
theorem par_ok (h : TreOk T) {m : Nat} (h0 : 0 < m) (hm : m ≤ T.length) : T[m - 1]? = some (par T m) := by
  have hi : m - 1 < T.length := by omega
  have e := h (m - 1) hi
  rw [List.getElem?_eq_getElem hi]
  unfold par
  rw [List.getD_eq_getElem?_getD, List.getElem?_eq_getElem hi, Option.getD_some]
  congr 1
  omega
theorem par_snoc {m x : Nat} (h : m ≤ T.length) : par (T ++ [x]) m = par T m := by
  unfold par
  by_cases h0 : 0 < m
  · rw [List.getD_eq_getElem?_getD, List.getD_eq_getElem?_getD, List.getElem?_append_left (by omega)]
  · have : m = 0 := by omega
    subst this
    simp
theorem par_new {x : Nat} (h : x ≤ T.length) : par (T ++ [x]) (T.length + 1) = x := by
  unfold par
  rw [List.getD_eq_getElem?_getD, Nat.add_sub_cancel, List.getElem?_append_right (Nat.le_refl _), Nat.sub_self]
  show min x T.length = x
  omega
theorem anc_snoc {k m x : Nat} (h : m ≤ T.length) : anc (T ++ [x]) k m = anc T k m := by
  induction k generalizing m with
  | zero => rfl
  | succ k ih => rw [anc_succ, anc_succ, par_snoc h, ih (Nat.le_trans (par_le T m) h)]
theorem dep_snoc {m x : Nat} (h : m ≤ T.length) : dep (T ++ [x]) m = dep T m := by
  induction m using Nat.strongRecOn with
  | ind m ih =>
    by_cases h0 : 0 < m
    · rw [dep_pos h0, dep_pos h0, par_snoc h, ih _ (par_lt h0) (Nat.le_trans (par_le T m) h)]
    · have : m = 0 := by omega
      subst this
      rw [dep_zero, dep_zero]
theorem dep_new {x : Nat} (h : x ≤ T.length) : dep (T ++ [x]) (T.length + 1) = dep T x + 1 := by
  rw [dep_pos (by omega), par_new h, dep_snoc h]
theorem lp_snoc {m x : Nat} (h : m ≤ T.length) : lp (T ++ [x]) m = lp T m := by
  unfold lp nlp
  rw [dep_snoc h]
  exact List.map_congr_left fun j _ => anc_snoc h
theorem TreOk.snoc (h : TreOk T) {x : Nat} (hx : x ≤ T.length) : TreOk (T ++ [x]) := fun i hi => by
  rw [List.length_append] at hi
  by_cases hl : i < T.length
  · rw [List.getElem_append_left hl]; exact h i hl
  · have : i = T.length := by simp at hi; omega
    subst this
    rw [List.getElem_append_right (Nat.le_refl _)]
    simpa using hx
theorem lineT_snoc {m x : Nat} (h : m ≤ T.length) : lineT (T ++ [x]) m = lineT T m := by
  induction m using Nat.strongRecOn with
  | ind m ih =>
    by_cases h0 : 0 < m
    · rw [lineT_pos h0, lineT_pos h0, par_snoc h, ih _ (par_lt h0) (Nat.le_trans (par_le T m) h)]
    · have : m = 0 := by omega
      subst this
      rw [lineT_zero, lineT_zero]
theorem lca_snoc {a b x : Nat} (ha : a ≤ T.length) (hb : b ≤ T.length) : lca (T ++ [x]) a b = lca T a b := by
  obtain ⟨⟨j, g1⟩, ⟨k, g2⟩, g3⟩ := lca_spec (T := T) a b
  refine (lca_of ⟨j, (anc_snoc ha).trans g1⟩ ⟨k, (anc_snoc hb).trans g2⟩ fun y h1 h2 => ?_).symm
  obtain ⟨p, h1⟩ := h1
  obtain ⟨q, h2⟩ := h2
  rw [anc_snoc ha] at h1
  rw [anc_snoc hb] at h2
  obtain ⟨r, h3⟩ := g3 y ⟨p, h1⟩ ⟨q, h2⟩
  exact ⟨r, (anc_snoc (Nat.le_trans (lca_le_left a b) ha)).trans h3⟩
end
/-! ### what is kept of a tree -/
/-- the leaps of a make put on make, as they are laid: found = [make], then .. -/
theorem lp_new {T : Tre} {x : Nat} (h : x ≤ T.length) : lp (T ++ [x]) (T.length + 1) = (List.range (nlp (T ++ [x]) (T.length + 1))).map fun j => anc T (2 ^ j - 1) x := by
  unfold lp
  refine List.map_congr_left fun j _ => ?_
  have h1 := Nat.two_pow_pos j
  obtain ⟨k, hk⟩ : ∃ k, 2 ^ j = k + 1 := ⟨2 ^ j - 1, by omega⟩
  rw [hk, anc_succ, par_new h, anc_snoc h, Nat.add_sub_cancel]
end Mk

/-! B0: a heap told by blocks of cells; calls by bundles; small steps of readings. -/
namespace Mk
open L2 PySem PySem.Spec PyProof.Rows

/-! ### cells and blocks -/
abbrev Cell := Addr × HO
abbrev Blk := List Cell
def isT : HO → Bool
  | .tup _ => true
  | _ => false
def mutA (cs : List Cell) : List Addr := (cs.filter fun c => !isT c.2).map (·.1)
/-- the cells stand in H; those that are no tuples stand apart -/
structure Hold (H : Hp) (cs : List Cell) : Prop where
  at_ : ∀ c ∈ cs, H c.1 = some c.2
  nd : (mutA cs).Nodup
def HB (H : Hp) (Bs : List Blk) : Prop := Hold H Bs.flatten
inductive At : List Blk → Addr → HO → Prop
  | here {Bs a o} : At ([(a, o)] :: Bs) a o
  | next {b Bs a o} (h : At Bs a o) : At (b :: Bs) a o
inductive Put : List Blk → Addr → HO → HO → List Blk → Prop
  | here {Bs a o u} : Put ([(a, o)] :: Bs) a o u ([(a, u)] :: Bs)
  | next {b Bs Cs a o u} (h : Put Bs a o u Cs) : Put (b :: Bs) a o u (b :: Cs)
inductive Take : List Blk → Blk → List Blk → Prop
  | here {b Bs} : Take (b :: Bs) b Bs
  | next {b c Bs Cs} (h : Take Bs b Cs) : Take (c :: Bs) b (c :: Cs)
theorem mutA_append (a b : List Cell) : mutA (a ++ b) = mutA a ++ mutA b := by
  unfold mutA
  rw [List.filter_append, List.map_append]
theorem mutA_cons_m {a : Addr} {o : HO} (h : isT o = false) (cs : List Cell) : mutA ((a, o) :: cs) = a :: mutA cs := by
  unfold mutA
  rw [List.filter_cons_of_pos (by simp [h])]
  rfl
theorem mutA_cons_t {a : Addr} {o : HO} (h : isT o = true) (cs : List Cell) : mutA ((a, o) :: cs) = mutA cs := by
  unfold mutA
  rw [List.filter_cons_of_neg (by simp [h])]
theorem mutA_perm {a b : List Cell} (h : a.Perm b) : (mutA a).Perm (mutA b) := (h.filter _).map _
theorem mem_mutA {cs : List Cell} {a : Addr} (h : a ∈ mutA cs) : ∃ o, (a, o) ∈ cs ∧ isT o = false := by
  unfold mutA at h
  obtain ⟨c, hc, rfl⟩ := List.mem_map.mp h
  obtain ⟨h1, h2⟩ := List.mem_filter.mp hc
  exact ⟨c.2, h1, by simpa using h2⟩
theorem of_mutA {cs : List Cell} {a : Addr} {o : HO} (h : (a, o) ∈ cs) (n : isT o = false) : a ∈ mutA cs := List.mem_map.mpr ⟨(a, o), List.mem_filter.mpr ⟨h, by simp [n]⟩, rfl⟩
section
variable {H : Hp} {Bs Cs L : List Blk} {b b1 b2 : Blk} {a p x dx C : Addr} {o u : HO}
theorem Hold.perm {cs ds : List Cell} (h : Hold H cs) (p : cs.Perm ds) : Hold H ds := ⟨fun c hc => h.at_ c (p.mem_iff.mpr hc), (mutA_perm p).nodup_iff.mp h.nd⟩
theorem At.mem (h : At Bs a o) : (a, o) ∈ Bs.flatten := by
  induction h with
  | here => simp
  | next _ ih => simp only [List.flatten_cons, List.mem_append]; exact Or.inr ih
theorem HB.at (h : HB H Bs) (m : At Bs a o) : H a = some o := h.at_ _ m.mem
theorem HB.mem (h : HB H Bs) (hb : b ∈ Bs) (hc : (a, o) ∈ b) : H a = some o := h.at_ (a, o) (List.mem_flatten.mpr ⟨b, hb, hc⟩)
theorem Put.split (h : Put Bs a o u Cs) : ∃ q r, Bs.flatten = q ++ (a, o) :: r ∧ Cs.flatten = q ++ (a, u) :: r := by
  induction h with
  | here => exact ⟨[], _, rfl, rfl⟩
  | @next b Bs Cs a o u _ ih =>
    obtain ⟨q, r, e1, e2⟩ := ih
    exact ⟨b ++ q, r, by simp [e1], by simp [e2]⟩
theorem Hold.set {q r : List Cell} (h : Hold H (q ++ (a, o) :: r)) (n : isT o = false) (n' : isT u = false) : Hold (upd H a u) (q ++ (a, u) :: r) := by
  have nd := h.nd
  rw [mutA_append, mutA_cons_m n] at nd
  have nd' : (mutA (q ++ (a, u) :: r)).Nodup := by rw [mutA_append, mutA_cons_m n']; exact nd
  refine ⟨fun c hc => ?_, nd'⟩
  have ha : H a = some o := h.at_ (a, o) (by simp)
  obtain ⟨c1, c2⟩ := c
  rcases List.mem_append.mp hc with hq | hr
  · have e := h.at_ (c1, c2) (List.mem_append_left _ hq)
    refine (upd_ne (fun z => ?_)).trans e
    dsimp only at z e
    subst z
    rw [ha] at e
    have e2 : o = c2 := Option.some.inj e
    have m : c1 ∈ mutA q := of_mutA (o := c2) hq (by rw [← e2]; exact n)
    exact (List.nodup_append.mp nd).2.2 c1 m c1 (List.mem_cons_self ..) rfl
  · rcases List.mem_cons.mp hr with e | hs
    · cases e
      exact upd_same
    · have e := h.at_ (c1, c2) (List.mem_append_right _ (List.mem_cons_of_mem _ hs))
      refine (upd_ne (fun z => ?_)).trans e
      dsimp only at z e
      subst z
      rw [ha] at e
      have e2 : o = c2 := Option.some.inj e
      have m : c1 ∈ mutA r := of_mutA (o := c2) hs (by rw [← e2]; exact n)
      exact (List.nodup_cons.mp (List.nodup_append.mp nd).2.1).1 m
theorem HB.put (h : HB H Bs) (p : Put Bs a o u Cs) (n : isT o = false) (n' : isT u = false) : HB (upd H a u) Cs := by
  obtain ⟨q, r, e1, e2⟩ := p.split
  unfold HB at h ⊢
  rw [e1] at h
  rw [e2]
  exact h.set n n'
theorem HB.at_put (h : HB H Bs) (p : Put Bs a o u Cs) : H a = some o := by
  obtain ⟨q, r, e1, _⟩ := p.split
  exact h.at_ (a, o) (by rw [e1]; simp)
theorem Hold.new {cs : List Cell} (h : Hold H cs) (hp : H p = none) : Hold (upd H p o) ((p, o) :: cs) := by
  refine ⟨fun c hc => ?_, ?_⟩
  · rcases List.mem_cons.mp hc with e | hc
    · cases e
      exact upd_same
    · have e := h.at_ c hc
      exact (upd_ne (ne_of_none e hp)).trans e
  · by_cases n : isT o = true
    · rw [mutA_cons_t n]; exact h.nd
    · rw [mutA_cons_m (by simpa using n)]
      refine List.nodup_cons.mpr ⟨fun m => ?_, h.nd⟩
      obtain ⟨o', m', _⟩ := mem_mutA m
      have e := h.at_ _ m'
      rw [hp] at e
      cases e
theorem HB.new (h : HB H Bs) (hp : H p = none) : HB (upd H p o) ([(p, o)] :: Bs) := Hold.new h hp
theorem HB.made (h : HB H Bs) (hx : H x = none) (hd : H dx = none) (n : dx ≠ x) : HB (upd (upd H dx (.own x)) x (.ins C dx [])) ([(x, .ins C dx [])] :: Bs) := by
  have h1 : HB (upd H dx (.own x)) ([(dx, .own x)] :: Bs) := h.new hd
  have h2 : HB (upd (upd H dx (.own x)) x (.ins C dx [])) ([(x, .ins C dx [])] :: [(dx, .own x)] :: Bs) := h1.new (by rw [upd_ne (Ne.symm n)]; exact hx)
  refine ⟨fun c hc => h2.at_ c ?_, ?_⟩
  · simp only [List.flatten_cons, List.mem_append] at hc ⊢
    rcases hc with hc | hc
    · exact Or.inl hc
    · exact Or.inr (Or.inr hc)
  · have nd := h2.nd
    simp only [List.flatten_cons, mutA_append] at nd ⊢
    exact nd.sublist (List.Sublist.append (List.Sublist.refl _) (List.sublist_append_right _ _))
theorem Take.perm (h : Take Bs b L) : Bs.flatten.Perm (b :: L).flatten := by
  induction h with
  | here => exact List.Perm.refl _
  | @next b c Bs Cs _ ih =>
    simp only [List.flatten_cons] at ih ⊢
    exact (ih.append_left c).trans (by simp only [← List.append_assoc]; exact List.perm_append_comm.append_right _)
theorem HB.take (h : HB H Bs) (t : Take Bs b L) : HB H (b :: L) := Hold.perm h t.perm
theorem HB.back (h : HB H (b :: L)) (t : Take Bs b L) : HB H Bs := Hold.perm h t.perm.symm
theorem HB.tail (h : HB H (b :: Bs)) : HB H Bs := by
  refine ⟨fun c hc => h.at_ c (by simp only [List.flatten_cons, List.mem_append]; exact Or.inr hc), ?_⟩
  have nd := h.nd
  simp only [List.flatten_cons, mutA_append] at nd
  exact (List.nodup_append.mp nd).2.1
theorem HB.sub (h : HB H Bs) (t : Take Bs b L) : HB H L := (h.take t).tail
theorem HB.dup {xs : List V} (h : HB H Bs) (e : H a = some (.tup xs)) : HB H ([(a, .tup xs)] :: Bs) := by
  refine ⟨fun c hc => ?_, ?_⟩
  · rcases List.mem_cons.mp (show c ∈ (a, HO.tup xs) :: Bs.flatten from hc) with z | z
    · rw [z]; exact e
    · exact h.at_ c z
  · show (mutA ((a, HO.tup xs) :: Bs.flatten)).Nodup
    rw [mutA_cons_t rfl]
    exact h.nd
theorem HB.nil : HB H [] := ⟨fun c hc => by simp at hc, by simp [mutA]⟩
end

/-! ### bundles: a def, a method, a class that is made -/
section
variable (P : Program) (w : World) (K : PySem.W.Frag) (mg : Str → Option Value) (base : Heap)
/-- the module's name x is a def that keeps sp -/
def CF (CX : CXT) (x : Str) (ps : List Str) (k : Nat) (sp : Sp) : Prop := ∃ f fd, mg x = some (.ref f) ∧ PySem.W.keepIn K (.ref f) = true ∧ Binds K fd ps [] ∧ FnOk P w K mg base CX k f fd ps sp
/-- the class at C has the method m that keeps sp -/
def MF (CX : CXT) (C : Addr) (m : Str) (ps : List Str) (k : Nat) (sp : Sp) : Prop := Cls K C ∧ ∃ f fd, Meth K C m f ∧ Binds K fd ps [] ∧ FnOk P w K mg base CX k f fd ps sp
/-- the module's name x is the class at C; its __init__ keeps sp -/
def KF (CX : CXT) (x : Str) (C : Addr) (ps : List Str) (k : Nat) (sp : Sp) : Prop := mg x = some (.ref C) ∧ ∃ f fd, Mk K C f ∧ Binds K fd ps [] ∧ FnOk P w K mg base CX k f fd ps sp
end
def tCallC (sp : Sp) (E : XK) (t : TA) : TE := fun σ H Q => t σ H fun vs H1 => sp vs H1 Q E
def tMethC (C : Addr) (m : Str) (sp : Sp) (E : XK) (ta : TE) (t : TA) : TE := fun σ H Q => ta σ H fun x H1 => ∃ a dx fs, x = .ref a ∧ H1 a = some (.ins C dx fs) ∧ fs.lookup m = none ∧
  t σ H1 fun vs H2 => sp (x :: vs) H2 Q E
def tMakeC (C : Addr) (sp : Sp) (E : XK) (t : TA) : TE := fun σ H Q => t σ H fun vs H1 => ∀ x dx, H1 x = none → H1 dx = none → dx ≠ x →
  sp (.ref x :: vs) (upd (upd H1 dx (.own x)) x (.ins C dx [])) (fun v H2 => v = .non ∧ Q (.ref x) H2) E
theorem tCallC_eq (sp : Sp) (E : XK) (t : TA) : tCall sp [] E t = tCallC sp E t := by
  funext σ H Q
  simp only [tCall, tCallC, List.append_nil]
theorem tMethC_eq (C : Addr) (m : Str) (sp : Sp) (E : XK) (ta : TE) (t : TA) : tMeth C m sp [] E ta t = tMethC C m sp E ta t := by
  funext σ H Q
  simp only [tMeth, tMethC, List.append_nil]
theorem tMakeC_eq (C : Addr) (sp : Sp) (E : XK) (t : TA) : tMake C sp [] E t = tMakeC C sp E t := by
  funext σ H Q
  simp only [tMake, tMakeC, List.append_nil]
/-- o.f of an instance of a class that is known -/
def tFldC (C : Addr) (ta : TE) (f : Str) : TE := fun σ H Q => ta σ H fun x H1 => ∃ a dx fs v, x = .ref a ∧ H1 a = some (.ins C dx fs) ∧ fs.lookup f = some v ∧ Q v H1
def sFldC (C : Addr) (ta tv : TE) (f : Str) : TS := fun D σ H => tv σ H fun y H1 => ta σ H1 fun x H2 => ∃ a dx fs, x = .ref a ∧ H2 a = some (.ins C dx fs) ∧ fs.length < 1000 ∧
  D.nx σ (upd H2 a (.ins C dx (putF f y fs)))
def sFldAugC (C : Addr) (ta tv : TE) (rd : V → V → Hp → VK → Prop) (f : Str) : TS := fun D σ H => ta σ H fun x H1 => ∃ a dx fs v, x = .ref a ∧ H1 a = some (.ins C dx fs) ∧ fs.lookup f = some v ∧
  tv σ H1 fun y H2 => rd v y H2 fun z H3 => ∃ dx' fs', H3 a = some (.ins C dx' fs') ∧ fs'.length < 1000 ∧ D.nx σ (upd H3 a (.ins C dx' (putF f z fs')))
section
variable {X : Cx} {CX : CXT} {k : Nat} {C : Addr} {ps : List Str} {sp : Sp} {E : XK} {x m : Str} {p pos apos : Pos} {e o : Expr} {es : List Expr} {ta : TE} {t : TA}
theorem pe_callC (c : CF X.prog X.w X.K X.mg X.base CX x ps k sp) (hr : Room k X.A) (hg : Gl X x) (hx : Passes CX X E)
    (ha : PA X (e :: es) t) (hdb : (x == ("__debug__" : Str)) = false := by decide) (he : starEach (e :: es) X.env = (false, eval e X.env) :: starEach es X.env := by rfl) (hpl : (backTo pos (starEach es X.env)).any (·.1) = false := by rfl) :
    PE X (.Call (.Name x p) (e :: es) [] pos) (tCallC sp E t) := by
  obtain ⟨f, fd, hm, hk, hb, F⟩ := c
  rw [← tCallC_eq]
  exact pe_call F hr hg hm hk hb .nil hx ha hdb he hpl
theorem pe_methC {pl : Sem Bool} (he : PE X o ta) (c : MF X.prog X.w X.K X.mg X.base CX C m ps k sp) (hr : Room k X.A) (hx : Passes CX X E) (ha : PA X (e :: es) t)
    (hst : starEach (e :: es) X.env = (false, eval e X.env) :: starEach es X.env := by rfl) (hpl : (backTo pos (starEach es X.env)).any (·.1) = false := by rfl)
    (ht : eval (.Call (.Attribute o m apos) (e :: es) [] pos) X.env = (do
      let ov ← eval o X.env
      standAt apos.atName
      let (f, first) ← holding [ov] (getMethod ov m pl)
      callWith pos f first (backTo pos (starEach (e :: es) X.env)) (backToKw pos (keywordEach [] X.env))) := by rfl) :
    PE X (.Call (.Attribute o m apos) (e :: es) [] pos) (tMethC C m sp E ta t) := by
  obtain ⟨cl, f, fd, hm, hb, F⟩ := c
  rw [← tMethC_eq]
  exact pe_meth he cl hm F hr hb .nil hx ha hst hpl ht
theorem pe_methC0 {pl : Sem Bool} (he : PE X o ta) (c : MF X.prog X.w X.K X.mg X.base CX C m ps k sp) (hr : Room k X.A) (hx : Passes CX X E)
    (ht : eval (.Call (.Attribute o m apos) [] [] pos) X.env = (do
      let ov ← eval o X.env
      standAt apos.atName
      let (f, first) ← holding [ov] (getMethod ov m pl)
      callWith pos f first (backTo pos (starEach [] X.env)) (backToKw pos (keywordEach [] X.env))) := by rfl) :
    PE X (.Call (.Attribute o m apos) [] [] pos) (tMethC C m sp E ta tNil) := by
  obtain ⟨cl, f, fd, hm, hb, F⟩ := c
  rw [← tMethC_eq]
  exact pe_meth0 he cl hm F hr hb .nil hx ht
theorem pe_makeC (c : KF X.prog X.w X.K X.mg X.base CX x C ps k sp) (hr : Room (k + 1) X.A) (hg : Gl X x) (hx : Passes CX X E)
    (ha : PA X (e :: es) t) (hdb : (x == ("__debug__" : Str)) = false := by decide) (he : starEach (e :: es) X.env = (false, eval e X.env) :: starEach es X.env := by rfl) (hpl : (backTo pos (starEach es X.env)).any (·.1) = false := by rfl) :
    PE X (.Call (.Name x p) (e :: es) [] pos) (tMakeC C sp E t) := by
  obtain ⟨hm, f, fd, M, hb, F⟩ := c
  rw [← tMakeC_eq]
  exact pe_make M F hr hg hm hb .nil hx ha hdb he hpl
theorem pe_makeC0 (c : KF X.prog X.w X.K X.mg X.base CX x C ps k sp) (hr : Room (k + 1) X.A) (hg : Gl X x) (hx : Passes CX X E) (hdb : (x == ("__debug__" : Str)) = false := by decide) :
    PE X (.Call (.Name x p) [] [] pos) (tMakeC C sp E tNil) := by
  obtain ⟨hm, f, fd, M, hb, F⟩ := c
  rw [← tMakeC_eq]
  exact pe_make0 M F hr hg hm hb .nil hx hdb
theorem pe_fldC {f : Str} (c : Cls X.K C) (n : NoAttr X.K C f) (he : PE X e ta) (hb : attributeBase e f X.env (eval e X.env) = eval e X.env := by rfl) : PE X (.Attribute e f pos) (tFldC C ta f) := by
  refine ⟨fun pins s σ H Q I h => ?_⟩
  refine attr_of hb (thn (he.run pins s σ H _ I h) fun u s1 ⟨x, H1, I1, rx, a, dx, fs, v, ex, ea, l, q⟩ => ?_)
  subst ex
  obtain rfl : u = Value.ref a := rx
  exact getattr_ok I1 ea c n l fun u' s2 I2 ru => ⟨v, H1, I2, ru, q⟩
theorem ps_fldC {f : Str} {value : Expr} {tv : TE} {pos' : Pos} (c : Cls X.K C) (n : NoAttr X.K C f) (ha : PE X o ta) (hv : PE X value tv) (hs : swapsWith value (some (.Attribute o f pos')) pos.line X.env = pure false := by rfl) :
    PS X (.Assign [.Attribute o f pos'] value pos) (sFldC C ta tv f) := by
  refine ⟨fun pins s σ H D I h => ?_⟩
  refine plainObj_wpAny_Assign_Attribute (thn (hv.run pins s σ H _ I h) fun u s1 ⟨y, H1, I1, ry, q⟩ => thn (ha.run pins s1 σ H1 _ I1 q) fun ov s2 ⟨x, H2, I2, rx, a, dx, fs, ex, ea, l, q2⟩ => ?_) hs
  subst ex
  obtain rfl : ov = Value.ref a := rx
  exact setattr_ok I2 ea c n l ry fun s3 I3 => ⟨σ, _, I3, q2⟩
theorem ps_fldaugC {op : Operator} {rd : V → V → Hp → VK → Prop} {f : Str} {value : Expr} {tv : TE} {tpos : Pos} (c : Cls X.K C) (n : NoAttr X.K C f) (hop : InOp X op rd) (ha : PE X o ta) (hv : PE X value tv) :
    PS X (.AugAssign (.Attribute o f tpos) op value pos) (sFldAugC C ta tv rd f) := by
  refine ⟨fun pins s σ H D I h => ?_⟩
  refine wpAny_AugAssign_AttributeAny (thn (ha.run pins s σ H _ I h) fun ov s1 ⟨x, H1, I1, rx, a, dx, fs, v, ex, ea, l, q⟩ => ?_)
  subst ex
  obtain rfl : ov = Value.ref a := rx
  refine getattr_ok I1 ea c n l fun u s2 I2 ru => thn (hv.run pins s2 σ H1 _ I2 q) fun w3 s3 ⟨y, H2, I3, ry, q3⟩ => thn (hop pins s3 σ H2 v y u w3 _ I3 ru ry q3) fun w4 s4 ⟨z, H3, I4, rz, dx', fs', ea', l', q4⟩ => ?_
  exact setattr_ok I4 ea' c n l' rz fun s5 I5 => ⟨σ, _, I5, q4⟩
end

/-- a new object o is laid -/
def NewR (H : Hp) (o : HO) (S : Addr → Hp → Prop) : Prop := ∀ p, H p = none → S p (upd H p o)
/-- x.f = y -/
def SetR (C : Addr) (f : Str) (y x : V) (H : Hp) (S : Hp → Prop) : Prop := ∃ a dx fs, x = .ref a ∧ H a = some (.ins C dx fs) ∧ fs.length < 1000 ∧ S (upd H a (.ins C dx (putF f y fs)))
def SetA (C a : Addr) (f : Str) (y : V) (H : Hp) (S : Hp → Prop) : Prop := ∃ dx fs, H a = some (.ins C dx fs) ∧ fs.length < 1000 ∧ S (upd H a (.ins C dx (putF f y fs)))
def MkR (C : Addr) (H : Hp) (S : Addr → Hp → Prop) : Prop := ∀ x dx, H x = none → H dx = none → dx ≠ x → S x (upd (upd H dx (.own x)) x (.ins C dx []))
def LcR (D : Addr) (y : V) (H : Hp) (S : Hp → Prop) : Prop := ∃ acc, H D = some (.lst acc) ∧ acc.length < sizeLine ∧ S (upd H D (.lst (acc ++ [y])))
def LcG (J : It) (g : TG) (tt : TT) (te : TE) (vs : List Nat) (σ : L2.St) (H1 : Hp) (Q : VK) : Prop := ∀ D, H1 D = none → ∃ W : Nat → Nat → Hp → Prop, (∃ m, W 0 m (upd H1 D (.lst []))) ∧ ∀ i m H, W i m H →
  (J.stop i H ∧ Q (.ref D) H) ∨ (J.go i H ∧ ∃ Nx : Hp → Prop, (∀ H', Nx H' → ∃ m', m' < m ∧ W (i + 1) m' H') ∧ ∀ x H', J.yld i H x H' → g x (wipe σ vs) H' fun σ2 H2 => wipe σ2 vs = wipe σ vs ∧ tt σ2 H2 fun b H3 =>
    if b = true then te σ2 H3 fun y H4 => ∃ acc, H4 D = some (.lst acc) ∧ acc.length < sizeLine ∧ Nx (upd H4 D (.lst (acc ++ [y]))) else Nx H3)
def ForG (J : It) (g : TG) (tb : TS) (D : Ends) (σ : L2.St) (H1 : Hp) : Prop := ∃ W : Nat → Nat → L2.St → Hp → Prop, (∃ m, W 0 m σ H1) ∧ ∀ i m σ H, W i m σ H →
  (J.stop i H ∧ D.nx σ H) ∨ (J.go i H ∧ ∃ N : L2.St → Hp → Prop, (∀ σ' H', N σ' H' → ∃ m', m' < m ∧ W (i + 1) m' σ' H') ∧ ∀ x H', J.yld i H x H' → g x σ H' fun σ2 H2 => tb { D with nx := N, ct := N, bk := D.nx } σ2 H2)

/-! ### a reading, step by step -/
section
variable {σ σ' : L2.St} {H : Hp} {Q : VK} {D : Ends} {ta tb te tv : TE} {tt tu : TT} {t u : TS} {g : TG} {v y : V} {R : V → Hp → Prop} {i j : Nat}
theorem r_seq (h : t { D with nx := u D } σ H) : tSeq t u D σ H := h
theorem r_asg (h : te σ H fun x H1 => g x σ H1 D.nx) : tAsg te g D σ H := h
theorem r_drop (h : te σ H fun _ H1 => D.nx σ H1) : tDrop te D σ H := h
theorem r_ret (h : te σ H D.rt) : tRet te D σ H := h
theorem r_retN (h : D.rt .non H) : tRetN D σ H := h
theorem r_next (h : D.nx σ H) : tNext D σ H := h
theorem r_ifS (h : tt σ H fun b H1 => if b = true then t D σ H1 else u D σ H1) : tIfS tt t u D σ H := h
theorem r_name {R : L2.St → Hp → Prop} (e : σ.set i (some v) = σ') (h : R σ' H) : gName i v σ H R := by
  subst e
  exact h
theorem r_var (e : σ[i]? = some (some v)) (h : Q v H) : tVar i σ H Q := ⟨v, e, h⟩
theorem r_c (h : Q v H) : tC v σ H Q := h
theorem r_op {r : R2} (h : ta σ H fun x H1 => tb σ H1 fun y H2 => r x y H2 Q) : tOp r ta tb σ H Q := h
theorem r_un {r : V → Hp → VK → Prop} (h : ta σ H fun x H1 => r x H1 Q) : tUn r ta σ H Q := h
theorem r_I0 {f : Int → Int → V} {a b : Int} (h : Q (f a b) H) : rI0 f (.int a) (.int b) H Q := ⟨a, b, rfl, rfl, h⟩
theorem r_I {Cn : Int → Int → Prop} {f : Int → Int → V} {a b : Int} (c : Cn a b) (h : Q (f a b) H) : rI Cn f (.int a) (.int b) H Q := ⟨a, b, rfl, rfl, c, h⟩
theorem r_eqI {a b : Int} (h : Q (.bl (decide (a = b))) H) : rEq (.int a) (.int b) H Q := by
  refine ⟨rfl, ?_⟩
  have e : decide (V.int a = V.int b) = decide (a = b) := by simp
  rw [e]
  exact h
theorem r_neI {a b : Int} (h : Q (.bl (!decide (a = b))) H) : rNe (.int a) (.int b) H Q := by
  refine ⟨rfl, ?_⟩
  have e : decide (V.int a = V.int b) = decide (a = b) := by simp
  rw [e]
  exact h
theorem r_eq (s : scal v y = true) (h : Q (.bl (decide (v = y))) H) : rEq v y H Q := ⟨s, h⟩
theorem r_ne (s : scal v y = true) (h : Q (.bl (!decide (v = y))) H) : rNe v y H Q := ⟨s, h⟩
theorem r_test {R : Bool → Hp → Prop} (h : te σ H fun x H' => ∃ k, x = .bl k ∧ R k H') : tTest te σ H R := h
theorem r_B {R : Bool → Hp → Prop} (h : te σ H fun x H' => ∃ k, x = .bl k ∧ R k H') : tB te σ H R := h
theorem r_bl {b : Bool} {R : Bool → Prop} (h : R b) : ∃ k, V.bl b = V.bl k ∧ R k := ⟨b, rfl, h⟩
theorem r_and {R : Bool → Hp → Prop} (h : tt σ H fun c H1 => if c = true then tu σ H1 R else R false H1) : tAnd tt tu σ H R := h
theorem r_or {R : Bool → Hp → Prop} (h : tt σ H fun c H1 => if c = true then R true H1 else tu σ H1 R) : tOr tt tu σ H R := h
theorem r_not {R : Bool → Hp → Prop} (h : tt σ H fun c H1 => R (!c) H1) : tNot tt σ H R := h
theorem r_ifE (h : tt σ H fun c H1 => if c = true then ta σ H1 Q else tb σ H1 Q) : tIf tt ta tb σ H Q := h
theorem r_tup {tr : TA} (h : tr σ H fun xs H1 => xs.length ≤ sizeLine ∧ NewR H1 (.tup xs) fun p H2 => Q (.ref p) H2) : tTup tr σ H Q := h
theorem r_lst {tr : TA} (h : tr σ H fun xs H1 => xs.length ≤ sizeLine ∧ NewR H1 (.lst xs) fun p H2 => Q (.ref p) H2) : tLst tr σ H Q := h
theorem r_nil {R : List V → Hp → Prop} (h : R [] H) : tNil σ H R := h
theorem r_cons {tr : TA} {R : List V → Hp → Prop} (h : ta σ H fun x H1 => tr σ H1 fun xs H2 => R (x :: xs) H2) : tCons ta tr σ H R := h
theorem r_cb {r : List V → Hp → VK → Prop} {tr : TA} (h : tr σ H fun vs H1 => r vs H1 Q) : tCB r tr σ H Q := h
theorem r_call {sp : Sp} {E : XK} {tr : TA} (h : tr σ H fun vs H1 => sp vs H1 Q E) : tCallC sp E tr σ H Q := h
theorem r_fld {C : Addr} {f : Str} (h : ta σ H fun x H1 => ∃ a dx fs v, x = .ref a ∧ H1 a = some (.ins C dx fs) ∧ fs.lookup f = some v ∧ Q v H1) : tFldC C ta f σ H Q := h
theorem r_fld1 {C p dx : Addr} {f : Str} {fs : List (Str × V)} {S : V → Prop} (e : H p = some (.ins C dx fs)) (l : fs.lookup f = some v) (h : S v) : ∃ a dx fs v, V.ref p = .ref a ∧ H a = some (.ins C dx fs) ∧ fs.lookup f = some v ∧ S v := ⟨p, dx, fs, v, rfl, e, l, h⟩
theorem r_meth {C : Addr} {m : Str} {sp : Sp} {E : XK} {tr : TA} (h : ta σ H fun x H1 => ∃ a dx fs, x = .ref a ∧ H1 a = some (.ins C dx fs) ∧ fs.lookup m = none ∧ tr σ H1 fun vs H2 => sp (x :: vs) H2 Q E) : tMethC C m sp E ta tr σ H Q := h
theorem r_meth1 {C p dx : Addr} {m : Str} {fs : List (Str × V)} {S : Prop} (e : H p = some (.ins C dx fs)) (l : fs.lookup m = none) (h : S) : ∃ a dx fs, V.ref p = .ref a ∧ H a = some (.ins C dx fs) ∧ fs.lookup m = none ∧ S := ⟨p, dx, fs, rfl, e, l, h⟩
theorem r_make {C : Addr} {sp : Sp} {E : XK} {tr : TA} (h : tr σ H fun vs H1 => MkR C H1 fun x H2 => sp (.ref x :: vs) H2 (fun v H2 => v = .non ∧ Q (.ref x) H2) E) : tMakeC C sp E tr σ H Q := h
theorem r_sfld {C : Addr} {f : Str} (h : tv σ H fun y H1 => ta σ H1 fun x H2 => SetR C f y x H2 fun H3 => D.nx σ H3) : sFldC C ta tv f D σ H := h
theorem r_sfld1 {C p dx : Addr} {f : Str} {fs fs' : List (Str × V)} {S : Hp → Prop} {Bs Cs : List Blk} (hb : HB H Bs) (pt : Put Bs p (.ins C dx fs) (.ins C dx fs') Cs) (e : putF f y fs = fs') (l : fs.length < 1000) (h : ∀ H', HB H' Cs → S H') : SetR C f y (.ref p) H S := by
  subst e
  exact ⟨p, dx, fs, rfl, hb.at_put pt, l, h _ (hb.put pt rfl rfl)⟩
theorem r_saug {C : Addr} {f : Str} {rd : V → V → Hp → VK → Prop} (h : ta σ H fun x H1 => ∃ a dx fs v, x = .ref a ∧ H1 a = some (.ins C dx fs) ∧ fs.lookup f = some v ∧
  tv σ H1 fun y H2 => rd v y H2 fun z H3 => SetA C a f z H3 fun H4 => D.nx σ H4) : sFldAugC C ta tv rd f D σ H := h
theorem r_saug1 {C p dx : Addr} {f : Str} {fs : List (Str × V)} {S : Addr → V → Prop} (e : H p = some (.ins C dx fs)) (l : fs.lookup f = some v) (h : S p v) : ∃ a dx fs v, V.ref p = .ref a ∧ H a = some (.ins C dx fs) ∧ fs.lookup f = some v ∧ S a v := ⟨p, dx, fs, v, rfl, e, l, h⟩
theorem r_saug2 {C p dx : Addr} {f : Str} {fs fs' : List (Str × V)} {S : Hp → Prop} {Bs Cs : List Blk} (hb : HB H Bs) (pt : Put Bs p (.ins C dx fs) (.ins C dx fs') Cs) (e : putF f y fs = fs') (l : fs.length < 1000) (h : ∀ H', HB H' Cs → S H') : SetA C p f y H S := by
  subst e
  exact ⟨dx, fs, hb.at_put pt, l, h _ (hb.put pt rfl rfl)⟩
theorem r_addI {a b : Int} (h : Q (.int (a + b)) H) : rAdd (.int a) (.int b) H Q := ⟨a, b, rfl, rfl, h⟩
theorem r_subI {a b : Int} (h : Q (.int (a - b)) H) : rSub (.int a) (.int b) H Q := ⟨a, b, rfl, rfl, h⟩
theorem r_ixL {K : PySem.W.Frag} {p : Addr} {xs : List V} {a : Int} (e : SqL K H p xs) (h1 : atI xs a = some v) (h : Q v H) : rIxL K (.ref p) (.int a) H Q := ⟨p, xs, a, v, rfl, rfl, e, h1, h⟩
theorem r_ixT {K : PySem.W.Frag} {p : Addr} {xs : List V} {a : Int} (e : SqT K H p xs) (h1 : atI xs a = some v) (h : Q v H) : rIxT K (.ref p) (.int a) H Q := ⟨p, xs, a, v, rfl, rfl, e, h1, h⟩
theorem r_sl {r : V → Option Int → Option Int → Hp → VK → Prop} {tl th : TO} (h : te σ H fun x H1 => tl σ H1 fun l H2 => th σ H2 fun u H3 => r x l u H3 Q) : tSl r te tl th σ H Q := h
theorem r_noP {R : Option Int → Hp → Prop} (h : R none H) : tNoPart σ H R := h
theorem r_part {R : Option Int → Hp → Prop} (h : te σ H fun x H1 => ∃ i, x = .int i ∧ R (some i) H1) : tPart te σ H R := h
theorem r_int {a : Int} {R : Int → Prop} (h : R a) : ∃ k, V.int a = V.int k ∧ R k := ⟨a, rfl, h⟩
theorem r_bm {K : PySem.W.Frag} {T : String} {r : V → List V → Hp → VK → Prop} {tr : TA} (h : te σ H fun x H1 => tyV K T x H1 ∧ tr σ H1 fun xs H2 => r x xs H2 Q) : tBM K T r te tr σ H Q := h
theorem r_bm0 {K : PySem.W.Frag} {T : String} {r : V → List V → Hp → VK → Prop} (h : te σ H fun x H1 => tyV K T x H1 ∧ r x [] H1 Q) : tBM0 K T r te σ H Q := h
theorem r_tyL {K : PySem.W.Frag} {p : Addr} {xs : List V} {S : Prop} (e : SqL K H p xs) (h : S) : tyV K "list" (.ref p) H ∧ S := ⟨Or.inl ⟨rfl, _, e⟩, h⟩
theorem r_append {p : Addr} {xs : List V} {Bs Cs : List Blk} (hb : HB H Bs) (pt : Put Bs p (.lst xs) (.lst (xs ++ [y])) Cs) (l : xs.length < sizeLine) (h : ∀ H', HB H' Cs → Q .non H') : rAppend (.ref p) [y] H Q := ⟨p, xs, y, rfl, rfl, hb.at_put pt, l, h _ (hb.put pt rfl rfl)⟩
theorem r_mk {o : HO} {n : Nat} {S : Addr → Hp → Prop} {Bs : List Blk} (l : n ≤ sizeLine) (hb : HB H Bs) (h : ∀ p H', HB H' ([(p, o)] :: Bs) → S p H') : n ≤ sizeLine ∧ NewR H o S := ⟨l, fun p hp => h p _ (hb.new hp)⟩
theorem r_new {o : HO} {S : Addr → Hp → Prop} {Bs : List Blk} (hb : HB H Bs) (h : ∀ p H', HB H' ([(p, o)] :: Bs) → S p H') : NewR H o S := fun p hp => h p _ (hb.new hp)
theorem r_mkR {C : Addr} {S : Addr → Hp → Prop} {Bs : List Blk} (hb : HB H Bs) (h : ∀ x dx H', HB H' ([(x, .ins C dx [])] :: Bs) → S x H') : MkR C H S := fun x dx hx hd n => h x dx _ (hb.made hx hd n)
theorem r_chain {r r' : R2} {tc : TE} (h : ta σ H fun x H1 => tb σ H1 fun y H2 => r x y H2 fun z H3 => ∃ k, z = .bl k ∧ (if k = true then tc σ H3 fun w' H4 => r' y w' H4 Q else Q (.bl false) H3)) : tChain r r' ta tb tc σ H Q := h
/-- a test that is decided -/
theorem r_yes {b : Bool} {A B : Prop} (e : b = true) (h : A) : if b = true then A else B := by rw [if_pos e]; exact h
theorem r_no {b : Bool} {A B : Prop} (e : b = false) (h : B) : if b = true then A else B := by rw [e, if_neg Bool.false_ne_true]; exact h
theorem r_two {b : Bool} {A B : Prop} (h1 : b = true → A) (h2 : b = false → B) : if b = true then A else B := by
  cases b with
  | true => exact h1 rfl
  | false => exact h2 rfl
end
end Mk
namespace Mk
open L2 PySem PySem.Spec PyProof.Rows
theorem bt_every : bootBuiltins "len" = some (.builtin "len") ∧ bootBuiltins "isinstance" = some (.builtin "isinstance") ∧ bootBuiltins "all" = some (.builtin "all") ∧ bootBuiltins "any" = some (.builtin "any") ∧ bootBuiltins "sum" = some (.builtin "sum") ∧ bootBuiltins "min" = some (.builtin "min") ∧ bootBuiltins "max" = some (.builtin "max") ∧ bootBuiltins "sorted" = some (.builtin "sorted") ∧ bootBuiltins "repr" = some (.builtin "repr") ∧ bootBuiltins "abs" = some (.builtin "abs") ∧ bootBuiltins "int" = some (.type "int") ∧ bootBuiltins "bool" = some (.type "bool") ∧ bootBuiltins "list" = some (.type "list") ∧ bootBuiltins "tuple" = some (.type "tuple") ∧ bootBuiltins "dict" = some (.type "dict") ∧ bootBuiltins "str" = some (.type "str") ∧ bootBuiltins "set" = some (.type "set") ∧ bootBuiltins "range" = some (.type "range") ∧ bootBuiltins "enumerate" = some (.type "enumerate") ∧ bootBuiltins "reversed" = some (.type "reversed") ∧ bootBuiltins "zip" = some (.type "zip") := by decide +kernel
theorem bt_len : bootBuiltins "len" = some (.builtin "len") := bt_every.1
theorem bt_isinstance : bootBuiltins "isinstance" = some (.builtin "isinstance") := bt_every.2.1
theorem bt_all : bootBuiltins "all" = some (.builtin "all") := bt_every.2.2.1
theorem bt_any : bootBuiltins "any" = some (.builtin "any") := bt_every.2.2.2.1
theorem bt_sum : bootBuiltins "sum" = some (.builtin "sum") := bt_every.2.2.2.2.1
theorem bt_min : bootBuiltins "min" = some (.builtin "min") := bt_every.2.2.2.2.2.1
theorem bt_max : bootBuiltins "max" = some (.builtin "max") := bt_every.2.2.2.2.2.2.1
theorem bt_sorted : bootBuiltins "sorted" = some (.builtin "sorted") := bt_every.2.2.2.2.2.2.2.1
theorem bt_repr : bootBuiltins "repr" = some (.builtin "repr") := bt_every.2.2.2.2.2.2.2.2.1
theorem bt_abs : bootBuiltins "abs" = some (.builtin "abs") := bt_every.2.2.2.2.2.2.2.2.2.1
theorem bt_int : bootBuiltins "int" = some (.type "int") := bt_every.2.2.2.2.2.2.2.2.2.2.1
theorem bt_bool : bootBuiltins "bool" = some (.type "bool") := bt_every.2.2.2.2.2.2.2.2.2.2.2.1
theorem bt_list : bootBuiltins "list" = some (.type "list") := bt_every.2.2.2.2.2.2.2.2.2.2.2.2.1
theorem bt_tuple : bootBuiltins "tuple" = some (.type "tuple") := bt_every.2.2.2.2.2.2.2.2.2.2.2.2.2.1
theorem bt_dict : bootBuiltins "dict" = some (.type "dict") := bt_every.2.2.2.2.2.2.2.2.2.2.2.2.2.2.1
theorem bt_str : bootBuiltins "str" = some (.type "str") := bt_every.2.2.2.2.2.2.2.2.2.2.2.2.2.2.2.1
theorem bt_set : bootBuiltins "set" = some (.type "set") := bt_every.2.2.2.2.2.2.2.2.2.2.2.2.2.2.2.2.1
theorem bt_range : bootBuiltins "range" = some (.type "range") := bt_every.2.2.2.2.2.2.2.2.2.2.2.2.2.2.2.2.2.1
theorem bt_enumerate : bootBuiltins "enumerate" = some (.type "enumerate") := bt_every.2.2.2.2.2.2.2.2.2.2.2.2.2.2.2.2.2.2.1
theorem bt_reversed : bootBuiltins "reversed" = some (.type "reversed") := bt_every.2.2.2.2.2.2.2.2.2.2.2.2.2.2.2.2.2.2.2.1
theorem bt_zip : bootBuiltins "zip" = some (.type "zip") := bt_every.2.2.2.2.2.2.2.2.2.2.2.2.2.2.2.2.2.2.2.2
end Mk
namespace Mk
open L2 PySem PySem.Spec PyProof.Rows
theorem r_start {N : List Str} {vs : List V} {σ : L2.St} {H : Hp} {D : Ends} {t : TS} (e : start N vs = σ) (h : t D σ H) : t D (start N vs) H := by rw [e]; exact h
theorem hu64 {A : Around} {k : Nat} (hr : Room k A) : A.units + 64 < cLine := hr.units
section
variable {X : Cx}
theorem pe_ci {x : Str} {i : Int} {pos : Pos} (hm : ∃ t, X.mg x = some (.int i t)) (hg : Gl X x := by rfl) (hd : (x == ("__debug__" : Str)) = false := by decide) : PE X (.Name x pos) (tC (.int i)) := by
  obtain ⟨t, e⟩ := hm
  exact pe_glob hg e ⟨t, rfl⟩ hd
end
/-- isinstance(x, T) of a value without objects -/
theorem r_isi {K : PySem.W.Frag} {H : Hp} {x : V} {n : String} {t : Value} {b : Bool} {Q : VK} (ty : TyX K H x t) (e : PySem.W.kitOne K t (.type n) = some b) (h : Q (.bl b) H) : rIsi K [x, .ty n] H Q := ⟨x, .ty n, t, .type n, b, rfl, .ty n, ty, e, h⟩
theorem r_isT {K : PySem.W.Frag} {H : Hp} {x : V} {t : Value} {b : Bool} {Q : VK} {p : Addr} {n m : String} (hp : H p = some (.tup [.ty n, .ty m])) (ty : TyX K H x t) (e : PySem.W.kitAny K t [.type n, .type m] = some b) (h : Q (.bl b) H) : rIsiT K [x, .ref p] H Q :=
  ⟨x, p, _, t, _, b, rfl, hp, .cons (.ty n) (.cons (.ty m) .nil), ty, e, h⟩
theorem r_andV {ta tb : TE} {σ : L2.St} {H : Hp} {Q : VK} (h : ta σ H fun x H1 => ∃ c, x = .bl c ∧ if c = true then tb σ H1 Q else Q (.bl false) H1) : tAndV ta tb σ H Q := h
theorem r_notV {ta : TE} {σ : L2.St} {H : Hp} {Q : VK} (h : ta σ H fun x H1 => ∃ c, x = .bl c ∧ Q (.bl (!c)) H1) : tNotV ta σ H Q := h
end Mk
namespace Mk
open L2 PySem PySem.Spec PyProof.Rows
theorem kit_every {K : PySem.W.Frag} : PySem.W.kitOne K (.type "int") (.type "int") = some true ∧ PySem.W.kitOne K (.type "int") (.type "bool") = some false ∧ PySem.W.kitOne K (.type "bool") (.type "int") = some true ∧ PySem.W.kitOne K (.type "bool") (.type "bool") = some true ∧
  PySem.W.kitOne K (.type "str") (.type "str") = some true ∧ PySem.W.kitOne K (.type "NoneType") (.type "int") = some false ∧ PySem.W.kitOne K (.type "str") (.type "int") = some false ∧ PySem.W.kitOne K (.type "tuple") (.type "tuple") = some true ∧ PySem.W.kitOne K (.type "list") (.type "list") = some true ∧ PySem.W.kitOne K (.type "dict") (.type "dict") = some true :=
  ⟨kit_ty (by decide +kernel), kit_ty (by decide +kernel), kit_ty (by decide +kernel), kit_ty (by decide +kernel), kit_ty (by decide +kernel), kit_ty (by decide +kernel), kit_ty (by decide +kernel), kit_ty (by decide +kernel), kit_ty (by decide +kernel), kit_ty (by decide +kernel)⟩
section
variable {K : PySem.W.Frag} {H : Hp} {Q : VK} {i : Int} {a p : Addr} {xs : List V}
theorem r_isII (h : Q (.bl true) H) : rIsi K [.int i, .ty "int"] H Q := r_isi (.base (.int _)) kit_every.1 h
theorem r_isIB (h : Q (.bl false) H) : rIsi K [.int i, .ty "bool"] H Q := r_isi (.base (.int _)) kit_every.2.1 h
theorem r_isTT (e : H a = some (.tup xs)) (h : Q (.bl true) H) : rIsi K [.ref a, .ty "tuple"] H Q := r_isi (.base (.tup e)) kit_every.2.2.2.2.2.2.2.1 h
theorem kitAny_cons {K : PySem.W.Frag} {t c : Value} {cs : List Value} (h : PySem.W.kitOne K t c = some true) : PySem.W.kitAny K t (c :: cs) = some true := by
  unfold PySem.W.kitAny
  rw [h]
theorem r_isLLT (e : H a = some (.lst xs)) (hp : H p = some (.tup [.ty "list", .ty "tuple"])) (h : Q (.bl true) H) : rIsiT K [.ref a, .ref p] H Q :=
  r_isT hp (.base (.lst e)) (kitAny_cons kit_every.2.2.2.2.2.2.2.2.1) h
end
end Mk
namespace Mk
open L2 PySem PySem.Spec PyProof.Rows
section
variable {K : PySem.W.Frag} {σ : L2.St} {H : Hp} {Q : VK} {D : Ends} {tl te : TE} {tt : TT} {tb : TS} {g : TG} {wi : TI} {R : It → Hp → Prop} {p : Addr} {xs : List V} {vs : List Nat}
theorem r_for (h : wi σ H fun J H1 => ForG J g tb D σ H1) : tFor wi g tb D σ H := h
theorem r_lc (h : wi σ H fun J H1 => LcG J g tt te vs σ H1 Q) : tLc wi g tt te vs σ H Q := h
theorem r_iList (h : tl σ H fun x H1 => ∃ a, x = .ref a ∧ (∃ xs, SqL K H1 a xs) ∧ R (Itl K a) H1) : iList K tl σ H R := h
theorem r_iL1 {S : Addr → Prop} (e : SqL K H p xs) (h : S p) : ∃ a, V.ref p = .ref a ∧ (∃ xs, SqL K H a xs) ∧ S a := ⟨p, rfl, ⟨xs, e⟩, h⟩
theorem r_iTup (h : tl σ H fun x H1 => ∃ a, x = .ref a ∧ (∃ xs, SqT K H1 a xs) ∧ R (Itt K a) H1) : iTup K tl σ H R := h
theorem r_iT1 {S : Addr → Prop} (e : SqT K H p xs) (h : S p) : ∃ a, V.ref p = .ref a ∧ (∃ xs, SqT K H a xs) ∧ S a := ⟨p, rfl, ⟨xs, e⟩, h⟩
theorem r_iEnum {ta : TA} (h : ta σ H fun vs H1 => ∃ a xs, vs = [.ref a] ∧ SqL K H1 a xs ∧ R (Ite K a) H1) : iEnum K ta σ H R := h
theorem r_iE1 {S : Addr → Prop} (e : SqL K H p xs) (h : S p) : ∃ a xs, [V.ref p] = [.ref a] ∧ SqL K H a xs ∧ S a := ⟨p, xs, rfl, e, h⟩
theorem r_iR1 {ta : TA} (h : ta σ H fun vs H1 => ∃ j : Int, vs = [.int j] ∧ -(2 ^ 62) ≤ j ∧ j < 2 ^ 62 ∧ R (Itr 0 j.toNat) H1) : iRng1 ta σ H R := h
theorem r_iR11 {n : Nat} {S : Int → Prop} (b : n < 2 ^ 62) (h : S n) : ∃ j : Int, [V.int (n : Int)] = [.int j] ∧ -(2 ^ 62) ≤ j ∧ j < 2 ^ 62 ∧ S j := ⟨n, rfl, by omega, by omega, h⟩
theorem r_iR2 {ta : TA} (h : ta σ H fun vs H1 => ∃ i j : Int, vs = [.int i, .int j] ∧ (-(2 ^ 62) ≤ i ∧ i < 2 ^ 62 ∧ -(2 ^ 62) ≤ j ∧ j < 2 ^ 62) ∧ R (Itr i (j - i).toNat) H1) : iRng2 ta σ H R := h
theorem r_iRev {te : L2.St → Hp → (Int → Int → Hp → Prop) → Prop} (h : te σ H fun a b H1 => -(2 ^ 62) ≤ a ∧ a < 2 ^ 62 ∧ -(2 ^ 62) ≤ b ∧ b < 2 ^ 62 ∧ R (Itc (a + (((b - a).toNat : Nat) : Int) - 1) (-1) (b - a).toNat) H1) : iRevR te σ H R := h
theorem r_rg1 {R : Int → Int → Hp → Prop} (h : tl σ H fun x H1 => ∃ n, x = .int n ∧ R 0 n H1) : tRg1 tl σ H R := h
theorem r_gtup {n : Nat} {ts : TGs} {v : V} {S : L2.St → Hp → Prop} (h : ∃ a xs, v = .ref a ∧ SqT K H a xs ∧ xs.length = n ∧ ts xs σ H S) : gTup K n ts v σ H S := h
theorem r_gtup1 {ts : TGs} {n : Nat} {S : L2.St → Hp → Prop} (e : SqT K H p xs) (l : xs.length = n) (h : ts xs σ H S) : gTup K n ts (.ref p) σ H S := ⟨p, xs, rfl, e, l, h⟩
theorem r_gcons {t : TG} {u : TGs} {v : V} {r : List V} {S : L2.St → Hp → Prop} (h : t v σ H fun σ' H' => u r σ' H' S) : gCons t u (v :: r) σ H S := ⟨v, r, rfl, h⟩
theorem r_gnil {S : L2.St → Hp → Prop} (h : S σ H) : gNil [] σ H S := ⟨rfl, h⟩
theorem r_tYes {R : Bool → Hp → Prop} (h : R true H) : tYes σ H R := h
theorem r_wipe {σ1 σ2 : L2.St} {v1 v2 : List Nat} {S : Prop} (e : wipe σ1 v1 = wipe σ2 v2) (h : S) : wipe σ1 v1 = wipe σ2 v2 ∧ S := ⟨e, h⟩
theorem lc_put {Bs Cs : List Blk} {p : Addr} {l : List V} {y : V} {S : Hp → Prop} (hb : HB H Bs) (pt : Put Bs p (.lst l) (.lst (l ++ [y])) Cs) (hz : l.length < sizeLine) (h : ∀ H', HB H' Cs → S H') : LcR p y H S := ⟨l, hb.at_put pt, hz, h _ (hb.put pt rfl rfl)⟩
theorem lc_w {J : It} {n : Nat} {G : Hp → Prop} {Y : Nat → Hp → V → Hp → Prop} (w : Walk J n G Y) {Bs : List Blk} (hb : HB H Bs) (Pv : Nat → Addr → Hp → Prop) (h0 : ∀ D H, HB H ([(D, .lst [])] :: Bs) → Pv 0 D H)
    (hG : ∀ i D H, i ≤ n → Pv i D H → G H) (hs : ∀ i x D H H', i < n → Pv i D H → Y i H x H' → g x (wipe σ vs) H' fun σ2 H2 => wipe σ2 vs = wipe σ vs ∧ tt σ2 H2 fun b H3 => if b = true then te σ2 H3 fun y H4 => LcR D y H4 (Pv (i + 1) D) else Pv (i + 1) D H3)
    (hd : ∀ D H, Pv n D H → Q (.ref D) H) : LcG J g tt te vs σ H Q := fun D hD =>
  lc_it w (Pv := fun i H => Pv i D H) (h0 D _ (hb.new hD)) (fun i H hi p => hG i D H hi p) (fun i x H H' hi p y => hs i x D H H' hi p y) fun H p => hd D H p
theorem for_w {J : It} {n : Nat} {G : Hp → Prop} {Y : Nat → Hp → V → Hp → Prop} (w : Walk J n G Y) (Pv : Nat → L2.St → Hp → Prop) (h0 : Pv 0 σ H) (hG : ∀ i σ H, i ≤ n → Pv i σ H → G H)
    (hs : ∀ i x σ H H', i < n → Pv i σ H → Y i H x H' → g x σ H' fun σ2 H2 => tb { D with nx := Pv (i + 1), ct := Pv (i + 1), bk := D.nx } σ2 H2) (hd : ∀ σ H, Pv n σ H → D.nx σ H) : ForG J g tb D σ H := for_it w Pv h0 hG hs hd
theorem r_all {a : Addr} {bs : List Bool} (e : SqL K H a (bs.map V.bl)) (h : Q (.bl (bs.all id)) H) : rAll K [.ref a] H Q := ⟨a, bs, rfl, e, h⟩
theorem r_sum {a : Addr} {ns : List Int} (e : SqL K H a (ns.map V.int)) (h : Q (.int ns.sum) H) : rSum K [.ref a] H Q := ⟨a, ns, rfl, e, h⟩
theorem sz100 {n : Nat} (h : n ≤ 100000) : n ≤ sizeLine := Nat.le_trans h (by decide)
theorem sz100' {n : Nat} (h : n ≤ 100000) : n < sizeLine := Nat.lt_of_le_of_lt h (by decide)
end
end Mk
namespace Mk
open L2 PySem PySem.Spec PyProof.Rows
/-! ### rules by values under names -/
def rLenC (K : PySem.W.Frag) : List V → Hp → VK → Prop := fun xs H Q => ∃ p ys, xs = [.ref p] ∧ (SqL K H p ys ∨ SqT K H p ys) ∧ Q (.int ys.length) H
def rLenDC : List V → Hp → VK → Prop := fun xs H Q => ∃ a kvs, xs = [V.ref a] ∧ H a = some (.dK kvs) ∧ Q (.int kvs.length) H
def rListC (K : PySem.W.Frag) : List V → Hp → VK → Prop := fun xs H Q => ∃ p ys, xs = [.ref p] ∧ (SqL K H p ys ∨ SqT K H p ys) ∧ ∀ l, H l = none → Q (.ref l) (upd H l (.lst ys))
def rDictDC : List V → Hp → VK → Prop := fun xs H Q => ∃ (a : Addr) (kvs : List (Key × V)), xs = [.ref a] ∧ Rd H a (.dK kvs) ∧ ∀ p, H p = none → Q (.ref p) (upd H p (.dK kvs))
def rInsC : V → List V → Hp → VK → Prop := fun x vs H Q => ∃ (l : Addr) (xs : List V) (i : Int) (y : V), x = .ref l ∧ vs = [.int i, y] ∧ H l = some (.lst xs) ∧ xs.length < sizeLine ∧ 0 ≤ i ∧ i < 2 ^ 63 ∧ Q .non (upd H l (.lst (xs.take i.toNat ++ [y] ++ xs.drop i.toNat)))
def rMax2C : List V → Hp → VK → Prop := fun xs H Q => ∃ i j, xs = [.int i, .int j] ∧ Q (.int (if j > i then j else i)) H
def rMin2C : List V → Hp → VK → Prop := fun xs H Q => ∃ i j, xs = [.int i, .int j] ∧ Q (.int (if j < i then j else i)) H
def rInt1C : List V → Hp → VK → Prop := fun xs H Q => (∃ i, xs = [.int i] ∧ Q (.int i) H) ∨ ∃ k, xs = [.bl k] ∧ Q (.int (if k then 1 else 0)) H
section
variable {X : Cx}
theorem call_lenC : CallR X (.builtin "len") (rLenC X.K) := call_len_seq
theorem call_lenDC : CallR X (.builtin "len") rLenDC := call_lenD
theorem call_listC : CallR X (.type "list") (rListC X.K) := call_list_of
theorem call_dictDC : CallR X (.type "dict") rDictDC := call_dictD
theorem mt_insertC : MtR X "list.insert" rInsC := mt_insert
theorem call_max2C (hc : X.calm = true) : CallR X (.builtin "max") rMax2C := call_max2 hc
theorem call_min2C (hc : X.calm = true) : CallR X (.builtin "min") rMin2C := call_min2 hc
theorem call_int1C : CallR X (.type "int") rInt1C := call_int1
end
section
variable {K : PySem.W.Frag} {H : Hp} {Q : VK} {p : Addr} {xs : List V} {i j : Int} {Bs Cs : List Blk} {y : V}
theorem r_lenL (e : SqL K H p xs) (h : Q (.int xs.length) H) : rLenC K [.ref p] H Q := ⟨p, xs, rfl, Or.inl e, h⟩
theorem r_lenT (e : SqT K H p xs) (h : Q (.int xs.length) H) : rLenC K [.ref p] H Q := ⟨p, xs, rfl, Or.inr e, h⟩
theorem r_lenD {kvs : List (Key × V)} (e : H p = some (.dK kvs)) (h : Q (.int kvs.length) H) : rLenDC [.ref p] H Q := ⟨p, kvs, rfl, e, h⟩
theorem r_listL (e : SqL K H p xs) (hb : HB H Bs) (h : ∀ q H', HB H' ([(q, .lst xs)] :: Bs) → Q (.ref q) H') : rListC K [.ref p] H Q := ⟨p, xs, rfl, Or.inl e, fun q hq => h q _ (hb.new hq)⟩
theorem r_dictD {kvs : List (Key × V)} (e : H p = some (.dK kvs)) (hb : HB H Bs) (h : ∀ q H', HB H' ([(q, .dK kvs)] :: Bs) → Q (.ref q) H') : rDictDC [.ref p] H Q := ⟨p, kvs, rfl, Or.inl e, fun q hq => h q _ (hb.new hq)⟩
theorem r_max2 (h : Q (.int (if j > i then j else i)) H) : rMax2C [.int i, .int j] H Q := ⟨i, j, rfl, h⟩
theorem r_min2 (h : Q (.int (if j < i then j else i)) H) : rMin2C [.int i, .int j] H Q := ⟨i, j, rfl, h⟩
theorem r_int1 (h : Q (.int i) H) : rInt1C [.int i] H Q := Or.inl ⟨i, rfl, h⟩
theorem r_int1b {k : Bool} (h : Q (.int (if k then 1 else 0)) H) : rInt1C [.bl k] H Q := Or.inr ⟨k, rfl, h⟩
theorem r_slL {lo hi : Option Int} (e : SqL K H p xs) (hb : HB H Bs) (h : ∀ q H', HB H' ([(q, .lst (cutV xs lo hi))] :: Bs) → Q (.ref q) H') : rSlL K (.ref p) lo hi H Q := ⟨p, xs, rfl, e, fun q hq => h q _ (hb.new hq)⟩
theorem r_reverse (hb : HB H Bs) (pt : Put Bs p (.lst xs) (.lst xs.reverse) Cs) (h : ∀ H', HB H' Cs → Q .non H') : rReverse (.ref p) [] H Q := ⟨p, xs, rfl, rfl, hb.at_put pt, h _ (hb.put pt rfl rfl)⟩
theorem r_extend {q : Addr} {zs : List V} (hb : HB H Bs) (e : H q = some (.lst zs)) (pt : Put Bs p (.lst xs) (.lst (xs ++ zs)) Cs) (l : xs.length + zs.length ≤ sizeLine) (h : ∀ H', HB H' Cs → Q .non H') : rExtend (.ref p) [.ref q] H Q := ⟨p, q, xs, zs, rfl, rfl, hb.at_put pt, e, l, h _ (hb.put pt rfl rfl)⟩
theorem r_cat {q : Addr} {zs : List V} (hb : HB H Bs) (e1 : H p = some (.lst xs)) (e2 : H q = some (.lst zs)) (l : xs.length + zs.length ≤ sizeLine) (h : ∀ r H', HB H' ([(r, .lst (xs ++ zs))] :: Bs) → Q (.ref r) H') : rCat (.ref p) (.ref q) H Q := ⟨p, q, xs, zs, rfl, rfl, e1, e2, l, fun r hr => h r _ (hb.new hr)⟩
theorem r_isN {v : V} (h : Q (.bl (decide (v = .non))) H) : (fun x y H Q => y = V.non ∧ Q (.bl (decide (x = .non))) H : R2) v .non H Q := ⟨rfl, h⟩
end
end Mk
namespace Mk
open L2 PySem PySem.Spec PyProof.Rows
/-! ### a def called through its class -/
def basOk (K : PySem.W.Frag) (p : Str × Str) : Bool := PySem.W.readsIn K (He.ga K p.1) (.type "type") && (decide (PySem.W.specialIn K (.ref (He.ga K p.1)) "__getattribute__" = some (some (.builtin "type.__getattribute__"))) &&
  (match PySem.W.findCls K (.ref (He.ga K p.1)) (.type "type") p.2 with
    | some (.val (.ref f)) => decide (f = He.ma K (He.ga K p.1) p.2) && PySem.W.keepIn K (.ref f)
    | _ => false))
structure Bas (K : PySem.W.Frag) (C : Addr) (m : Str) (f : Addr) : Prop where
  rd : PySem.W.readsIn K C (.type "type") = true
  ga : PySem.W.specialIn K (.ref C) "__getattribute__" = some (some (.builtin "type.__getattribute__"))
  at_ : PySem.W.findCls K (.ref C) (.type "type") m = some (.val (.ref f))
  kp : PySem.W.keepIn K (.ref f) = true
theorem bas_ok {K : PySem.W.Frag} {x m : Str} (c : basOk K (x, m) = true) : Bas K (He.ga K x) m (He.ma K (He.ga K x) m) := by
  obtain ⟨c1, c⟩ := He.ba c
  obtain ⟨c2, c3⟩ := He.ba c
  have c3' : (match PySem.W.findCls K (.ref (He.ga K x)) (.type "type") m with
    | some (.val (.ref f)) => decide (f = He.ma K (He.ga K x) m) && PySem.W.keepIn K (.ref f)
    | _ => false) = true := c3
  split at c3'
  · rename_i f hf
    obtain ⟨d1, d2⟩ := He.ba c3'
    have := of_decide_eq_true d1
    subst this
    exact ⟨c1, of_decide_eq_true c2, hf, d2⟩
  · cases c3'
/-- C.m of the text, called through the class -/
def BF (P : Program) (w : World) (K : PySem.W.Frag) (mg : Str → Option Value) (base : Heap) (CX : CXT) (x : Str) (C : Addr) (m : Str) (ps : List Str) (k : Nat) (sp : Sp) : Prop := mg x = some (.ref C) ∧ ∃ f fd, Bas K C m f ∧ Binds K fd ps [] ∧ FnOk P w K mg base CX k f fd ps sp
section
variable {X : Cx} {CX : CXT} {k : Nat} {C : Addr} {ps : List Str} {sp : Sp} {E : XK} {x m : Str} {p pos apos : Pos} {e : Expr} {es : List Expr} {t : TA}
theorem pe_base {pl : Sem Bool} (c : BF X.prog X.w X.K X.mg X.base CX x C m ps k sp) (hr : Room k X.A) (hg : Gl X x) (hx : Passes CX X E) (ha : PA X (e :: es) t) (hdb : (x == ("__debug__" : Str)) = false := by decide)
    (hst : starEach (e :: es) X.env = (false, eval e X.env) :: starEach es X.env := by rfl) (hpl : (backTo pos (starEach es X.env)).any (·.1) = false := by rfl)
    (ht : eval (.Call (.Attribute (.Name x p) m apos) (e :: es) [] pos) X.env = (do
      let ov ← eval (.Name x p) X.env
      standAt apos.atName
      let (f, first) ← holding [ov] (getMethod ov m pl)
      callWith pos f first (backTo pos (starEach (e :: es) X.env)) (backToKw pos (keywordEach [] X.env))) := by rfl) :
    PE X (.Call (.Attribute (.Name x p) m apos) (e :: es) [] pos) (tCallC sp E t) := by
  obtain ⟨hm, f, fd, hb, hbi, F⟩ := c
  refine ⟨fun pins s σ H Q I h => ?_⟩
  have hn : PE X (.Name x p) (tC (.ref C)) := pe_glob hg hm rfl hdb
  refine PySem.W.methodCall_KW (pl := pl) (thn (hn.run pins s σ H (fun y H1 => y = .ref C ∧ H1 = H) I ⟨rfl, rfl⟩) fun u s1 ⟨y, H1, I1, ry, ey, eh⟩ => ?_) ht
  subst ey
  subst eh
  obtain rfl : u = Value.ref C := ry
  refine PySem.W.method_cls I1.kIn hb.ga (PySem.W.cls_value I1.kIn hb.rd hb.at_ (handed_of (v := .ref f) rfl) ?_)
  have I2 := I1.tok (s1.toks + 1)
  refine PySem.W.callWith_K (first := []) (h₀ := X.base) I.ok.mod.kin hb.kp (thn (ha.run pos pins _ σ H1 _ I2 h) fun us s2 ⟨vs, H2, I3, r, q2⟩ => ⟨I3.kIn, ?_⟩) hst hpl
  refine run_fn (us := us) (vs := vs) (dvs := []) (ds := []) F hr hbi .nil hx I3 r ?_
  rw [List.append_nil]
  exact q2
end
end Mk

/-! B1: lists by a function, blocks by a function; the tree's block -/
namespace Mk
open L2 PySem PySem.Spec PyProof.Rows
def rm (n : Nat) (f : Nat → V) : List V := (List.range n).map f
theorem rm_len {n : Nat} {f : Nat → V} : (rm n f).length = n := by unfold rm; simp
theorem rm_get {n i : Nat} {f : Nat → V} (h : i < n) : (rm n f)[i]? = some (f i) := by
  unfold rm
  rw [List.getElem?_map, List.getElem?_range h]
  rfl
theorem atI_rm {n i : Nat} {f : Nat → V} (h : i < n) : atI (rm n f) (i : Int) = some (f i) := atI_nat (rm_get h)
theorem rm_succ {n : Nat} {f : Nat → V} : rm (n + 1) f = rm n f ++ [f n] := by
  unfold rm
  rw [List.range_succ, List.map_append]
  rfl
theorem rm_congr {n : Nat} {f g : Nat → V} (h : ∀ i, i < n → f i = g i) : rm n f = rm n g := by
  unfold rm
  exact List.map_congr_left fun i hi => h i (List.mem_range.mp hi)
theorem atI_rm_last {n : Nat} {f : Nat → V} : atI (rm (n + 1) f) (-1) = some (f n) := by
  rw [rm_succ]
  exact atI_last _ _
theorem rm_one {f : Nat → V} : rm 1 f = [f 0] := rfl
def iv (xs : List Nat) : List V := xs.map fun (n : Nat) => V.int (n : Int)
theorem iv_len {xs : List Nat} : (iv xs).length = xs.length := by unfold iv; simp
theorem iv_get {xs : List Nat} {i : Nat} {y : Nat} (h : xs[i]? = some y) : (iv xs)[i]? = some (.int (y : Int)) := by
  unfold iv
  rw [List.getElem?_map, h]
  rfl
theorem atI_iv {xs : List Nat} {i y : Nat} (h : xs[i]? = some y) : atI (iv xs) (i : Int) = some (.int (y : Int)) := atI_nat (iv_get h)
theorem iv_append {xs ys : List Nat} : iv (xs ++ ys) = iv xs ++ iv ys := by unfold iv; simp
theorem iv_ints {xs : List Nat} : iv xs = (xs.map fun (n : Nat) => (n : Int)).map V.int := by unfold iv; rw [List.map_map]; rfl
theorem rm_iv {n : Nat} {f : Nat → Nat} : rm n (fun i => .int (f i : Int)) = iv ((List.range n).map f) := by
  unfold rm iv
  rw [List.map_map]
  rfl
/-! ### blocks by a function -/
def rc (n : Nat) (g : Nat → Addr) (o : Nat → HO) : Blk := (List.range n).map fun i => (g i, o i)
theorem rc_mem {n i : Nat} {g : Nat → Addr} {o : Nat → HO} (h : i < n) : (g i, o i) ∈ rc n g o := List.mem_map.mpr ⟨i, List.mem_range.mpr h, rfl⟩
theorem rc_congr {n : Nat} {g g' : Nat → Addr} {o o' : Nat → HO} (h1 : ∀ i, i < n → g i = g' i) (h2 : ∀ i, i < n → o i = o' i) : rc n g o = rc n g' o' := by
  unfold rc
  refine List.map_congr_left fun i hi => ?_
  rw [h1 i (List.mem_range.mp hi), h2 i (List.mem_range.mp hi)]
theorem rc_succ {n : Nat} {g : Nat → Addr} {o : Nat → HO} : rc (n + 1) g o = rc n g o ++ [(g n, o n)] := by
  unfold rc
  rw [List.range_succ, List.map_append]
  rfl
/-- some blocks of a heap, in any order -/
inductive Sub : List Blk → List Blk → Prop
  | refl {L} : Sub L L
  | cons {Bs b L Ts} (t : Take Bs b L) (s : Sub L Ts) : Sub Bs (b :: Ts)
  | drop {c Bs Ts} (s : Sub Bs Ts) : Sub (c :: Bs) Ts
def fset {α : Type} (f : Nat → α) (n : Nat) (x : α) : Nat → α := fun i => if i = n then x else f i
theorem fset_same {α : Type} {f : Nat → α} {n : Nat} {x : α} : fset f n x n = x := by unfold fset; simp
theorem fset_lt {α : Type} {f : Nat → α} {n i : Nat} {x : α} (h : i < n) : fset f n x i = f i := by
  unfold fset
  rw [if_neg (by omega)]
section
variable {H : Hp} {Bs Cs L Ts : List Blk} {b c : Blk}
theorem HB.app (h : HB H ((b ++ c) :: L)) : HB H (b :: c :: L) := by
  unfold HB at *
  simp only [List.flatten_cons, List.append_assoc] at *
  exact h
theorem HB.unapp (h : HB H (b :: c :: L)) : HB H ((b ++ c) :: L) := by
  unfold HB at *
  simp only [List.flatten_cons, List.append_assoc] at *
  exact h
theorem HB.rm0 {D : Addr} {f : Nat → V} {g : Nat → Addr} {o : Nat → HO} (h : HB H ([(D, .lst [])] :: L)) : HB H ([(D, .lst (rm 0 f))] :: Mk.rc 0 g o :: L) := h
theorem HB.swap (h : HB H (b :: c :: L)) : HB H (c :: b :: L) := h.take (.next .here)
theorem HB.sub_of (h : HB H Bs) (s : Sub Bs Ts) : HB H Ts := by
  have key : ∀ {Bs Ts : List Blk}, Sub Bs Ts → ∀ {A : List Blk}, Hold H (A.flatten ++ Bs.flatten) → Hold H (A.flatten ++ Ts.flatten) := by
    intro Bs Ts s
    induction s with
    | refl => exact fun h => h
    | @cons Bs b L Ts t s ih =>
      intro A h
      have h2 : Hold H ((A ++ [b]).flatten ++ L.flatten) := by
        refine h.perm ?_
        simp only [List.flatten_append, List.flatten_cons, List.flatten_nil, List.append_nil, List.append_assoc]
        exact (t.perm).append_left _
      have h3 := ih h2
      simpa [List.flatten_append] using h3
    | @drop c Bs Ts s ih =>
      intro A h
      refine ih ?_
      refine ⟨fun x hx => h.at_ x ?_, ?_⟩
      · rcases List.mem_append.mp hx with hx | hx
        · exact List.mem_append_left _ hx
        · exact List.mem_append_right _ (by simp only [List.flatten_cons, List.mem_append]; exact Or.inr hx)
      · have nd := h.nd
        rw [mutA_append] at nd ⊢
        simp only [List.flatten_cons, mutA_append] at nd
        exact nd.sublist (List.Sublist.append (List.Sublist.refl _) (List.sublist_append_right _ _))
  have h' : Hold H Bs.flatten := h
  have := key s (A := []) (by simpa using h')
  show Hold H Ts.flatten
  simpa using this
theorem HB.rc (h : HB H Bs) {n i : Nat} {g : Nat → Addr} {o : Nat → HO} (hm : Mk.rc n g o ∈ Bs) (hi : i < n) : H (g i) = some (o i) := h.mem hm (rc_mem hi)
/-- a block by a function grows -/
theorem HB.rc_new {n : Nat} {g : Nat → Addr} {o o' : Nat → HO} {p : Addr} {u : HO} (h : HB H ([(p, u)] :: Mk.rc n g o :: L)) (h1 : ∀ i, i < n → o i = o' i) (h2 : o' n = u) : HB H (Mk.rc (n + 1) (fset g n p) o' :: L) := by
  have e : Mk.rc (n + 1) (fset g n p) o' = Mk.rc n g o ++ [(p, u)] := by
    rw [rc_succ, fset_same, h2]
    congr 1
    exact rc_congr (fun i hi => fset_lt hi) fun i hi => (h1 i hi).symm
  rw [e]
  exact h.swap.unapp
end
theorem r_rU {f : Int → V} {a : Int} {H : Hp} {Q : VK} (h : Q (f a) H) : rU f (.int a) H Q := ⟨a, rfl, h⟩
def rShrC : R2 := fun x y H Q => ∃ n k : Nat, x = .int (n : Int) ∧ y = .int (k : Int) ∧ Q (.int ((n / 2 ^ k : Nat) : Int)) H
def rOddC : R2 := fun x y H Q => ∃ n : Nat, x = .int (n : Int) ∧ y = .int 1 ∧ Q (.int ((n % 2 : Nat) : Int)) H
theorem op_shrC {X : Cx} : OpR X (binaryOp .RShift) rShrC := by
  intro pins s σ H x y v u Q I rx ry h
  obtain ⟨n, k, rfl, rfl, q⟩ := h
  refine op_shrN pins s σ H _ _ v u Q I rx ry ⟨_, k, rfl, rfl, ?_⟩
  have e : (n : Int) / 2 ^ k = ((n / 2 ^ k : Nat) : Int) := by norm_cast
  rw [e]
  exact q
theorem op_oddC {X : Cx} : OpR X (binaryOp .BitAnd) rOddC := op_odd
section
variable {K : PySem.W.Frag} {H : Hp} {Q : VK} {p : Addr} {v : V} {n k : Nat} {f : Nat → V} {xs : List Nat}
theorem r_shr (h : Q (.int ((n / 2 ^ k : Nat) : Int)) H) : rShrC (.int (n : Int)) (.int (k : Int)) H Q := ⟨n, k, rfl, rfl, h⟩
theorem r_odd (h : Q (.int ((n % 2 : Nat) : Int)) H) : rOddC (.int (n : Int)) (.int 1) H Q := ⟨n, rfl, rfl, h⟩
theorem r_isN1 (h : Q (.bl (decide (v = .non))) H) : rIsN v .non H Q := ⟨rfl, h⟩
theorem r_notN1 (h : Q (.bl (!decide (v = .non))) H) : rNotN v .non H Q := ⟨rfl, h⟩
theorem r_lenRm (e : SqL K H p (rm n f)) (h : Q (.int (n : Int)) H) : rLenC K [.ref p] H Q := r_lenL e (by rw [rm_len]; exact h)
theorem r_lenIv (e : SqL K H p (iv xs)) (h : Q (.int (xs.length : Int)) H) : rLenC K [.ref p] H Q := r_lenL e (by rw [iv_len]; exact h)
theorem rev_it (n : Nat) : Itc (0 + ((((n : Int) - 0).toNat : Nat) : Int) - 1) (-1) ((n : Int) - 0).toNat = Itc ((n : Int) - 1) (-1) n := by
  rw [Int.sub_zero, Int.toNat_natCast, Int.zero_add]
end
theorem walk_dn {n : Nat} : Walk (Itc ((n : Int) - 1) (-1) n) n (fun _ => True) (fun i H x H' => H' = H ∧ x = .int ((n - (i + 1) : Nat) : Int)) :=
  ⟨fun _ _ hi _ => hi, fun _ _ => Nat.le_refl _, fun i H x H' hi _ y => by
    obtain ⟨h1, h2⟩ := y
    refine ⟨h1, h2.trans ?_⟩
    congr 1
    omega⟩
theorem walk_r0 {n : Nat} : Walk (Itr 0 n) n (fun _ => True) (fun i H x H' => H' = H ∧ x = .int (i : Int)) :=
  ⟨fun _ _ hi _ => hi, fun _ _ => Nat.le_refl _, fun i H x H' hi _ y => by
    obtain ⟨h1, h2⟩ := y
    refine ⟨h1, h2.trans ?_⟩
    congr 1
    omega⟩
section
variable {X : Cx} {K : PySem.W.Frag}
theorem ix_listK (h : X.K = K) : IxR X (rIxL K) := h ▸ ix_list
theorem ix_tupK (h : X.K = K) : IxR X (rIxT K) := h ▸ ix_tup
theorem ix_seqK (h : X.K = K) : IxR X (rIx K) := h ▸ ix_seq
theorem sl_listK (h : X.K = K) : SlR X (rSlL K) := h ▸ sl_list
theorem sl_tupAK (h : X.K = K) : SlR X (rSlA K) := h ▸ sl_tupA
theorem op_in_seqK (h : X.K = K) : OpR X (compareOp .In) (rIn K false) := h ▸ op_in_seq
theorem op_notIn_seqK (h : X.K = K) : OpR X (compareOp .NotIn) (rIn K true) := h ▸ op_notIn_seq
theorem call_lenK (h : X.K = K) : CallR X (.builtin "len") (rLenC K) := h ▸ call_lenC
theorem call_listK (h : X.K = K) : CallR X (.type "list") (rListC K) := h ▸ call_listC
theorem call_isiK (h : X.K = K) : CallR X (.builtin "isinstance") (rIsi K) := h ▸ call_isi
theorem call_isiTK (h : X.K = K) : CallR X (.builtin "isinstance") (rIsiT K) := h ▸ call_isiT
theorem cr_sumK (hc : X.calm = true) (h : X.K = K) : CallR X (.builtin "sum") (rSum K) := h ▸ cr_sum hc
theorem cr_allK (hc : X.calm = true) (h : X.K = K) : CallR X (.builtin "all") (rAll K) := h ▸ cr_all hc
theorem cr_sortedIK (h : X.K = K) : CallR X (.builtin "sorted") (rSortedI K) := h ▸ cr_sortedI
theorem op_eqDK (hu : X.A.units + 64 < cLine) (h : X.K = K) : OpR X (compareOp .Eq) (rEqD K) := h ▸ op_eqD hu
theorem op_neDK (hu : X.A.units + 64 < cLine) (h : X.K = K) : OpR X (compareOp .NotEq) (rNeD K) := h ▸ op_neD hu
theorem pg_tupK {es : List Expr} {k : Nat} {t : TGs} {n : Nat} {pos : Pos} (hc : X.calm = true) (hK : X.K = K) (h : PGs X es t)
    (hn : (assignEach es X.env).length = n := by rfl) (hst : (assignEach es X.env).findIdx? (·.1) = none := by rfl) : PG X (.Tuple es k pos) (gTup K n t) := hK ▸ pg_tup hc h hn hst
end
theorem r_join {b : Bool} {t u : TS} {D : Ends} {σ : L2.St} {H : Hp} (M : L2.St → Hp → Prop) (hM : ∀ σ H, M σ H → D.nx σ H) (h : ∀ nx : L2.St → Hp → Prop, (∀ σ H, M σ H → nx σ H) → if b = true then t { D with nx := nx } σ H else u { D with nx := nx } σ H) : if b = true then t D σ H else u D σ H := h D.nx hM
theorem r_par {i j : Nat} {ta : TA} {D : Ends} {σ : L2.St} {H : Hp} (h : ta σ H fun vs H1 => ∃ v w, vs = [v, w] ∧ D.nx ((σ.set i (some v)).set j (some w)) H1) : tPar i j ta D σ H := h
theorem r_par1 {x y : V} {S : V → V → Prop} (h : S x y) : ∃ v w, [x, y] = [v, w] ∧ S v w := ⟨x, y, rfl, h⟩
theorem r_nn {v : V} {S : Prop} (h : S) : v = v ∧ S := ⟨rfl, h⟩
section
variable {K : PySem.W.Frag} {a : Addr} {n : Nat} {f : Nat → V} {xs : List Nat}
theorem walk_rm : Walk (Itl K a) n (fun H => SqL K H a (rm n f)) (fun i H x H' => H' = H ∧ x = f i) := by
  have w := walk_list (K := K) (a := a) (xs := rm n f)
  rw [rm_len] at w
  refine ⟨w.1, w.2, fun i H x H' hi g y => ?_⟩
  obtain ⟨h1, h2⟩ := w.3 i H x H' hi g y
  rw [rm_get hi] at h2
  exact ⟨h1, (Option.some.inj h2).symm⟩
theorem walk_iv : Walk (Itl K a) xs.length (fun H => SqL K H a (iv xs)) (fun i H x H' => H' = H ∧ ∃ y, xs[i]? = some y ∧ x = .int (y : Int)) := by
  have w := walk_list (K := K) (a := a) (xs := iv xs)
  rw [iv_len] at w
  refine ⟨w.1, w.2, fun i H x H' hi g y => ?_⟩
  obtain ⟨h1, h2⟩ := w.3 i H x H' hi g y
  have e : xs[i]? = some xs[i] := List.getElem?_eq_getElem hi
  rw [iv_get e] at h2
  exact ⟨h1, _, e, (Option.some.inj h2).symm⟩
end
theorem putF_nil {f : Str} {v : V} : putF f v [] = [(f, v)] := rfl
theorem putF_hit {f : Str} {v x : V} {r : List (Str × V)} : putF f v ((f, x) :: r) = (f, v) :: r := by
  unfold putF
  rw [if_pos rfl]
theorem putF_skip {f g : Str} {v x : V} {r r' : List (Str × V)} (h : decide (g = f) = false) (e : putF f v r = r') : putF f v ((g, x) :: r) = (g, x) :: r' := by
  subst e
  show (if g = f then (g, v) :: r else (g, x) :: putF f v r) = _
  rw [if_neg (of_decide_eq_false h)]
/-! ### while -/
def WhR (Pv : Nat → L2.St → Hp → Prop) (m : Nat) (tb : TS) (D : Ends) (σ : L2.St) (H : Hp) : Prop := ∃ N : L2.St → Hp → Prop, (∀ σ' H', N σ' H' → ∃ m', m' < m ∧ Pv m' σ' H') ∧ tb { D with nx := N, ct := N, bk := D.nx } σ H
theorem r_wh {Pv : Nat → L2.St → Hp → Prop} {m : Nat} {tb : TS} {D : Ends} {σ : L2.St} {H : Hp} (h : tb { D with nx := fun σ' H' => ∃ m', m' < m ∧ Pv m' σ' H', ct := fun σ' H' => ∃ m', m' < m ∧ Pv m' σ' H', bk := D.nx } σ H) : WhR Pv m tb D σ H := ⟨_, fun _ _ q => q, h⟩
theorem while_w {c : TT} {tb : TS} {D : Ends} {σ : L2.St} {H : Hp} (Pv : Nat → L2.St → Hp → Prop) (m0 : Nat) (h0 : Pv m0 σ H) (hs : ∀ m σ H, Pv m σ H → c σ H fun b H1 => if b = true then WhR Pv m tb D σ H1 else D.nx σ H1) : tWhile c tb D σ H := ⟨Pv, ⟨m0, h0⟩, hs⟩
/-! ### the tree's block -/
def ov (T : Tre) : Nat → V := fun m => if m = 0 then .non else .int (par T m : Int)
def dv (T : Tre) : Nat → V := fun m => .int (dep T m : Int)
def lv (g : Nat → Addr) : Nat → V := fun m => .ref (g m)
def lo (T : Tre) : Nat → HO := fun m => .lst (iv (lp T m))
abbrev treeF (o d l : Addr) : List (Str × V) := [("owners", .ref o), ("depths", .ref d), ("leaping", .ref l)]
def treeB (C a dx o d l : Addr) (g : Nat → Addr) (T : Tre) : Blk := (a, .ins C dx (treeF o d l)) :: (o, .lst (rm (T.length + 1) (ov T))) :: (d, .lst (rm (T.length + 1) (dv T))) :: (l, .lst (rm (T.length + 1) (lv g))) :: rc (T.length + 1) g (lo T)
structure TreG (T : Tre) : Prop where
  ok : TreOk T
  le : T.length < 64
def Tree (C a : Addr) (T : Tre) (b : Blk) : Prop := TreG T ∧ ∃ dx o d l g, b = treeB C a dx o d l g T
section
variable {H : Hp} {L : List Blk} {C a dx o d l : Addr} {g : Nat → Addr} {T : Tre} {b : Blk}
theorem tree_open (h : HB H (treeB C a dx o d l g T :: L)) : HB H ([(a, .ins C dx (treeF o d l))] :: [(o, .lst (rm (T.length + 1) (ov T)))] :: [(d, .lst (rm (T.length + 1) (dv T)))] :: [(l, .lst (rm (T.length + 1) (lv g)))] :: rc (T.length + 1) g (lo T) :: L) := h
theorem tree_close (h : HB H ([(a, .ins C dx (treeF o d l))] :: [(o, .lst (rm (T.length + 1) (ov T)))] :: [(d, .lst (rm (T.length + 1) (dv T)))] :: [(l, .lst (rm (T.length + 1) (lv g)))] :: rc (T.length + 1) g (lo T) :: L)) : HB H (treeB C a dx o d l g T :: L) := h
theorem tree_close1 {c : Blk} (h : HB H (c :: [(a, .ins C dx (treeF o d l))] :: [(o, .lst (rm (T.length + 1) (ov T)))] :: [(d, .lst (rm (T.length + 1) (dv T)))] :: [(l, .lst (rm (T.length + 1) (lv g)))] :: rc (T.length + 1) g (lo T) :: L)) : HB H (c :: treeB C a dx o d l g T :: L) := h
/-- a copied tree -/
theorem tree_put {c : List Blk} (h : HB H ([(a, .ins C dx (treeF o d l))] :: [(o, .lst (rm (T.length + 1) (ov T)))] :: [(d, .lst (rm (T.length + 1) (dv T)))] :: [(l, .lst (rm (T.length + 1) (lv g)))] :: rc (T.length + 1) g (lo T) :: c)) : HB H (treeB C a dx o d l g T :: c) := h
theorem tree_new {p2 : Addr} (h : HB H ([(a, .ins C dx (treeF o d l))] :: [(o, .lst [.non])] :: [(d, .lst [.int 0])] :: [(l, .lst [.ref p2])] :: [(p2, .lst [])] :: L)) : HB H (treeB C a dx o d l (fun _ => p2) [] :: L) := by
  have e1 : rm (([] : Tre).length + 1) (dv []) = [.int 0] := by
    show [dv [] 0] = _
    unfold dv
    rw [dep_zero]
    rfl
  have e2 : lo [] 0 = .lst [] := by
    unfold lo lp nlp
    rw [dep_zero]
    rfl
  refine tree_close ?_
  rw [e1]
  have e3 : rc (([] : Tre).length + 1) (fun _ => p2) (lo []) = [(p2, .lst [])] := by
    show [(p2, lo [] 0)] = _
    rw [e2]
  rw [e3]
  exact h
theorem tree_lp {Bs : List Blk} {n i : Nat} (h : HB H Bs) (hm : rc n g (lo T) ∈ Bs) (hi : i < n) : H (g i) = some (.lst (iv (lp T i))) := h.rc (o := lo T) hm hi
theorem atI_dv {n m : Nat} (h : m < n) : atI (rm n (dv T)) (m : Int) = some (.int (dep T m : Nat)) := atI_rm h
theorem atI_lv {n m : Nat} (h : m < n) : atI (rm n (lv g)) (m : Int) = some (.ref (g m)) := atI_rm h
theorem atI_ov {n m : Nat} (h : m < n) (h0 : 0 < m) : atI (rm n (ov T)) (m : Int) = some (.int (par T m : Nat)) := by
  rw [atI_rm h]
  unfold ov
  rw [if_neg (by omega)]
theorem atI_lp {j m : Nat} (h : 2 ^ j ≤ dep T m) : atI (iv (lp T m)) (j : Int) = some (.int (anc T (2 ^ j) m : Nat)) := atI_iv (lp_get h)
theorem atI_lastOf {xs : List Nat} {y : Nat} (h : xs.getLast? = some y) : atI (iv xs) (-1) = some (.int (y : Int)) := by
  obtain ⟨zs, rfl⟩ := List.getLast?_eq_some_iff.mp h
  rw [iv_append]
  exact atI_last _ _
theorem cut_from {xs : List V} {k : Nat} (h : k ≤ xs.length) : cutV xs (some (k : Int)) none = xs.drop k := by
  unfold cutV
  have e1 : HT.sIx xs.length 0 (some (k : Int)) = k := by
    unfold HT.sIx
    simp
    have : ¬ (k : Int) < 0 := by omega
    rw [if_neg this]
    omega
  have e2 : HT.sIx xs.length xs.length none = xs.length := rfl
  rw [e1, e2, List.take_of_length_le (by rw [List.length_drop]; exact Nat.le_refl _)]
theorem cut_iv {xs : List Nat} {k : Nat} (h : k ≤ xs.length) : cutV (iv xs) (some (k : Int)) none = iv (xs.drop k) := by
  rw [cut_from (by rw [iv_len]; exact h)]
  unfold iv
  rw [List.map_drop]
theorem iv_rev {xs : List Nat} : (iv xs).reverse = iv xs.reverse := by
  unfold iv
  rw [List.map_reverse]
/-- the line, upwards -/
def upl (T : Tre) (m j : Nat) : List Nat := (List.range (j + 1)).map fun i => anc T i m
theorem upl_len {m j : Nat} : (upl T m j).length = j + 1 := by unfold upl; simp
theorem upl_zero {m : Nat} : upl T m 0 = [m] := rfl
theorem upl_succ {m j : Nat} : upl T m (j + 1) = upl T m j ++ [anc T (j + 1) m] := by
  unfold upl
  rw [List.range_succ, List.map_append]
  rfl
theorem upl_last {m j : Nat} : atI (iv (upl T m j)) (-1) = some (.int (anc T j m : Nat)) := by
  cases j with
  | zero => exact atI_last [] _
  | succ j =>
    rw [upl_succ, iv_append]
    exact atI_last _ _
theorem upl_line {m : Nat} : (iv (upl T m (dep T m))).reverse = iv (lineT T m) := by
  rw [lineT_anc]
  unfold iv upl
  rw [List.map_reverse]
theorem ov_non {m : Nat} : (decide (ov T m = .non)) = decide (m = 0) := by
  unfold ov
  by_cases h : m = 0
  · simp [h]
  · simp [h]
theorem ov_pos {m : Nat} (h : 0 < m) : ov T m = .int (par T m : Nat) := by
  unfold ov
  rw [if_neg (by omega)]
theorem ov_snoc {m x : Nat} (h : m ≤ T.length) : ov (T ++ [x]) m = ov T m := by
  unfold ov
  rw [par_snoc h]
theorem dv_snoc {m x : Nat} (h : m ≤ T.length) : dv (T ++ [x]) m = dv T m := by
  unfold dv
  rw [dep_snoc h]
theorem lo_snoc {m x : Nat} (h : m ≤ T.length) : lo (T ++ [x]) m = lo T m := by
  unfold lo
  rw [lp_snoc h]
theorem ov_new {x : Nat} (h : x ≤ T.length) : ov (T ++ [x]) (T.length + 1) = .int (x : Int) := by
  unfold ov
  rw [if_neg (by omega), par_new h]
theorem dv_new {x : Nat} (h : x ≤ T.length) : dv (T ++ [x]) (T.length + 1) = .int ((dep T x : Int) + 1) := by
  unfold dv
  rw [dep_new h]
  rfl
theorem ow_snoc {x : Nat} (h : x ≤ T.length) : rm (T.length + 1) (ov T) ++ [.int (x : Int)] = rm ((T ++ [x]).length + 1) (ov (T ++ [x])) := by
  rw [show (T ++ [x]).length + 1 = T.length + 1 + 1 by simp, rm_succ (n := T.length + 1), ov_new h]
  congr 1
  exact rm_congr fun i hi => (ov_snoc (by omega)).symm
theorem de_snoc {x : Nat} (h : x ≤ T.length) : rm (T.length + 1) (dv T) ++ [.int ((dep T x : Int) + 1)] = rm ((T ++ [x]).length + 1) (dv (T ++ [x])) := by
  rw [show (T ++ [x]).length + 1 = T.length + 1 + 1 by simp, rm_succ (n := T.length + 1), dv_new h]
  congr 1
  exact rm_congr fun i hi => (dv_snoc (by omega)).symm
theorem lv_snoc {n : Nat} {p : Addr} : rm n (lv g) ++ [.ref p] = rm (n + 1) (lv (fset g n p)) := by
  rw [rm_succ]
  unfold lv
  rw [fset_same]
  congr 1
  exact rm_congr fun i hi => by rw [fset_lt hi]
theorem le_snoc {x : Nat} {p : Addr} : rm (T.length + 1) (lv g) ++ [.ref p] = rm ((T ++ [x]).length + 1) (lv (fset g (T.length + 1) p)) := by
  rw [show (T ++ [x]).length + 1 = T.length + 1 + 1 by simp, rm_succ (n := T.length + 1)]
  unfold lv
  rw [fset_same]
  congr 1
  exact rm_congr fun i hi => by rw [fset_lt hi]
theorem TreG.snoc (h : TreG T) {x : Nat} (hx : x ≤ T.length) (hl : T.length < 63) : TreG (T ++ [x]) := ⟨h.ok.snoc hx, by simp; omega⟩
/-- the leaps laid so far -/
def fdl (T : Tre) (m j : Nat) : List Nat := (List.range (j + 1)).map fun i => anc T (2 ^ i - 1) m
theorem fdl_len {m j : Nat} : (fdl T m j).length = j + 1 := by unfold fdl; simp
theorem fd_zero {m : Nat} : fdl T m 0 = [m] := rfl
theorem fd_succ {m j : Nat} : fdl T m (j + 1) = fdl T m j ++ [anc T (2 ^ (j + 1) - 1) m] := by
  unfold fdl
  rw [List.range_succ, List.map_append]
  rfl
theorem fdl_last {m j : Nat} : atI (iv (fdl T m j)) (-1) = some (.int (anc T (2 ^ j - 1) m : Nat)) := by
  cases j with
  | zero => exact atI_last [] _
  | succ j =>
    rw [fd_succ, iv_append]
    exact atI_last _ _
theorem fd_step {m j : Nat} : anc T (2 ^ j) (anc T (2 ^ j - 1) m) = anc T (2 ^ (j + 1) - 1) m := by
  have := Nat.two_pow_pos j
  rw [← anc_add, show 2 ^ j + (2 ^ j - 1) = 2 ^ (j + 1) - 1 by omega]
theorem fd_new {x j : Nat} (h : x ≤ T.length) (h1 : 2 ^ j ≤ dep T x + 1) (h2 : nlp T (anc T (2 ^ j - 1) x) ≤ j) : fdl T x j = lp (T ++ [x]) (T.length + 1) := by
  rw [lp_new h]
  unfold fdl
  have e : nlp (T ++ [x]) (T.length + 1) = j + 1 := by
    have hd := dep_new (T := T) h
    have a1 : j < nlp (T ++ [x]) (T.length + 1) := lt_nlp.mpr (by rw [hd]; exact h1)
    have a2 : ¬ j + 1 < nlp (T ++ [x]) (T.length + 1) := fun z => by
      have z1 := lt_nlp.mp z
      rw [hd] at z1
      have z2 : ¬ j < nlp T (anc T (2 ^ j - 1) x) := by omega
      rw [lt_nlp, dep_anc] at z2
      omega
    omega
  rw [e]
theorem lo_new {x j : Nat} (h : x ≤ T.length) (h1 : 2 ^ j ≤ dep T x + 1) (h2 : nlp T (anc T (2 ^ j - 1) x) ≤ j) : lo (T ++ [x]) (T.length + 1) = .lst (iv (fdl T x j)) := by
  unfold lo
  rw [fd_new h h1 h2]
end
end Mk

/-! B2: defs that are entered with no repr under way; repr of what is deep -/
namespace Mk
open L2 PySem PySem.Spec PyProof.Rows
/-- like FnOk, where no repr is under way -/
structure FnG (P : Program) (w : World) (K : PySem.W.Frag) (mg : Str → Option Value) (base : Heap) (CX : CXT) (k : Nat) (f : Addr) (fd : FuncData) (ps : List Str) (sp : Sp) : Prop where
  len : ∀ vs H Q E, sp vs H Q E → vs.length = ps.length
  go : ∀ (A : Around), A.guards = some [] → ∀ (outer : List Env) (s : Shared) (H : Hp) (args : Args) (us : List Value) (vs : List V) (Q : VK) (E : XK), Room k A → Env0 P w K mg base A outer s H →
    BindsTo s fd args (ps.zip us) → Vals vs us → sp vs H Q E → codeAny (model P w) A (.call (.ref f) args) (CR CX outer P w H s Q E) s
section
variable {P : Program} {w : World} {K : PySem.W.Frag} {mg : Str → Option Value} {base : Heap} {CX : CXT} {k : Nat} {f : Addr} {fd : FuncData} {ps : List Str} {sp : Sp}
theorem FnG.of (F : FnOk P w K mg base CX k f fd ps sp) : FnG P w K mg base CX k f fd ps sp := ⟨F.len, fun A _ outer s H args us vs Q E => F.run A outer s H args us vs Q E⟩
theorem okG {x qual : Str} {params : Arguments} {body : List Stmt} {scope : Scope} {dvs : List V} {kws : List (Str × V)} {N : List Str} (D : FunD K x qual params body scope dvs kws f fd) (S : FnScope N ps scope)
    (hlen : ∀ vs H Q E, sp vs H Q E → vs.length = ps.length)
    (walk : ∀ (cdv : Value) (A : Around) (outer : List Env) (s : Shared) (H : Hp) (vs : List V) (Q : VK) (E : XK), A.guards = some [] → Room k (A.deeper (envOfC qual scope s.heap.objs.size f cdv)) → sp vs H Q E →
      ∃ t, PSs (cxOf CX P w K mg base N qual scope f cdv A outer s H E) body t ∧ t { nx := fun _ H1 => Q .non H1, rt := Q } (L2.start N vs) H) : FnG P w K mg base CX (k + 1) f fd ps sp := by
  obtain ⟨oc, od, dV, kV, doc, pm, an, cdv, ct, osl, rfl, look, code, _, _⟩ := D.ex
  constructor
  · exact hlen
  intro A gA outer s H args us vs Q E room env bind vals want
  have old : ∀ b o, base.get? b = some o → s.heap.get? b = some o := fun b o z => (env.bs b o z).1
  have kin : K.In s.heap := env.mod.kin.keeps old
  have free : s.heap.NoLimit := env.mod.nolimit.keeps old
  have many : vs.length = ps.length := hlen _ _ _ _ want
  have slots : ∀ y ∈ ps.zip us, scope.names.lookup y.1 = some .local ∨ (scope.names.lookup y.1 = some .cell ∧ ((cellsFrom (s.heap.objs.size + 1) scope.names []).lookup y.1).isSome = true) := by
    rintro ⟨n, v⟩ hy
    have hn := S.par n (List.of_mem_zip hy).1
    exact hn.imp id fun z => ⟨z, PySem.W.cellsFrom_some _ _ _ (Or.inl z)⟩
  apply codeAny_call_function room.depth (kin _ _ look) rfl S.co S.gen rfl (PySem.W.codeRec_of kin code)
  apply bind
  apply wpAny_newFunctionEnv_cells S.kind slots
  rintro env1 rfl s1 x
  refine ⟨free.keeps x.toInCall.keep, codeAny_func ?_⟩
  obtain ⟨t, ht, hq⟩ := walk cdv A outer s H vs Q E gA (room.deeper _) want
  have begun := inv_start (CX := CX) (E := E) S room.hd env many vals x
  apply wpAny_mono (ht.run [] s1 (L2.start N vs) H _ begun hq)
  · rintro (u | _ | _ | _) s2 hs
    all_goals first
      | (obtain ⟨σ2, H2, J, q⟩ := hs; exact ⟨V.non, H2, J.os, J.bare, J.base, J.hok, rfl, q⟩)
      | (obtain ⟨v, σ2, H2, J, rv, q⟩ := hs; exact ⟨v, H2, J.os, J.bare, J.base, J.hok, rv, q⟩)
      | (obtain ⟨_, _, _, q⟩ := hs; exact q.elim)
  · exact fun e s2 hs => hs
end
def CG (P : Program) (w : World) (K : PySem.W.Frag) (mg : Str → Option Value) (base : Heap) (CX : CXT) (x : Str) (ps : List Str) (k : Nat) (sp : Sp) : Prop := ∃ f fd, mg x = some (.ref f) ∧ PySem.W.keepIn K (.ref f) = true ∧ Binds K fd ps [] ∧ FnG P w K mg base CX k f fd ps sp
section
variable {X : Cx} {CX : CXT} {k : Nat} {ps : List Str} {sp : Sp} {E : XK} {x : Str} {p pos : Pos} {e : Expr} {es : List Expr} {t : TA}
theorem pe_callG (c : CG X.prog X.w X.K X.mg X.base CX x ps k sp) (gA : X.A.guards = some []) (hr : Room k X.A) (hg : Gl X x) (hx : Passes CX X E)
    (ha : PA X (e :: es) t) (hdb : (x == ("__debug__" : Str)) = false := by decide) (he : starEach (e :: es) X.env = (false, eval e X.env) :: starEach es X.env := by rfl) (hpl : (backTo pos (starEach es X.env)).any (·.1) = false := by rfl) :
    PE X (.Call (.Name x p) (e :: es) [] pos) (tCallC sp E t) := by
  obtain ⟨f, fd, hm, hk, hb, F⟩ := c
  constructor
  intro pins s σ H Q I h
  apply wpAny_Call_Name_kw (ld_glob I hg hm ?_ hdb)
  apply PySem.W.callWith_K (h₀ := X.base) I.ok.mod.kin hk ?_ he hpl
  apply thn (ha.run pos pins s σ H _ I h)
  rintro us s1 ⟨vs, H1, I1, r, q⟩
  refine ⟨I1.kIn, wpAny_call ?_⟩
  have hl : us.length = ps.length := by rw [← r.length]; exact F.len _ _ _ _ q
  have hb1 := hb s1 us I1.kIn (by rw [List.append_nil]; exact hl)
  rw [List.append_nil] at hb1
  apply codeAny_mono (F.go X.A gA X.stack s1 H1 ⟨us, []⟩ us vs Q E hr I1.env0 hb1 r q)
  intro res s2 z
  match res, z with
  | .error e, z => exact hx pins σ H1 s1 e s2 I1 z
  | .ok (.ret u), z => exact I1.after z
end
end Mk
namespace Mk
open L2 PySem PySem.Spec PyProof.Rows
/-- repr of lists and tuples, however deep -/
def rReprD (K : PySem.W.Frag) : List V → Hp → VK → Prop := fun xs H Q => ∃ (a : Addr) (d : PyData), xs = [.ref a] ∧ Dp K H (.ref a) d ∧ d.showable = true ∧ d.hasDict = false ∧ d.shown.length ≤ sizeLine ∧ d.depth ≤ 50 ∧ Q (.str d.shown) H
theorem call_reprD {X : Cx} {K : PySem.W.Frag} (hK : X.K = K) (gA : X.A.guards = some []) (hu : X.A.units + 64 < cLine) : CallR X (.builtin "repr") (rReprD K) := by
  subst hK
  rintro pins s σ H xs us Q I r ⟨a, d, rfl, hd, h1, h2, h3, h4, q⟩
  obtain rfl := Vals.ref1 r
  obtain ⟨as, rd⟩ := Dp.reads I d _ _ hd (show RelV (.ref a) (.ref a) from rfl)
  apply repr_of_reads' rd h1 (fun z => by rw [h2] at z; cases z) gA (by omega) (fun b o z => z) ?_ h3
  intro h u tk sub
  exact ⟨.str _, H, I.kept (h' := h) (t' := tk) sub, ⟨u, rfl⟩, q⟩
/-! ### the end of a law, no repr under way -/
section
variable {P : Program} {w : World} {K : PySem.W.Frag} {mg mb : Str → Option Value} {CX : CXT} {k : Nat} {f a : Addr} {fd : FuncData} {x : Str} {sp : Sp} {s : Shared} {vs : List Value} {ns : List Int}
theorem law_callG (kin : K.In s.heap) (nm : s.heap.Ns mainGlobals mg) (nb : s.heap.Ns builtinsNs mb) (boot : ∀ y : Str, y ≠ "__name__" → mb y = bootBuiltins y) (free : s.heap.NoLimit) (nog : s.gens = #[])
    (script : s.heap.get? a = some { cls := .type "list", data := .seq vs.toArray }) (allI : IntsAre vs ns) (few : ns.length ≤ sizeLine) (room : Room k callerA)
    (F : ∀ base : Heap, K.In base → base.Ns mainGlobals mg → FnG P w K mg base CX k f fd [x] sp) (bind : ∀ (s : Shared) (u : Value), BindsTo s fd ⟨[u], []⟩ [(x, u)])
    (want : ∀ H : Hp, Only H → SqL K H a (ns.map V.int) → sp [.ref a] H (fun v _ => v = .bl true) fun _ _ _ => False) (none_out : ∀ H e s', CX [] H s (fun _ _ _ => False) e s' → False) :
    codeAny (model P w) callerA (.call (.ref f) ⟨[.ref a], []⟩) (fun r s' => r = .ok (.ret (.bool true)) ∧ OldK s.heap s'.heap ∧ s'.os = s.os ∧ AllBare s'.gens) s := by
  have rel := vals_ints allI
  have long := allI.length
  generalize hob : ({ cls := .type "list", data := .seq vs.toArray } : Obj) = ob at script
  -- what is tracked: the script, where it is none of the module's own objects
  obtain ⟨H, hH⟩ : ∃ H : Hp, ∀ b, H b = if b = a ∧ K.lookup a = none then some (.frz ob (.lst (ns.map V.int))) else none := ⟨fun b => _, fun b => rfl⟩
  have two : ∀ b, H b = none ∨ (b = a ∧ K.lookup a = none ∧ H b = some (.frz ob (.lst (ns.map V.int)))) := fun b => by
    by_cases c : b = a ∧ K.lookup a = none
    · exact Or.inr ⟨c.1, c.2, (hH b).trans (if_pos c)⟩
    · exact Or.inl ((hH b).trans (if_neg c))
  have only : Only H := fun b => (two b).imp id fun z => ⟨ob, _, z.2.2⟩
  have sat : SqL K H a (ns.map V.int) := by
    cases e : K.lookup a with
    | none => exact Or.inl (Or.inr ⟨ob, (hH a).trans (if_pos ⟨rfl, e⟩)⟩)
    | some o =>
      have e2 := kin a o e
      rw [script] at e2
      obtain rfl : ob = o := Option.some.inj e2
      subst hob
      exact Or.inr ⟨_, vs.toArray, _, e, rfl, rfl, rfl, by rw [List.size_toArray, long]; exact few, by simpa using rel⟩
  have hok : HOk P w H s.heap := fun b u z => by
    rcases two b with n | ⟨rfl, _, n⟩
    · rw [n] at z; cases z
    · rw [n] at z
      obtain rfl := Option.some.inj z
      subst hob
      exact ⟨script, by rw [List.length_map]; exact few, vs, _, rel, script⟩
  have stay : ∀ {b : Addr} {o : Obj} {es : Array DictEntry} {ep : Nat}, s.heap.get? b = some o → o.data = .dict es ep → (hidT s.heap H).get? b = some o := fun {b o es ep} e d => by
    rcases two b with n | ⟨rfl, _, _⟩
    · exact hidT_get e n
    · rw [script] at e
      obtain rfl := Option.some.inj e
      subst hob
      cases d
  have ns_ : ∀ {b : Addr} {m : Str → Option Value}, s.heap.Ns b m → (hidT s.heap H).Ns b m := fun ⟨o, es, ep, e, d, r⟩ => ⟨o, es, ep, stay e d, d, r⟩
  have kin2 : K.In (hidT s.heap H) := fun b o e => by
    rcases two b with n | ⟨rfl, c, _⟩
    · exact hidT_get (kin b o e) n
    · rw [c] at e; cases e
  obtain ⟨mc, l1, l2⟩ := free
  have env : Env0 P w K mg (hidT s.heap H) callerA [] s H :=
    { frames := rfl, mod := ⟨kin2, ns_ nm, ⟨mb, ns_ nb, boot⟩, ⟨mc, ns_ l1, l2⟩⟩, bs := fun b o e => of_hidT e, bsz := Nat.le_of_eq (hidT_size _ _), funs := trivial, frf := (fun b z => nomatch z), hok := hok, bare := .of_eq nog }
  refine codeAny_mono ((F _ kin2 (ns_ nm)).go callerA rfl [] s H ⟨[.ref a], []⟩ [.ref a] [.ref a] _ _ room env (bind s _) (.cons rfl .nil) (want H only sat)) ?_
  intro res s2 z
  match res, z with
  | .error e, z => exact (none_out H e s2 z).elim
  | .ok (.ret u), ⟨v, H2, os, bare, un, hok2, rv, q⟩ =>
    obtain rfl : v = .bl true := q
    obtain rfl : u = Value.bool true := rv
    refine ⟨rfl, OldK.of_keep fun b o e => ?_, os, bare⟩
    rcases two b with n | ⟨rfl, _, n⟩
    · exact un.keep b o e n (fun z => nomatch z) (by simp)
    · have e1 := (hok b _ n).1
      have e2 := (hok2 b _ (un.frzs b ob _ n)).1
      rw [e1] at e
      obtain rfl := Option.some.inj e
      exact e2
end
theorem walk_ofG {l : PySem.W.OpenLaw} {n k : Nat} {q : Program} {loose : List Str} {XP : (Str → Option Value) → Heap → Prop} {YP : World → Heap → Prop} {d : DefRec} {CX : CXT} {x : Str}
    (hn : l.most = some n) (few : n ≤ sizeLine) (nodef : d.params.defaults = []) (room : Room k callerA)
    (F : ∀ (w : World) (mg : Str → Option Value) (f : Addr) (h : Heap), YP w h → h.Ns mainGlobals mg → mg d.name = some (.ref f) →
      ∃ (K : PySem.W.Frag) (fd : FuncData) (sp : Sp), K.In h ∧ (∀ (s : Shared) (u : Value), BindsTo s fd ⟨[u], []⟩ [(x, u)]) ∧
        (∀ (H : Hp) (a : Addr) (ns : List Int), ns.length ≤ n → Only H → SqL K H a (ns.map V.int) → sp [.ref a] H (fun v _ => v = .bl true) fun _ _ _ => False) ∧
        ∀ base : Heap, K.In base → base.Ns mainGlobals mg → FnG l.prog w K mg base CX k f fd [x] sp)
    (none_out : ∀ (H : Hp) (s : Shared) (e : Value) (s' : Shared), CX [] H s (fun _ _ _ => False) e s' → False) :
    PySem.W.WalkO q loose XP YP l.row.toRowW d [] (fun f vs => PySem.call f vs) := by
  apply Att.attach_call hn nodef
  intro w s₀ s mg mb f o pm cd doc a vs ns G Y _ _ _ named script allI most nog
  obtain ⟨K, fd, sp, kin, bind, want, hF⟩ := F w mg f _ Y G.T.g named
  exact law_callG kin G.T.g G.T.b G.T.builtins G.T.nolimit nog script allI (Nat.le_trans most few) room hF bind (fun H o z => want H a ns most o z) fun H e s2 => none_out H s e s2
end Mk

/-! B3: set(l) of a list of ints, sorted(set(l)) -/
namespace Mk
open L2 PySem PySem.Spec PyProof.Rows
abbrev emptyS (w : World) : Obj := { cls := .type "set", dict := none, data := .set #[] 0 (.fresh 0 0 (!w.params.followText "set-order")) }
section
variable {P : Program} {w : World} {A : Around} {E : Value → Shared → Prop} {s : Shared}
theorem set_of_list {l : Addr} {its : Array Value} (ns : List Int) {Q : Value → Shared → Prop} (cool : A.handled = none) (isL : s.heap.IsList l its) (allI : IntsAre its.toList ns) (few : ns.length + 1 < scanBound)
    (want : ∀ (h1 : Heap) (tk c : Nat) , L2.SetR w h1 s.heap.objs.size (fun j => decide (j ∈ ns)) c → c ≤ ns.length → (∀ b o, s.heap.get? b = some o → h1.get? b = some o) → Q (.ref s.heap.objs.size) { s with heap := h1, toks := tk }) :
    wpAny (model P w) A (call (.type "set") [.ref l]) Q E s := by
  have many : its.size = ns.length := by rw [← IntsAre.length allI, Array.length_toList]
  obtain ⟨c0, tl, hmro⟩ := F.called_set.mro
  obtain hmade := F.called_set.made
  obtain hsub := F.called_set.sub
  apply wpAny_call
  apply codeAny_of_tree
  show wpAny _ _ (callAny (.type "set") _) _ _ _
  apply wpAny_pure
  refine ⟨Code.quiet_builtin _ (by decide +kernel), codeAny_builtin F.entry_type_call ?_⟩
  rw [Around.under_plain (weight_type_call_type "set" [.ref l] []) rfl]
  obtain n1 := F.called_set.notType
  obtain n2 := F.called_set.canCreate
  obtain n3 := F.typeCall_set_1 (.ref l)
  repeat (any_goals (first | assumption | wp_step))
  apply codeAny_mono (code_set_led1 (.ref l) (E := E) (Q₁ := fun v s1 => v = .ref s.heap.objs.size ∧ s1 = { s with heap := s.heap.push (emptyS w) }) ⟨rfl, rfl⟩)
  intro r s1 hr
  match r, hr with
  | .error e, hr => exact hr
  | .ok (.ret v), hr =>
    obtain ⟨rfl, rfl⟩ := hr
    have new : (s.heap.push (emptyS w)).get? s.heap.objs.size = some (emptyS w) := Heap.get?_push_size _ rfl
    have ty : Shared.TypeIs { s with heap := s.heap.push (emptyS w) } (.ref s.heap.objs.size) "set" := ⟨_, new, rfl⟩
    obtain m1 := F.called_set.init.lookup
    obtain m2 := F.called_set.init.bind (.ref s.heap.objs.size)
    repeat (any_goals (first | assumption | wp_step))
    refine codeAny_mono (codeAny_call_builtin (R := wants (fun r s2 => r = .none ∧ ∃ h1 tk c, s2 = { s with heap := h1, toks := tk } ∧ (L2.SetR w h1 s.heap.objs.size (fun j => decide (j ∈ ns)) c ∧ c ≤ ns.length ∧
      ∀ b o, s.heap.get? b = some o → h1.get? b = some o)) E) F.called_set.init.plain F.entry_set_init (check_set_init_1 ty ?_)) ?_
    · obtain ⟨ol, hol, hcl, nl, hdl⟩ := isL
      obtain ⟨oc, od, oda, osl⟩ := ol
      simp only at hcl hdl
      subst hcl
      subst hdl
      have there : (s.heap.push (emptyS w)).get? l = some { cls := .type "list", dict := od, data := .seq its nl, slots := osl } := Heap.get?_push_of_some _ hol
      obtain u1 := F.sub_list_set
      obtain u2 := F.sub_list_frozenset
      have u3 : (Value.type "list" == Value.type "dict") = false := by decide
      have isL1 : (s.heap.push (emptyS w)).IsList l its := ⟨_, there, rfl, nl, rfl⟩
      unfold Builtin.«set.__init__» noKeywords Builtin.Frozenset.updateFrom
      generalize hPI : pyIter = PI
      wp_walk
      subst hPI
      apply wpAny_pyIter_list isL1
      apply wpAny_bind
      apply wpAny_runValue
      have before : l < s.heap.objs.size := Heap.lt_size hol
      have cool3 : A.in1.in1.in1.handled = none := by simp [cool]
      have apart : l ≠ (s.heap.push (emptyS w)).objs.size := by
        rw [Heap.size_push]
        exact Nat.ne_of_lt (Nat.lt_succ_of_lt before)
      have apart2 : s.heap.objs.size ∉ [(s.heap.push (emptyS w)).objs.size, l] := by
        rw [Heap.size_push]
        simp only [List.mem_cons, List.not_mem_nil, or_false, not_or]
        exact ⟨Nat.ne_of_lt (Nat.lt_succ_self _), (Nat.ne_of_lt before).symm⟩
      have vals : ∀ (i : Nat) (v : Value), its[i]? = some v → ∃ k t, ns[i]? = some k ∧ v = .int k t := fun i v hv => by
        have hi : i < ns.length := by rw [← many]; exact (Array.getElem?_eq_some_iff.mp hv).1
        obtain ⟨t, e⟩ := allI.int_at i v (by rw [Array.getElem?_toList]; exact hv)
        refine ⟨ns[i], t, List.getElem?_eq_getElem hi, e.trans ?_⟩
        rw [List.getD_eq_getElem?_getD, List.getElem?_eq_getElem hi] <;> rfl
      apply set_update_ints ((Walks.list cool3 _ l apart its).toS) s.heap.objs.size apart2 ns many few vals (its.size - 0) 0 _ (by omega) (Nat.zero_le _) ⟨⟨_, Heap.get?_push_size _ rfl, rfl, rfl⟩, (isL1.push _)⟩
      · exact ⟨0, Nat.le_refl 0, setR_new_at (Heap.get?_push_of_some _ new)⟩
      · rintro ⟨h1, g1, d1, t1, o1⟩ c hm hc hS
        obtain rfl : g1 = s.gens := hm.gens
        obtain rfl : d1 = s.drawn := hm.drawn
        obtain rfl : o1 = s.os := hm.os
        show wpAny _ _ _ _ _ _
        apply wpAny_pure
        show wpAny _ _ (ret Value.none) _ _ _
        apply wpAny_pure
        refine ⟨rfl, h1, t1, c, rfl, hS, Nat.le_trans hc (Nat.le_of_eq many), fun b o e => ?_⟩
        have lt := Heap.lt_size e
        refine hm.heap b o ?_ (Heap.get?_push_of_some _ (Heap.get?_push_of_some _ e))
        rw [Heap.size_push]
        simp only [List.mem_cons, List.not_mem_nil, or_false, not_or]
        exact ⟨Nat.ne_of_lt lt, Nat.ne_of_lt (Nat.lt_succ_of_lt lt)⟩
    · intro r2 s2 hr2
      match r2, hr2 with
      | .error e, hr2 => exact hr2
      | .ok (.ret v2), hr2 =>
        obtain ⟨rfl, h1, tk, c, rfl, hS, hc, hk⟩ := hr2
        repeat (any_goals (first | assumption | wp_step))
        exact want _ _ _ hS hc hk
end
end Mk
namespace Mk
open L2 PySem PySem.Spec PyProof.Rows
theorem few_of {l B : List Int} (nd : l.Nodup) (h : ∀ x ∈ l, x ∈ B) : l.length ≤ B.length := by
  induction l generalizing B with
  | nil => exact Nat.zero_le _
  | cons a l ih =>
    obtain ⟨n1, n2⟩ := List.nodup_cons.mp nd
    have ha := h a List.mem_cons_self
    have := ih (B := B.erase a) n2 fun x hx => (List.mem_erase_of_ne (fun z => n1 (by rw [← z]; exact hx))).mpr (h x (List.mem_cons_of_mem _ hx))
    rw [List.length_erase_of_mem ha] at this
    have := List.length_pos_of_mem ha
    rw [List.length_cons]
    omega
def rSetLI (K : PySem.W.Frag) (w : World) : List V → Hp → VK → Prop := fun xs H Q => ∃ (l : Addr) (ns : List Int), xs = [.ref l] ∧ SqL K H l (ns.map V.int) ∧ ns.length ≤ 1000 ∧
  ∀ (p : Addr) (c : Nat), (∀ B : List Int, (∀ k ∈ ns, k ∈ B) → c ≤ B.length) → H p = none → Q (.ref p) (upd H p (SetO w p (fun j => decide (j ∈ ns)) c))
theorem call_setL {X : Cx} {K : PySem.W.Frag} (cool : X.calm = true) (hK : X.K = K) : CallR X (.type "set") (rSetLI K X.w) := by
  subst hK
  rintro pins s σ H xs us Q I r ⟨l, ns, rfl, hl, few, q⟩
  obtain rfl := Vals.ref1 r
  obtain ⟨its, rv, pl, _⟩ := I.list hl
  apply set_of_list ns (I.ok.hd cool) pl.isList (by simpa using ints_of_vals rv) (by unfold scanBound; omega)
  intro h1 tk c R hc sub
  refine ⟨.ref s.heap.objs.size, _, I.laid (t' := tk) sub (Nat.le_refl _) (setO_new R), rfl, q _ c (fun B hB => ?_) (I.hok.fresh (Nat.le_refl _))⟩
  obtain ⟨o, es, ep, t, _, _, _, _, nd, mem, _, _, size, _, _⟩ := R
  have e : c = (es.toList.map keyOf).length := by rw [List.length_map, Array.length_toList, size]
  rw [e]
  exact few_of nd fun k hk => hB k (of_decide_eq_true ((mem k).mpr hk))
theorem r_setL {K : PySem.W.Frag} {w : World} {H : Hp} {Q : VK} {l : Addr} {ns : List Int} {Bs : List Blk} (e : SqL K H l (ns.map V.int)) (few : ns.length ≤ 1000) (hb : HB H Bs)
    (h : ∀ p c H', (∀ B : List Int, (∀ k ∈ ns, k ∈ B) → c ≤ B.length) → HB H' ([(p, SetO w p (fun j => decide (j ∈ ns)) c)] :: Bs) → Q (.ref p) H') : rSetLI K w [.ref l] H Q := ⟨l, ns, rfl, e, few, fun p c hc hp => h p c _ hc (hb.new hp)⟩
theorem r_sortedSet {w : World} {H : Hp} {Q : VK} {a : Addr} {S : Int → Bool} {n : Nat} {Bs : List Blk} (e : H a = some (SetO w a S n)) (few : n < 64) (hb : HB H Bs)
    (h : ∀ (ns : List Int) (p : Addr) (H' : Hp), ns.Pairwise (· < ·) → (∀ k : Int, k ∈ ns ↔ S k = true) → HB H' ([(p, .lst (ns.map V.int))] :: Bs) → Q (.ref p) H') : rSortedSet w [.ref a] H Q := ⟨a, S, n, rfl, e, few, fun ns p h1 h2 _ hp => h ns p _ h1 h2 (hb.new hp)⟩
end Mk

/-! M2: the last make on a line that wrote in a stretch; parts that point to one another. Plain Lean. -/
namespace Mk
def wsv (W : List Nat) (m : Nat) : Nat := W.getD (m - 1) 0
def last (T : Tre) (W : List Nat) (m lo hi : Nat) : Nat := if h : 0 < m then if lo ≤ wsv W m ∧ wsv W m < hi then m else last T W (par T m) lo hi else 0
termination_by m
decreasing_by exact par_lt h
section
variable {T : Tre} {W : List Nat} {m lo hi : Nat}
theorem last_zero : last T W 0 lo hi = 0 := by rw [last]; simp
theorem last_yes (h : 0 < m) (hw : lo ≤ wsv W m ∧ wsv W m < hi) : last T W m lo hi = m := by rw [last, dif_pos h, if_pos hw]
theorem last_no (h : 0 < m) (hw : ¬ (lo ≤ wsv W m ∧ wsv W m < hi)) : last T W m lo hi = last T W (par T m) lo hi := by rw [last, dif_pos h, if_neg hw]
theorem last_le : last T W m lo hi ≤ m := by
  induction m using Nat.strongRecOn with
  | ind m ih =>
    by_cases h : 0 < m
    · by_cases hw : lo ≤ wsv W m ∧ wsv W m < hi
      · rw [last_yes h hw]; exact Nat.le_refl _
      · rw [last_no h hw]
        exact Nat.le_trans (ih _ (par_lt h)) (par_le T m)
    · have : m = 0 := by omega
      subst this
      rw [last_zero]; exact Nat.le_refl _
theorem last_in (h : 0 < last T W m lo hi) : lo ≤ wsv W (last T W m lo hi) ∧ wsv W (last T W m lo hi) < hi := by
  induction m using Nat.strongRecOn with
  | ind m ih =>
    by_cases h0 : 0 < m
    · by_cases hw : lo ≤ wsv W m ∧ wsv W m < hi
      · rw [last_yes h0 hw]; exact hw
      · rw [last_no h0 hw] at h ⊢
        exact ih _ (par_lt h0) h
    · have : m = 0 := by omega
      subst this
      rw [last_zero] at h
      omega
theorem last_sub {a b : Nat} (h1 : lo ≤ a) (h2 : b ≤ hi) : last T W (last T W m lo hi) a b = last T W m a b := by
  induction m using Nat.strongRecOn with
  | ind m ih =>
    by_cases h0 : 0 < m
    · by_cases hw : lo ≤ wsv W m ∧ wsv W m < hi
      · rw [last_yes h0 hw]
      · rw [last_no h0 hw, ih _ (par_lt h0), last_no h0 (lo := a) (hi := b) (by omega)]
    · have : m = 0 := by omega
      subst this
      rw [last_zero, last_zero]
theorem wsv_snoc {p : Nat} (h0 : 0 < m) (h : m ≤ W.length) : wsv (W ++ [p]) m = wsv W m := by
  unfold wsv
  rw [List.getD_eq_getElem?_getD, List.getD_eq_getElem?_getD, List.getElem?_append_left (by omega)]
theorem wsv_new {p : Nat} : wsv (W ++ [p]) (W.length + 1) = p := by
  unfold wsv
  rw [List.getD_eq_getElem?_getD, Nat.add_sub_cancel, List.getElem?_append_right (Nat.le_refl _), Nat.sub_self]
  rfl
theorem last_snoc {x p : Nat} (hW : W.length = T.length) (h : m ≤ T.length) : last (T ++ [x]) (W ++ [p]) m lo hi = last T W m lo hi := by
  induction m using Nat.strongRecOn with
  | ind m ih =>
    by_cases h0 : 0 < m
    · have e := wsv_snoc (W := W) (p := p) h0 (by omega)
      by_cases hw : lo ≤ wsv W m ∧ wsv W m < hi
      · rw [last_yes h0 hw, last_yes h0 (by rw [e]; exact hw)]
      · rw [last_no h0 hw, last_no h0 (by rw [e]; exact hw), par_snoc h, ih _ (par_lt h0) (Nat.le_trans (par_le T m) h)]
    · have : m = 0 := by omega
      subst this
      rw [last_zero, last_zero]
theorem last_new {x p : Nat} (hW : W.length = T.length) (hx : x ≤ T.length) : last (T ++ [x]) (W ++ [p]) (T.length + 1) lo hi = if lo ≤ p ∧ p < hi then T.length + 1 else last T W x lo hi := by
  have e : wsv (W ++ [p]) (T.length + 1) = p := by rw [← hW]; exact wsv_new
  by_cases hw : lo ≤ p ∧ p < hi
  · rw [if_pos hw, last_yes (by omega) (by rw [e]; exact hw)]
  · rw [if_neg hw, last_no (by omega) (by rw [e]; exact hw), par_new hx, last_snoc hW hx]
end
/-- the worth of a make at a place: first the row's worths, V the worths that were put -/
def valT (T : Tre) (W : List Nat) (F V : List Int) (m p : Nat) : Int := if last T W m p (p + 1) = 0 then F.getD p 0 else V.getD (last T W m p (p + 1) - 1) 0
section
variable {T : Tre} {W : List Nat} {F V : List Int} {m p : Nat}
theorem valT_last {lo hi : Nat} (h1 : lo ≤ p) (h2 : p < hi) : valT T W F V (last T W m lo hi) p = valT T W F V m p := by
  unfold valT
  rw [last_sub h1 h2]
theorem valT_snoc {x q : Nat} {w : Int} (hW : W.length = T.length) (hV : V.length = T.length) (h : m ≤ T.length) : valT (T ++ [x]) (W ++ [q]) F (V ++ [w]) m p = valT T W F V m p := by
  unfold valT
  rw [last_snoc hW h]
  have hl := last_le (T := T) (W := W) (m := m) (lo := p) (hi := p + 1)
  split
  · rfl
  · rw [List.getD_eq_getElem?_getD, List.getD_eq_getElem?_getD, List.getElem?_append_left (by omega)]
theorem valT_new {x q : Nat} {w : Int} (hW : W.length = T.length) (hV : V.length = T.length) (hx : x ≤ T.length) : valT (T ++ [x]) (W ++ [q]) F (V ++ [w]) (T.length + 1) p = if p = q then w else valT T W F V x p := by
  by_cases h : p = q
  · subst h
    rw [if_pos rfl]
    have e := last_new (T := T) (W := W) (p := p) (lo := p) (hi := p + 1) hW hx
    rw [if_pos ⟨Nat.le_refl _, Nat.lt_succ_self _⟩] at e
    unfold valT
    rw [e, if_neg (by omega), Nat.add_sub_cancel, ← hV]
    rw [List.getD_eq_getElem?_getD, List.getElem?_append_right (Nat.le_refl _), Nat.sub_self]
    rfl
  · rw [if_neg h]
    have e := last_new (T := T) (W := W) (p := q) (lo := p) (hi := p + 1) hW hx
    rw [if_neg (by omega)] at e
    have hl := last_le (T := T) (W := W) (m := x) (lo := p) (hi := p + 1)
    unfold valT
    rw [e]
    split
    · rfl
    · rw [List.getD_eq_getElem?_getD, List.getD_eq_getElem?_getD, List.getElem?_append_left (by omega)]
end
/-! ### parts -/
inductive Prt where
  | leaf (p : Nat) (w : Int)
  | fork (lo hi l r : Nat)
deriving DecidableEq
def Prt.lo : Prt → Nat
  | .leaf p _ => p
  | .fork a _ _ _ => a
def Prt.hi : Prt → Nat
  | .leaf p _ => p + 1
  | .fork _ b _ _ => b
def Prt.halves : Prt → List Nat
  | .leaf _ _ => []
  | .fork _ _ l r => [l, r]
structure PS where
  gv : Nat
  ds : Nat → Prt
  al : Nat → Bool
  pt : Nat → Int
  hd : Nat → Int
def upf {α : Type} (f : Nat → α) (n : Nat) (x : α) : Nat → α := fun i => if i = n then x else f i
section
variable {α : Type} {f : Nat → α} {n i : Nat} {x : α}
theorem upf_same : upf f n x n = x := by unfold upf; simp
theorem upf_ne (h : i ≠ n) : upf f n x i = f i := by unfold upf; rw [if_neg h]
end
/-- how often x stands among the halves of y -/
def pts (S : PS) (y x : Nat) : Nat := bif S.al y then (S.ds y).halves.count x else 0
theorem pts_pos {S : PS} {y x : Nat} (h : S.al y = true) : pts S y x = (S.ds y).halves.count x := by unfold pts; rw [h]; rfl
theorem pts_neg {S : PS} {y x : Nat} (h : S.al y = false) : pts S y x = 0 := by unfold pts; rw [h]; rfl
def refs (S : PS) (x : Nat) : Nat := ((List.range S.gv).map fun y => pts S y x).sum
structure WF (S : PS) (dt : Nat → Nat) : Prop where
  cl : ∀ x, S.al x = true → ∀ h ∈ (S.ds x).halves, h < x ∧ S.al h = true
  bd : ∀ x, S.al x = true → x < S.gv
  pt : ∀ x, x < S.gv → S.pt x = S.hd x + refs S x + dt x
  dt : ∀ x, 0 < dt x → S.al x = true
  hn : ∀ x, x < S.gv → 0 ≤ S.hd x
  hk : ∀ x, x < S.gv → 0 < S.hd x → S.al x = true
theorem sum_congr {n : Nat} {f g : Nat → Nat} (h : ∀ y, y < n → f y = g y) : ((List.range n).map f).sum = ((List.range n).map g).sum := by
  rw [List.map_congr_left fun y hy => h y (List.mem_range.mp hy)]
theorem sum_one {n k : Nat} {f g : Nat → Nat} (hk : k < n) (h : ∀ y, y ≠ k → f y = g y) : ((List.range n).map f).sum + g k = ((List.range n).map g).sum + f k := by
  induction n with
  | zero => omega
  | succ n ih =>
    rw [List.range_succ, List.map_append, List.map_append, List.sum_append, List.sum_append]
    by_cases e : k = n
    · subst e
      rw [sum_congr (g := g) fun y hy => h y (by omega)]
      simp
      omega
    · have := ih (by omega)
      have := h n (Ne.symm e)
      simp
      omega
theorem sum_zero {n : Nat} {f : Nat → Nat} (h : ((List.range n).map f).sum = 0) {k : Nat} (hk : k < n) : f k = 0 := by
  induction n with
  | zero => omega
  | succ n ih =>
    rw [List.range_succ, List.map_append, List.sum_append] at h
    simp at h
    by_cases e : k = n
    · subst e; exact h.2
    · refine ih ?_ (by omega)
      omega
/-! ### a new part -/
/-- one more points to each of hs -/
def ptUp (pt : Nat → Int) : List Nat → Nat → Int
  | [] => pt
  | h :: hs => ptUp (upf pt h (pt h + 1)) hs
theorem ptUp_at {pt : Nat → Int} {hs : List Nat} {x : Nat} : ptUp pt hs x = pt x + hs.count x := by
  induction hs generalizing pt with
  | nil => simp [ptUp]
  | cons h hs ih =>
    show ptUp (upf pt h (pt h + 1)) hs x = _
    rw [ih, List.count_cons]
    by_cases e : x = h
    · subst e
      rw [upf_same]
      simp
      omega
    · rw [upf_ne e]
      have e' : ¬ h = x := fun z => e z.symm
      simp [e']
def PS.lay (S : PS) (d : Prt) : PS := ⟨S.gv + 1, upf S.ds S.gv d, upf S.al S.gv true, ptUp (upf S.pt S.gv 0) d.halves, upf S.hd S.gv 0⟩
section
variable {S : PS} {dt : Nat → Nat} {d : Prt} {x y : Nat}
theorem WF.dead (h : WF S dt) (hx : S.gv ≤ x) : S.al x = false := by
  cases e : S.al x with
  | false => rfl
  | true => have := h.bd x e; omega
theorem pts_lay (hy : y < S.gv) : pts (S.lay d) y x = pts S y x := by
  unfold pts PS.lay
  dsimp only
  rw [upf_ne (by omega), upf_ne (by omega)]
theorem refs_lay : refs (S.lay d) x = refs S x + d.halves.count x := by
  unfold refs
  show ((List.range (S.gv + 1)).map fun y => pts (S.lay d) y x).sum = _
  rw [List.range_succ, List.map_append, List.sum_append]
  rw [sum_congr (g := fun y => pts S y x) fun y hy => pts_lay hy]
  simp [pts, PS.lay, upf_same]
theorem refs_new (h : WF S dt) (hx : S.gv ≤ x) : refs S x = 0 := by
  unfold refs
  have e : ((List.range S.gv).map fun y => pts S y x).sum = ((List.range S.gv).map fun _ => 0).sum := sum_congr fun y hy => by
    cases a : S.al y with
    | true =>
      rw [pts_pos a]
      refine List.count_eq_zero.mpr fun z => ?_
      have := (h.cl y a x z).1
      omega
    | false => exact pts_neg a
  rw [e]
  have : ∀ n, ((List.range n).map fun _ => 0).sum = 0 := fun n => by
    induction n with
    | zero => rfl
    | succ n ih => rw [List.range_succ, List.map_append, List.sum_append, ih]; rfl
  exact this _
theorem WF.lay (h : WF S dt) (hd : ∀ z ∈ d.halves, z < S.gv ∧ S.al z = true) : WF (S.lay d) dt := by
  have hdt : dt S.gv = 0 := by
    refine Nat.eq_zero_of_not_pos fun z => ?_
    have := h.bd _ (h.dt _ z)
    omega
  refine ⟨fun x a z hz => ?_, fun x a => ?_, fun x hx => ?_, fun x hx => ?_, fun x hx => ?_, fun x hx hh => ?_⟩
  · by_cases e : x = S.gv
    · subst e
      have hz' : z ∈ d.halves := by
        have : (S.lay d).ds S.gv = d := upf_same
        rw [this] at hz; exact hz
      obtain ⟨h1, h2⟩ := hd z hz'
      exact ⟨h1, (upf_ne (by omega)).trans h2⟩
    · have a' : S.al x = true := (upf_ne e).symm.trans a
      have hz' : z ∈ (S.ds x).halves := by
        have : (S.lay d).ds x = S.ds x := upf_ne e
        rw [this] at hz; exact hz
      obtain ⟨h1, h2⟩ := h.cl x a' z hz'
      have := h.bd x a'
      exact ⟨h1, (upf_ne (by omega)).trans h2⟩
  · show x < S.gv + 1
    by_cases e : x = S.gv
    · omega
    · have a' : S.al x = true := (upf_ne e).symm.trans a
      have := h.bd x a'
      omega
  · have hx : x < S.gv + 1 := hx
    rw [refs_lay]
    show ptUp (upf S.pt S.gv 0) d.halves x = upf S.hd S.gv 0 x + _ + _
    rw [ptUp_at]
    by_cases e : x = S.gv
    · subst e
      rw [upf_same, upf_same, refs_new h (Nat.le_refl _), hdt]
      omega
    · rw [upf_ne e, upf_ne e]
      have := h.pt x (by omega)
      omega
  · have a := h.dt x hx
    have := h.bd x a
    exact (upf_ne (by omega)).trans a
  · have hx : x < S.gv + 1 := hx
    show 0 ≤ upf S.hd S.gv 0 x
    by_cases e : x = S.gv
    · subst e; rw [upf_same]; exact Int.le_refl _
    · rw [upf_ne e]; exact h.hn x (by omega)
  · have hx : x < S.gv + 1 := hx
    have hh : 0 < upf S.hd S.gv 0 x := hh
    by_cases e : x = S.gv
    · subst e; rw [upf_same] at hh; omega
    · rw [upf_ne e] at hh
      exact (upf_ne e).trans (h.hk x (by omega) hh)
/-! ### held -/
def PS.hold (S : PS) (x : Nat) : PS := { S with pt := upf S.pt x (S.pt x + 1), hd := upf S.hd x (S.hd x + 1) }
theorem WF.hold (h : WF S dt) (a : S.al x = true) : WF (S.hold x) dt := by
  refine ⟨h.cl, h.bd, fun y hy => ?_, h.dt, fun y hy => ?_, fun y hy hh => ?_⟩
  · show upf S.pt x (S.pt x + 1) y = upf S.hd x (S.hd x + 1) y + refs S y + dt y
    have := h.pt y hy
    by_cases e : y = x
    · subst e; rw [upf_same, upf_same]; omega
    · rw [upf_ne e, upf_ne e]; exact this
  · show 0 ≤ upf S.hd x (S.hd x + 1) y
    have := h.hn y hy
    by_cases e : y = x
    · subst e; rw [upf_same]; omega
    · rw [upf_ne e]; exact this
  · have hh : 0 < upf S.hd x (S.hd x + 1) y := hh
    by_cases e : y = x
    · subst e; exact a
    · rw [upf_ne e] at hh; exact h.hk y hy hh
/-! ### released -/
/-- held once less, still pointed to -/
def PS.drop (S : PS) (x : Nat) : PS := { S with hd := upf S.hd x (S.hd x - 1) }
def dup (dt : Nat → Nat) (x : Nat) : Nat → Nat := upf dt x (dt x + 1)
theorem WF.drop (h : WF S dt) (a : x < S.gv) (hh : 0 < S.hd x) : WF (S.drop x) (dup dt x) := by
  have al := h.hk x a hh
  refine ⟨h.cl, h.bd, fun y hy => ?_, fun y hy => ?_, fun y hy => ?_, fun y hy hz => ?_⟩
  · show S.pt y = upf S.hd x (S.hd x - 1) y + refs S y + dup dt x y
    have := h.pt y hy
    unfold dup
    by_cases e : y = x
    · subst e; rw [upf_same, upf_same]; omega
    · rw [upf_ne e, upf_ne e]; exact this
  · unfold dup at hy
    by_cases e : y = x
    · subst e; exact al
    · rw [upf_ne e] at hy; exact h.dt y hy
  · show 0 ≤ upf S.hd x (S.hd x - 1) y
    have := h.hn y hy
    by_cases e : y = x
    · subst e; rw [upf_same]; omega
    · rw [upf_ne e]; exact this
  · have hz : 0 < upf S.hd x (S.hd x - 1) y := hz
    by_cases e : y = x
    · subst e; exact al
    · rw [upf_ne e] at hz; exact h.hk y hy hz
/-- one that points to x less -/
def PS.less (S : PS) (x : Nat) : PS := { S with pt := upf S.pt x (S.pt x - 1) }
theorem WF.less (h : WF S (dup dt x)) : WF (S.less x) dt ∧ S.al x = true := by
  have a : S.al x = true := h.dt x (by unfold dup; rw [upf_same]; omega)
  refine ⟨⟨h.cl, h.bd, fun y hy => ?_, fun y hy => ?_, h.hn, h.hk⟩, a⟩
  · show upf S.pt x (S.pt x - 1) y = S.hd y + refs S y + dt y
    have := h.pt y hy
    unfold dup at this
    by_cases e : y = x
    · subst e; rw [upf_same] at this ⊢; omega
    · rw [upf_ne e] at this ⊢; exact this
  · by_cases e : y = x
    · subst e; exact a
    · exact h.dt y (by unfold dup; rw [upf_ne e]; exact hy)
/-- freed -/
def PS.kill (S : PS) (x : Nat) : PS := { S with al := upf S.al x false }
def dups (dt : Nat → Nat) : List Nat → Nat → Nat
  | [] => dt
  | h :: hs => dup (dups dt hs) h
theorem dups_at {dt : Nat → Nat} {hs : List Nat} {x : Nat} : dups dt hs x = dt x + hs.count x := by
  induction hs with
  | nil => simp [dups]
  | cons h hs ih =>
    show upf (dups dt hs) h (dups dt hs h + 1) x = _
    rw [List.count_cons]
    by_cases e : x = h
    · subst e
      rw [upf_same, ih]
      simp
      omega
    · rw [upf_ne e, ih]
      have e' : ¬ h = x := fun z => e z.symm
      simp [e']
theorem refs_kill (h : WF S dt) (a : S.al x = true) : refs (S.kill x) y + (S.ds x).halves.count y = refs S y := by
  have hx := h.bd x a
  have e := sum_one (n := S.gv) (k := x) (f := fun z => pts (S.kill x) z y) (g := fun z => pts S z y) hx fun z hz => by
    unfold pts PS.kill
    dsimp only
    rw [upf_ne hz]
  have e1 : pts (S.kill x) x y = 0 := by
    exact pts_neg upf_same
  have e2 : pts S x y = (S.ds x).halves.count y := by
    exact pts_pos a
  unfold refs
  show ((List.range S.gv).map fun z => pts (S.kill x) z y).sum + _ = _
  rw [e1, e2] at e
  omega
theorem WF.kill (h : WF S dt) (a : S.al x = true) (p0 : S.pt x ≤ 0) : WF (S.kill x) (dups dt (S.ds x).halves) ∧ dt x = 0 ∧ S.hd x = 0 ∧ refs S x = 0 := by
  have hx := h.bd x a
  have e := h.pt x hx
  have hh := h.hn x hx
  have z1 : refs S x = 0 := by omega
  have z2 : dt x = 0 := by omega
  have z3 : S.hd x = 0 := by omega
  have nox : ∀ y, S.al y = true → x ∉ (S.ds y).halves := fun y ay hm => by
    have z := sum_zero z1 (h.bd y ay)
    rw [pts_pos ay] at z
    exact List.count_eq_zero.mp z hm
  refine ⟨⟨fun y ay z hz => ?_, fun y ay => ?_, fun y hy => ?_, fun y hy => ?_, h.hn, fun y hy hp => ?_⟩, z2, z3, z1⟩
  · have ay : upf S.al x false y = true := ay
    have ne : y ≠ x := fun e => by subst e; rw [upf_same] at ay; cases ay
    rw [upf_ne ne] at ay
    obtain ⟨h1, h2⟩ := h.cl y ay z hz
    refine ⟨h1, ?_⟩
    show upf S.al x false z = true
    rw [upf_ne fun e => nox y ay (by rw [← e]; exact hz)]
    exact h2
  · have ay : upf S.al x false y = true := ay
    have ne : y ≠ x := fun e => by subst e; rw [upf_same] at ay; cases ay
    rw [upf_ne ne] at ay
    exact h.bd y ay
  · show S.pt y = S.hd y + refs (S.kill x) y + dups dt (S.ds x).halves y
    have := h.pt y hy
    have := refs_kill (y := y) h a
    rw [dups_at]
    omega
  · rw [dups_at] at hy
    show upf S.al x false y = true
    by_cases hd : 0 < dt y
    · rw [upf_ne fun e => by subst e; omega]
      exact h.dt y hd
    · have hm : y ∈ (S.ds x).halves := List.count_pos_iff.mp (by omega)
      obtain ⟨h1, h2⟩ := h.cl x a y hm
      rw [upf_ne (by omega)]
      exact h2
  · have hp : 0 < S.hd y := hp
    show upf S.al x false y = true
    rw [upf_ne fun e => by subst e; omega]
    exact h.hk y hy hp
end
def Prt.len (d : Prt) : Nat := d.hi - d.lo
/-- what goes on from S to S2 while parts are freed -/
structure Frd (S S2 : PS) : Prop where
  gv : S2.gv = S.gv
  ds : S2.ds = S.ds
  hd : S2.hd = S.hd
  al : ∀ y, S2.al y = true → S.al y = true
theorem Frd.refl {S : PS} : Frd S S := ⟨rfl, rfl, rfl, fun _ h => h⟩
theorem Frd.trans {S S2 S3 : PS} (h : Frd S S2) (g : Frd S2 S3) : Frd S S3 := ⟨g.gv.trans h.gv, g.ds.trans h.ds, g.hd.trans h.hd, fun y z => h.al y (g.al y z)⟩
/-- halves are shorter -/
def Sh (S : PS) : Prop := ∀ x, S.al x = true → ∀ h ∈ (S.ds x).halves, (S.ds h).len < (S.ds x).len
theorem Sh.frd {S S2 : PS} (h : Sh S) (f : Frd S S2) : Sh S2 := fun x hx y hy => by
  rw [f.ds] at hy ⊢
  exact h x (f.al x hx) y hy
theorem few_ofN {α : Type} [DecidableEq α] {l B : List α} (nd : l.Nodup) (h : ∀ x ∈ l, x ∈ B) : l.length ≤ B.length := by
  induction l generalizing B with
  | nil => exact Nat.zero_le _
  | cons a l ih =>
    obtain ⟨n1, n2⟩ := List.nodup_cons.mp nd
    have ha := h a List.mem_cons_self
    have := ih (B := B.erase a) n2 fun x hx => (List.mem_erase_of_ne (fun z => n1 (by rw [← z]; exact hx))).mpr (h x (List.mem_cons_of_mem _ hx))
    rw [List.length_erase_of_mem ha] at this
    have := List.length_pos_of_mem ha
    rw [List.length_cons]
    omega
theorem few_lt {l : List Nat} {n : Nat} (nd : l.Nodup) (h : ∀ x ∈ l, x < n) : l.length ≤ n := by
  have := few_ofN (B := List.range n) nd fun x hx => List.mem_range.mpr (h x hx)
  rwa [List.length_range] at this
theorem frd_less {S : PS} {x : Nat} : Frd S (S.less x) := ⟨rfl, rfl, rfl, fun _ h => h⟩
theorem frd_kill {S : PS} {x : Nat} : Frd S (S.kill x) := ⟨rfl, rfl, rfl, fun y (h : upf S.al x false y = true) => by
  by_cases e : y = x
  · subst e; rw [upf_same] at h; cases h
  · rwa [upf_ne e] at h⟩
end Mk

/-! B4: dicts by number; the block of a store of parts -/
namespace Mk
open L2 PySem PySem.Spec PyProof.Rows
theorem valV_drop {κ : Type} [DecidableEq κ] (kvs : List (κ × V)) (k j : κ) : valV (dropK kvs k) j = if j = k then none else valV kvs j := by
  induction kvs with
  | nil => simp [dropK, valV]
  | cons p r ih =>
    by_cases e : p.1 = k
    · have e1 : dropK (p :: r) k = dropK r k := by simp [dropK, e]
      rw [e1, ih]
      by_cases c : j = k
      · rw [if_pos c, if_pos c]
      · rw [if_neg c, if_neg c, valV_neg (by rw [e]; exact fun z => c z.symm)]
    · have e1 : dropK (p :: r) k = p :: dropK r k := by simp [dropK, e]
      rw [e1]
      by_cases c : p.1 = j
      · rw [valV_pos c, valV_pos c, if_neg (by rw [← c]; exact e)]
      · rw [valV_neg c, valV_neg c, ih]
theorem putK_len {κ : Type} [DecidableEq κ] (kvs : List (κ × V)) (k : κ) (v : V) : (putK kvs k v).length ≤ kvs.length + 1 := by
  unfold putK
  split
  · simp
  · simp
theorem putK_len_in {κ : Type} [DecidableEq κ] {kvs : List (κ × V)} {k : κ} {u : V} (h : valV kvs k = some u) (v : V) : (putK kvs k v).length = kvs.length := by
  unfold putK
  rw [if_pos (by rw [valV_any, h]; rfl)]
  simp
theorem dropK_len {κ : Type} [DecidableEq κ] (kvs : List (κ × V)) (k : κ) : (dropK kvs k).length ≤ kvs.length := by
  unfold dropK
  exact List.length_filter_le _ _
abbrev KD : Type := List (Key × V)
abbrev ik (n : Nat) : Key := .inl (n : Int)
theorem ik_inj {m n : Nat} : ik m = ik n ↔ m = n := by
  constructor
  · intro h
    have := Sum.inl.inj h
    omega
  · rintro rfl; rfl
section
variable {H : Hp} {σ : L2.St} {Q : VK} {D : Ends} {a : Addr} {kvs : KD} {n : Nat} {v : V} {o : Option V} {Bs Cs : List Blk} {S : V → Prop} {td ty tv : TE}
theorem r_dget (h : td σ H fun x H1 => ty σ H1 fun y H2 => ∃ a v, x = .ref a ∧ DGet H2 a y (some v) ∧ Q v H2) : tDGet td ty σ H Q := h
theorem r_dget1 (e : H a = some (.dK kvs)) (l : valV kvs (ik n) = some v) (h : S v) : ∃ b w, V.ref a = .ref b ∧ DGet H b (.int (n : Int)) (some w) ∧ S w := ⟨a, v, rfl, .inl ⟨kvs, ik n, .inl e, rfl, l.symm⟩, h⟩
theorem r_din (h : ty σ H fun y H1 => td σ H1 fun x H2 => ∃ a o, x = .ref a ∧ DGet H2 a y o ∧ Q (.bl o.isSome) H2) : tDIn ty td σ H Q := h
theorem r_dnotin (h : ty σ H fun y H1 => td σ H1 fun x H2 => ∃ a o, x = .ref a ∧ DGet H2 a y o ∧ Q (.bl (!o.isSome)) H2) : tDNotIn ty td σ H Q := h
theorem r_din1 {S : Option V → Prop} (e : H a = some (.dK kvs)) (h : S (valV kvs (ik n))) : ∃ b o, V.ref a = .ref b ∧ DGet H b (.int (n : Int)) o ∧ S o := ⟨a, _, rfl, .inl ⟨kvs, ik n, .inl e, rfl, rfl⟩, h⟩
theorem r_dput (h : tv σ H fun v H1 => td σ H1 fun x H2 => ty σ H2 fun y H3 => ∃ a H4, x = .ref a ∧ DPut H3 a y v H4 ∧ D.nx σ H4) : sDPut td ty tv D σ H := h
theorem r_dput1 {S : Hp → Prop} (hb : HB H Bs) (p : Put Bs a (.dK kvs) (.dK (putK kvs (ik n) v)) Cs) (l : kvs.length < sizeLine) (h : ∀ H', HB H' Cs → S H') : ∃ b H4, V.ref a = .ref b ∧ DPut H b (.int (n : Int)) v H4 ∧ S H4 :=
  ⟨a, _, rfl, .inl ⟨kvs, ik n, hb.at_put p, rfl, l, rfl⟩, h _ (hb.put p rfl rfl)⟩
theorem r_daug {rd : V → V → Hp → VK → Prop} (h : td σ H fun x H1 => ty σ H1 fun y H2 => ∃ a v, x = .ref a ∧ DGet H2 a y (some v) ∧ tv σ H2 fun y2 H3 => rd v y2 H3 fun z H4 => ∃ H5, DPut H4 a y z H5 ∧ D.nx σ H5) : sDAug td ty tv rd D σ H := h
theorem r_daug1 {S : Addr → V → Prop} (e : H a = some (.dK kvs)) (l : valV kvs (ik n) = some v) (h : S a v) : ∃ b w, V.ref a = .ref b ∧ DGet H b (.int (n : Int)) (some w) ∧ S b w := ⟨a, v, rfl, .inl ⟨kvs, ik n, .inl e, rfl, l.symm⟩, h⟩
theorem r_daug2 {S : Hp → Prop} (hb : HB H Bs) (p : Put Bs a (.dK kvs) (.dK (putK kvs (ik n) v)) Cs) (l : kvs.length < sizeLine) (h : ∀ H', HB H' Cs → S H') : ∃ H5, DPut H a (.int (n : Int)) v H5 ∧ S H5 :=
  ⟨_, .inl ⟨kvs, ik n, hb.at_put p, rfl, l, rfl⟩, h _ (hb.put p rfl rfl)⟩
def DPopR (H : Hp) (a : Addr) (y : V) (Q : VK) : Prop := ∃ kvs k v, H a = some (.dK kvs) ∧ y = kV k ∧ valV kvs k = some v ∧ Q v (upd H a (.dK (dropK kvs k)))
theorem r_dpop (h : td σ H fun x H1 => ∃ a, x = .ref a ∧ IsD H1 a ∧ ty σ H1 fun y H2 => DPopR H2 a y Q) : tDPop1 td ty σ H Q := h
theorem r_dpop1 {S : Addr → Prop} (e : H a = some (.dK kvs)) (h : S a) : ∃ b, V.ref a = .ref b ∧ IsD H b ∧ S b := ⟨a, rfl, Or.inl ⟨kvs, .inl e⟩, h⟩
theorem r_dpop2 (hb : HB H Bs) (p : Put Bs a (.dK kvs) (.dK (dropK kvs (ik n))) Cs) (l : valV kvs (ik n) = some v) (h : ∀ H', HB H' Cs → Q v H') : DPopR H a (.int (n : Int)) Q :=
  ⟨kvs, ik n, v, hb.at_put p, rfl, l, h _ (hb.put p rfl rfl)⟩
theorem r_dnew (h : NewR H (.dK []) fun p H1 => Q (.ref p) H1) : tDNewK σ H Q := h
theorem r_slT {K : PySem.W.Frag} {p : Addr} {xs : List V} {lo hi : Option Int} (e : SqT K H p xs) (hb : HB H Bs) (h : ∀ q H', HB H' ([(q, .tup (cutV xs lo hi))] :: Bs) → (H' q = some (.tup (cutV xs lo hi)) → Q (.ref q) H')) (he : ∀ H', HB H' Bs → SqT K H' p xs → (HT.sIx xs.length 0 lo = 0 ∧ HT.sIx xs.length xs.length hi = xs.length) → Q (.ref p) H') : rSlA K (.ref p) lo hi H Q :=
  ⟨p, xs, rfl, e, fun c => he H hb e c, fun _ q hq => h q _ (hb.new hq) upd_same⟩
/-- a part of a tuple that is not the whole -/
theorem r_slT1 {K : PySem.W.Frag} {p : Addr} {xs : List V} {lo hi : Option Int} (e : SqT K H p xs) (hb : HB H Bs) (n : ¬ (HT.sIx xs.length 0 lo = 0 ∧ HT.sIx xs.length xs.length hi = xs.length)) (h : ∀ q H', HB H' ([(q, .tup (cutV xs lo hi))] :: Bs) → Q (.ref q) H') : rSlA K (.ref p) lo hi H Q :=
  ⟨p, xs, rfl, e, fun c => absurd c n, fun _ q hq => h q _ (hb.new hq)⟩
end
theorem r_sortedI {K : PySem.W.Frag} {H : Hp} {Q : VK} {a : Addr} {ns : List Int} {Bs : List Blk} (e : SqL K H a (ns.map V.int)) (hb : HB H Bs) (h : ∀ (ys : List Int) (p : Addr) (H' : Hp), ys.Perm ns → ys.Pairwise (· ≤ ·) → HB H' ([(p, .lst (ys.map V.int))] :: Bs) → Q (.ref p) H') : rSortedI K [.ref a] H Q := ⟨a, ns, rfl, e, fun ys p h1 h2 hp => h ys p _ h1 h2 (hb.new hp)⟩
theorem r_eqS {x y : Str} {H : Hp} {Q : VK} (h : Q (.bl (decide (x = y))) H) : rEq (.str x) (.str y) H Q := by
  refine ⟨rfl, ?_⟩
  have e : decide (V.str x = V.str y) = decide (x = y) := by simp
  rw [e]
  exact h
/-! ### the store of parts -/
def descV : Prt → List V
  | .leaf p w => [.str "leaf", .int (p : Int), .int w]
  | .fork lo hi l r => [.str "fork", .int (lo : Int), .int (hi : Int), .int (l : Int), .int (r : Int)]
abbrev partsF (dl dp dh : Addr) (gv : Nat) : List (Str × V) := [("laid", .ref dl), ("pointed", .ref dp), ("holds", .ref dh), ("given", .int (gv : Int))]
def pc (S : PS) : Nat → HO := fun x => .tup (descV (S.ds x))
def partsB (C a dx dl dp dh : Addr) (kl kp kh : KD) (ta : Nat → Addr) (S : PS) : Blk := (a, .ins C dx (partsF dl dp dh S.gv)) :: (dl, .dK kl) :: (dp, .dK kp) :: (dh, .dK kh) :: rc S.gv ta (pc S)
structure PD (S : PS) (ta : Nat → Addr) (kl kp kh : KD) : Prop where
  l : ∀ x : Nat, valV kl (ik x) = if S.al x = true then some (.ref (ta x)) else none
  p : ∀ x, x < S.gv → valV kp (ik x) = some (.int (S.pt x))
  h : ∀ x, x < S.gv → valV kh (ik x) = some (.int (S.hd x))
  nl : kl.length ≤ S.gv
  np : kp.length ≤ S.gv
  nh : kh.length ≤ S.gv
  bd : ∀ x, S.al x = true → x < S.gv
def Parts (C a : Addr) (S : PS) (b : Blk) : Prop := S.gv ≤ 5000 ∧ ∃ dx dl dp dh kl kp kh ta, b = partsB C a dx dl dp dh kl kp kh ta S ∧ PD S ta kl kp kh
section
variable {H : Hp} {L : List Blk} {C a dx dl dp dh : Addr} {kl kp kh : KD} {ta : Nat → Addr} {S : PS}
theorem parts_open (h : HB H (partsB C a dx dl dp dh kl kp kh ta S :: L)) : HB H ([(a, .ins C dx (partsF dl dp dh S.gv))] :: [(dl, .dK kl)] :: [(dp, .dK kp)] :: [(dh, .dK kh)] :: rc S.gv ta (pc S) :: L) := h
theorem parts_close (h : HB H ([(a, .ins C dx (partsF dl dp dh S.gv))] :: [(dl, .dK kl)] :: [(dp, .dK kp)] :: [(dh, .dK kh)] :: rc S.gv ta (pc S) :: L)) : HB H (partsB C a dx dl dp dh kl kp kh ta S :: L) := h
theorem parts_close1 {c : Blk} (h : HB H (c :: [(a, .ins C dx (partsF dl dp dh S.gv))] :: [(dl, .dK kl)] :: [(dp, .dK kp)] :: [(dh, .dK kh)] :: rc S.gv ta (pc S) :: L)) : HB H (c :: partsB C a dx dl dp dh kl kp kh ta S :: L) := h
theorem parts_new (h : HB H ([(a, .ins C dx [("laid", .ref dl), ("pointed", .ref dp), ("holds", .ref dh), ("given", .int 0)])] :: [(dl, .dK [])] :: [(dp, .dK [])] :: [(dh, .dK [])] :: L)) (e : S.gv = 0) : HB H (partsB C a dx dl dp dh [] [] [] ta S :: L) := by
  unfold partsB
  rw [e]
  exact h
theorem parts_lay {t : Addr} {d : Prt} (h : HB H ([(a, .ins C dx [("laid", .ref dl), ("pointed", .ref dp), ("holds", .ref dh), ("given", .int ((S.gv : Int) + 1))])] :: [(dl, .dK kl)] :: [(dp, .dK kp)] :: [(dh, .dK kh)] :: [(t, .tup (descV d))] :: rc S.gv ta (pc S) :: L)) :
    HB H (partsB C a dx dl dp dh kl kp kh (fset ta S.gv t) (S.lay d) :: L) := by
  have h2 : HB H ([(t, .tup (descV d))] :: rc S.gv ta (pc S) :: [(a, .ins C dx (partsF dl dp dh (S.lay d).gv))] :: [(dl, .dK kl)] :: [(dp, .dK kp)] :: [(dh, .dK kh)] :: L) :=
    (show HB H ([(a, .ins C dx (partsF dl dp dh (S.lay d).gv))] :: [(dl, .dK kl)] :: [(dp, .dK kp)] :: [(dh, .dK kh)] :: [(t, .tup (descV d))] :: rc S.gv ta (pc S) :: L) from h).sub_of
      (.cons (.next (.next (.next (.next .here)))) (.cons (.next (.next (.next (.next .here)))) .refl))
  have h3 := h2.rc_new (o' := pc (S.lay d)) (fun i hi => by
    show HO.tup (descV (S.ds i)) = HO.tup (descV (upf S.ds S.gv d i))
    rw [upf_ne (by omega)]) (by
    show HO.tup (descV (upf S.ds S.gv d S.gv)) = _
    rw [upf_same])
  exact parts_close (h3.sub_of (.cons (.next .here) (.cons (.next .here) (.cons (.next .here) (.cons (.next .here) .refl)))))
theorem pc_at {Bs : List Blk} {x : Nat} (h : HB H Bs) (hm : rc S.gv ta (pc S) ∈ Bs) (hx : x < S.gv) : H (ta x) = some (.tup (descV (S.ds x))) := h.rc (o := pc S) hm hx
theorem PD.la (d : PD S ta kl kp kh) {x : Nat} (h : S.al x = true) : valV kl (.inl (x : Int)) = some (.ref (ta x)) := (d.l x).trans (if_pos h)
theorem desc_cut (d : Prt) : cutV (descV d) (some 3) none = iv d.halves := by cases d <;> rfl
theorem desc_part (d : Prt) : ¬ (HT.sIx (descV d).length 0 (some 3) = 0 ∧ HT.sIx (descV d).length (descV d).length none = (descV d).length) := by
  cases d
  · exact fun z => absurd z.1 (by show ¬ HT.sIx 3 0 (some 3) = 0; decide)
  · exact fun z => absurd z.1 (by show ¬ HT.sIx 5 0 (some 3) = 0; decide)
theorem walk_ivT {K : PySem.W.Frag} {a : Addr} {xs : List Nat} : Walk (Itt K a) xs.length (fun H => SqT K H a (iv xs)) (fun i H x H' => H' = H ∧ ∃ y, xs[i]? = some y ∧ x = .int (y : Int)) := by
  have w := walk_tup (K := K) (a := a) (xs := iv xs)
  rw [iv_len] at w
  refine ⟨w.1, w.2, fun i H x H' hi g y => ?_⟩
  obtain ⟨h1, h2⟩ := w.3 i H x H' hi g y
  have e : xs[i]? = some xs[i] := List.getElem?_eq_getElem hi
  rw [iv_get e] at h2
  exact ⟨h1, _, e, (Option.some.inj h2).symm⟩
theorem ptUp_take {pt : Nat → Int} {hs : List Nat} {i z : Nat} (h : hs[i]? = some z) (x : Nat) : ptUp pt (hs.take (i + 1)) x = upf (ptUp pt (hs.take i)) z (ptUp pt (hs.take i) z + 1) x := by
  rw [ptUp_at, List.take_add_one, h]
  by_cases e : x = z
  · subst e
    rw [upf_same, ptUp_at]
    simp [List.count_append]
    omega
  · rw [upf_ne e, ptUp_at]
    have e' : ¬ z = x := fun c => e c.symm
    simp [List.count_append, e']
/-- the first of a part's tuple: leaf or fork -/
theorem desc0 (d : Prt) : atI (descV d) 0 = some (.str (match d with | .leaf _ _ => "leaf" | .fork _ _ _ _ => "fork")) := by cases d <;> rfl
end
end Mk

/-! M3: parts and makes: whose a part is; laid, copied. Plain Lean. -/
namespace Mk
structure Ext (S S2 : PS) : Prop where
  gv : S.gv ≤ S2.gv
  ds : ∀ y, y < S.gv → S2.ds y = S.ds y
  al : ∀ y, y < S.gv → S2.al y = S.al y
  hd : ∀ y, y < S.gv → S2.hd y = S.hd y
  na : ∀ y, S.gv ≤ y → y < S2.gv → S2.al y = true
  nh : ∀ y, S.gv ≤ y → y < S2.gv → S2.hd y = 0
theorem Ext.refl {S : PS} : Ext S S := ⟨Nat.le_refl _, fun _ _ => rfl, fun _ _ => rfl, fun _ _ => rfl, fun _ h1 h2 => by omega, fun _ h1 h2 => by omega⟩
theorem Ext.trans {S S2 S3 : PS} (h : Ext S S2) (g : Ext S2 S3) : Ext S S3 := by
  have h1 := h.gv
  have h2 := g.gv
  refine ⟨by omega, fun y hy => ?_, fun y hy => ?_, fun y hy => ?_, fun y hy hz => ?_, fun y hy hz => ?_⟩
  · rw [g.ds y (by omega), h.ds y hy]
  · rw [g.al y (by omega), h.al y hy]
  · rw [g.hd y (by omega), h.hd y hy]
  · by_cases c : y < S2.gv
    · rw [g.al y c, h.na y hy c]
    · exact g.na y (by omega) hz
  · by_cases c : y < S2.gv
    · rw [g.hd y c, h.nh y hy c]
    · exact g.nh y (by omega) hz
theorem ext_lay {S : PS} {d : Prt} : Ext S (S.lay d) := by
  refine ⟨Nat.le_succ _, fun y hy => upf_ne (by omega), fun y hy => upf_ne (by omega), fun y hy => upf_ne (by omega), fun y hy hz => ?_, fun y hy hz => ?_⟩
  · have hz : y < S.gv + 1 := hz
    have : y = S.gv := by omega
    subst this
    exact upf_same
  · have hz : y < S.gv + 1 := hz
    have : y = S.gv := by omega
    subst this
    exact upf_same
/-- whose a part is: ow; it is the part of each make whose last writer in its stretch that one is -/
structure Stat (S : PS) (ow : Nat → Nat) (T : Tre) (W : List Nat) (F V : List Int) (M : Nat) : Prop where
  own : ∀ x, x < S.gv → ow x ≤ M
  rng : ∀ x, x < S.gv → (S.ds x).lo < (S.ds x).hi ∧ (S.ds x).hi ≤ F.length
  leaf : ∀ x p w, x < S.gv → S.ds x = .leaf p w → w = valT T W F V (ow x) p
  fork : ∀ x lo hi l r, x < S.gv → S.ds x = .fork lo hi l r → l < x ∧ r < x ∧ lo + 2 ≤ hi ∧ (S.ds l).lo = lo ∧ (S.ds l).hi = (lo + hi) / 2 ∧ (S.ds r).lo = (lo + hi) / 2 ∧ (S.ds r).hi = hi ∧
    ow l = last T W (ow x) lo ((lo + hi) / 2) ∧ ow r = last T W (ow x) ((lo + hi) / 2) hi
  idem : ∀ x, x < S.gv → last T W (ow x) (S.ds x).lo (S.ds x).hi = ow x
  inj : ∀ x y, x < S.gv → y < S.gv → ow x = ow y → (S.ds x).lo = (S.ds y).lo → (S.ds x).hi = (S.ds y).hi → x = y
section
variable {S S2 : PS} {ow : Nat → Nat} {T : Tre} {W : List Nat} {F V : List Int} {M k : Nat} {d : Prt} {dt : Nat → Nat}
theorem Stat.sh (h : Stat S ow T W F V M) (b : ∀ x, S.al x = true → x < S.gv) : Sh S := fun x hx y hy => by
  have hg := b x hx
  cases e : S.ds x with
  | leaf p w => rw [e] at hy; cases hy
  | fork lo hi l r =>
    rw [e] at hy
    obtain ⟨h1, h2, h3, h4, h5, h6, h7, _, _⟩ := h.fork x lo hi l r hg e
    show (S.ds y).hi - (S.ds y).lo < hi - lo
    rcases List.mem_cons.mp hy with z | z
    · rw [z, h4, h5]; omega
    · rw [List.mem_singleton.mp z, h6, h7]; omega
theorem Stat.frd (h : Stat S ow T W F V M) (f : Frd S S2) : Stat S2 ow T W F V M := by
  obtain ⟨gv, ds, hd, al⟩ := f
  refine ⟨?_, ?_, ?_, ?_, ?_, ?_⟩
  · rw [gv]; exact h.own
  · rw [gv, ds]; exact h.rng
  · rw [gv, ds]; exact h.leaf
  · rw [gv, ds]; exact h.fork
  · rw [gv, ds]; exact h.idem
  · rw [gv, ds]; exact h.inj
theorem Stat.more (h : Stat S ow T W F V M) (hM : M ≤ k) : Stat S ow T W F V k := ⟨fun x hx => Nat.le_trans (h.own x hx) hM, h.rng, h.leaf, h.fork, h.idem, h.inj⟩
theorem Stat.snoc {x p : Nat} {w : Int} (h : Stat S ow T W F V M) (hM : M ≤ T.length) (hW : W.length = T.length) (hV : V.length = T.length) : Stat S ow (T ++ [x]) (W ++ [p]) F (V ++ [w]) M := by
  have o : ∀ y, y < S.gv → ow y ≤ T.length := fun y hy => Nat.le_trans (h.own y hy) hM
  refine ⟨h.own, h.rng, fun y q w2 hy e => ?_, fun y lo hi l r hy e => ?_, fun y hy => ?_, h.inj⟩
  · rw [valT_snoc hW hV (o y hy)]; exact h.leaf y q w2 hy e
  · rw [last_snoc hW (o y hy), last_snoc hW (o y hy)]; exact h.fork y lo hi l r hy e
  · rw [last_snoc hW (o y hy)]; exact h.idem y hy
theorem Stat.lay (h : Stat S ow T W F V M) (hk : k ≤ M) (hr : d.lo < d.hi ∧ d.hi ≤ F.length) (hl : ∀ p w, d = .leaf p w → w = valT T W F V k p)
    (hf : ∀ lo hi l r, d = .fork lo hi l r → l < S.gv ∧ r < S.gv ∧ lo + 2 ≤ hi ∧ (S.ds l).lo = lo ∧ (S.ds l).hi = (lo + hi) / 2 ∧ (S.ds r).lo = (lo + hi) / 2 ∧ (S.ds r).hi = hi ∧
      ow l = last T W k lo ((lo + hi) / 2) ∧ ow r = last T W k ((lo + hi) / 2) hi) (hi : last T W k d.lo d.hi = k)
    (fresh : ∀ y, y < S.gv → ow y = k → (S.ds y).lo = d.lo → (S.ds y).hi = d.hi → False) : Stat (S.lay d) (upf ow S.gv k) T W F V M := by
  have old : ∀ y, y < S.gv → (S.lay d).ds y = S.ds y ∧ upf ow S.gv k y = ow y := fun y hy => ⟨upf_ne (by omega), upf_ne (by omega)⟩
  have new : (S.lay d).ds S.gv = d ∧ upf ow S.gv k S.gv = k := ⟨upf_same, upf_same⟩
  have split : ∀ y, y < (S.lay d).gv → y < S.gv ∨ y = S.gv := fun y (hy : y < S.gv + 1) => by omega
  refine ⟨fun y hy => ?_, fun y hy => ?_, fun y p w hy e => ?_, fun y lo hi2 l r hy e => ?_, fun y hy => ?_, fun y z hy hz e1 e2 e3 => ?_⟩
  · rcases split y hy with c | rfl
    · rw [(old y c).2]; exact h.own y c
    · rw [new.2]; exact hk
  · rcases split y hy with c | rfl
    · rw [(old y c).1]; exact h.rng y c
    · rw [new.1]; exact hr
  · rcases split y hy with c | rfl
    · rw [(old y c).1] at e; rw [(old y c).2]; exact h.leaf y p w c e
    · rw [new.1] at e; rw [new.2]; exact hl p w e
  · rcases split y hy with c | rfl
    · rw [(old y c).1] at e
      obtain ⟨h1, h2, h3⟩ := h.fork y lo hi2 l r c e
      rw [(old y c).2, (old l (by omega)).1, (old l (by omega)).2, (old r (by omega)).1, (old r (by omega)).2]
      exact ⟨h1, h2, h3⟩
    · rw [new.1] at e
      obtain ⟨h1, h2, h3⟩ := hf lo hi2 l r e
      rw [new.2, (old l h1).1, (old l h1).2, (old r h2).1, (old r h2).2]
      exact ⟨h1, h2, h3⟩
  · rcases split y hy with c | rfl
    · rw [(old y c).1, (old y c).2]; exact h.idem y c
    · rw [new.1, new.2]; exact hi
  · rcases split y hy with c | rfl
    · rw [(old y c).1, (old y c).2] at *
      rcases split z hz with c2 | rfl
      · rw [(old z c2).1] at e2 e3
        rw [(old z c2).2] at e1
        exact h.inj y z c c2 e1 e2 e3
      · rw [new.1] at e2 e3
        rw [new.2] at e1
        exact (fresh y c e1 e2 e3).elim
    · rcases split z hz with c2 | rfl
      · rw [(old z c2).1, new.1] at e2 e3
        rw [(old z c2).2, new.2] at e1
        exact (fresh z c2 e1.symm e2.symm e3.symm).elim
      · rfl
end
/-- the numbers from x down to a place -/
inductive Way (S : PS) (p : Nat) : Nat → List Nat → Prop
  | leaf {x q w} (e : S.ds x = .leaf q w) : Way S p x [x]
  | fork {x lo hi l r t} (e : S.ds x = .fork lo hi l r) (h : Way S p (if p < (lo + hi) / 2 then l else r) t) : Way S p x (x :: t)
theorem Way.get {S : PS} {p x : Nat} {ws : List Nat} (h : Way S p x ws) : ws[0]? = some x ∧ (∀ i y z, ws[i]? = some y → ws[i + 1]? = some z → ∃ lo hi l r, S.ds y = .fork lo hi l r ∧ z = if p < (lo + hi) / 2 then l else r) ∧ ∃ y q w, ws.getLast? = some y ∧ S.ds y = .leaf q w := by
  induction h with
  | leaf e => exact ⟨rfl, fun i y z h1 h2 => by simp at h2, _, _, _, rfl, e⟩
  | @fork x lo hi l r t e h ih =>
    obtain ⟨h0, h1, y, q, w, h2, h3⟩ := ih
    refine ⟨rfl, fun i y z g1 g2 => ?_, y, q, w, ?_, h3⟩
    · cases i with
      | zero =>
        have : x = y := Option.some.inj g1
        subst this
        have g2 : t[0]? = some z := g2
        rw [h0] at g2
        exact ⟨lo, hi, l, r, e, (Option.some.inj g2).symm⟩
      | succ i => exact h1 i y z g1 g2
    · cases t with
      | nil => cases h0
      | cons a t => rw [List.getLast?_cons_cons]; exact h2
end Mk

/-! M4: the parts beneath a part that meet a stretch. Plain Lean. -/
namespace Mk
def seg {α : Type} (f : Nat → α) (s e : Nat) : List α := (List.range (e - s)).map fun i => f (s + i)
theorem seg_append {α : Type} (f : Nat → α) {s m e : Nat} (h1 : s ≤ m) (h2 : m ≤ e) : seg f s m ++ seg f m e = seg f s e := by
  unfold seg
  rw [show e - s = (m - s) + (e - m) by omega, List.range_add, List.map_append, List.map_map]
  congr 1
  refine List.map_congr_left fun i _ => ?_
  show f (m + i) = f (s + (m - s + i))
  congr 1
  omega
theorem seg_nil {α : Type} (f : Nat → α) {s e : Nat} (h : e ≤ s) : seg f s e = [] := by
  unfold seg
  rw [show e - s = 0 by omega]
  rfl
theorem seg_len {α : Type} (f : Nat → α) {s e : Nat} : (seg f s e).length = e - s := by unfold seg; simp
theorem seg_congr {α : Type} {f g : Nat → α} {s e : Nat} (h : ∀ i, s ≤ i → i < e → f i = g i) : seg f s e = seg g s e := by
  unfold seg
  exact List.map_congr_left fun i hi => h _ (by omega) (by have := List.mem_range.mp hi; omega)
theorem seg_get {α : Type} (f : Nat → α) {s e i : Nat} (h : s + i < e) : (seg f s e)[i]? = some (f (s + i)) := by
  unfold seg
  rw [List.getElem?_map, List.getElem?_range (by omega)]
  rfl
def metT (S : PS) : Nat → Nat → Nat → Nat → List Nat
  | 0, _, _, _ => []
  | j + 1, x, lo, hi => if (S.ds x).hi ≤ lo ∨ hi ≤ (S.ds x).lo then [] else x :: (S.ds x).halves.flatMap fun h => metT S j h lo hi
def leafW (S : PS) (xs : List Nat) : List Int := xs.filterMap fun y => match S.ds y with
  | .leaf _ w => some w
  | _ => none
section
variable {S : PS} {ow : Nat → Nat} {T : Tre} {W : List Nat} {F Vs : List Int} {M : Nat}
theorem metT_leaf (st : Stat S ow T W F Vs M) {lo hi : Nat} (hl : lo < hi) : ∀ (j x : Nat), x < S.gv → (S.ds x).len < j → leafW S (metT S j x lo hi) = seg (fun p => valT T W F Vs (ow x) p) (max lo (S.ds x).lo) (min hi (S.ds x).hi) ∧ (metT S j x lo hi).length ≤ 2 * (S.ds x).len - 1 ∧ (∀ y ∈ metT S j x lo hi, y ≤ x)
  | 0, x, _, h => absurd h (Nat.not_lt_zero _)
  | j + 1, x, hx, h => by
    have rx := st.rng x hx
    by_cases c : (S.ds x).hi ≤ lo ∨ hi ≤ (S.ds x).lo
    · have e : metT S (j + 1) x lo hi = [] := if_pos c
      rw [e, seg_nil _ (by omega)]
      exact ⟨rfl, Nat.zero_le _, fun y hy => by cases hy⟩
    · have e : metT S (j + 1) x lo hi = x :: (S.ds x).halves.flatMap fun h => metT S j h lo hi := if_neg c
      cases d : S.ds x with
      | leaf p w =>
        rw [d] at rx c
        have c1 : ¬ (p + 1 ≤ lo ∨ hi ≤ p) := c
        have e2 : metT S (j + 1) x lo hi = [x] := by rw [e, d]; rfl
        rw [e2]
        refine ⟨?_, by show 1 ≤ 2 * (p + 1 - p) - 1; omega, fun y hy => by rw [List.mem_singleton.mp hy]; exact Nat.le_refl _⟩
        have e3 : leafW S [x] = [w] := by
          unfold leafW
          simp [d]
        rw [e3, st.leaf x p w hx d]
        show _ = seg _ (max lo p) (min hi (p + 1))
        rw [show max lo p = p by omega, show min hi (p + 1) = p + 1 by omega]
        unfold seg
        rw [show p + 1 - p = 1 by omega]
        rfl
      | fork a b l r =>
        obtain ⟨f1, f2, f3, f4, f5, f6, f7, f8, f9⟩ := st.fork x a b l r hx d
        rw [d] at c h
        have c1 : ¬ (b ≤ lo ∨ hi ≤ a) := c
        have h1 : b - a < j + 1 := h
        obtain ⟨i1, i2, i3⟩ := metT_leaf st hl j l (by omega) (by unfold Prt.len; omega)
        obtain ⟨k1, k2, k3⟩ := metT_leaf st hl j r (by omega) (by unfold Prt.len; omega)
        have e2 : metT S (j + 1) x lo hi = x :: (metT S j l lo hi ++ metT S j r lo hi) := by rw [e, d]; simp [Prt.halves]
        rw [e2]
        unfold Prt.len at i2 k2 ⊢
        rw [f4, f5] at i1 i2
        rw [f6, f7] at k1 k2
        refine ⟨?_, ?_, fun y hy => ?_⟩
        · have e3 : leafW S (x :: (metT S j l lo hi ++ metT S j r lo hi)) = leafW S (metT S j l lo hi) ++ leafW S (metT S j r lo hi) := by
            unfold leafW
            rw [List.filterMap_cons, List.filterMap_append]
            simp [d]
          rw [e3, i1, k1]
          have g1 : seg (fun p => valT T W F Vs (ow l) p) (max lo a) (min hi ((a + b) / 2)) = seg (fun p => valT T W F Vs (ow x) p) (max lo a) (min hi ((a + b) / 2)) := seg_congr fun i h1 h2 => by
            rw [f8, valT_last (by omega) (by omega)]
          have g2 : seg (fun p => valT T W F Vs (ow r) p) (max lo ((a + b) / 2)) (min hi b) = seg (fun p => valT T W F Vs (ow x) p) (max lo ((a + b) / 2)) (min hi b) := seg_congr fun i h1 h2 => by
            rw [f9, valT_last (by omega) (by omega)]
          rw [g1, g2]
          show _ = seg _ (max lo a) (min hi b)
          by_cases m1 : (a + b) / 2 ≤ lo
          · rw [seg_nil _ (show min hi ((a + b) / 2) ≤ max lo a by omega), List.nil_append, show max lo ((a + b) / 2) = max lo a by omega]
          · by_cases m2 : hi ≤ (a + b) / 2
            · rw [seg_nil _ (show min hi b ≤ max lo ((a + b) / 2) by omega), List.append_nil, show min hi ((a + b) / 2) = min hi b by omega]
            · rw [show min hi ((a + b) / 2) = (a + b) / 2 by omega, show max lo ((a + b) / 2) = (a + b) / 2 by omega]
              exact seg_append _ (by omega) (by omega)
        · rw [List.length_cons, List.length_append]
          show _ ≤ 2 * (b - a) - 1
          omega
        · rcases List.mem_cons.mp hy with z | z
          · rw [z]; exact Nat.le_refl _
          · rcases List.mem_append.mp z with z | z
            · have := i3 y z; omega
            · have := k3 y z; omega
/-- they are kept, too -/
theorem metT_al (cl : ∀ x, S.al x = true → ∀ h ∈ (S.ds x).halves, h < x ∧ S.al h = true) {lo hi : Nat} : ∀ (j x : Nat), S.al x = true → ∀ y ∈ metT S j x lo hi, S.al y = true
  | 0, x, _ => fun y hy => by cases hy
  | j + 1, x, hx => fun y hy => by
    unfold metT at hy
    split at hy
    · cases hy
    · rcases List.mem_cons.mp hy with z | z
      · rw [z]; exact hx
      · obtain ⟨h, h1, h2⟩ := List.mem_flatMap.mp z
        exact metT_al cl j h (cl x hx h h1).2 y h2
end
theorem flat_len {f : Nat → List Nat} {B : Nat} : ∀ {l : List Nat}, (∀ h ∈ l, (f h).length ≤ B) → (l.flatMap f).length ≤ l.length * B
  | [], _ => Nat.zero_le _
  | a :: l, h => by
    rw [List.flatMap_cons, List.length_append, List.length_cons, Nat.succ_mul]
    have := h a List.mem_cons_self
    have := flat_len (l := l) fun x hx => h x (List.mem_cons_of_mem _ hx)
    omega
theorem last_all {T : Tre} {W : List Nat} {n m : Nat} (hW : W.length = T.length) (hp : ∀ p ∈ W, p < n) (hm : m ≤ T.length) : last T W m 0 n = m := by
  by_cases h : 0 < m
  · refine last_yes h ⟨Nat.zero_le _, hp _ ?_⟩
    unfold wsv
    rw [List.getD_eq_getElem?_getD, List.getElem?_eq_getElem (by omega)]
    exact List.getElem_mem _
  · have : m = 0 := by omega
    subst this
    exact last_zero
end Mk

/-! B5: receivers under a block -/
namespace Mk
open L2 PySem PySem.Spec PyProof.Rows
theorem lookup_keys {m : Str} : ∀ {fs gs : List (Str × V)}, fs.map (·.1) = gs.map (·.1) → gs.lookup m = none → fs.lookup m = none
  | [], [], _, _ => rfl
  | [], _ :: _, h, _ => by cases h
  | _ :: _, [], h, _ => by cases h
  | (f, x) :: fs, (g, y) :: gs, h, n => by
    simp only [List.map_cons, List.cons.injEq] at h
    obtain ⟨rfl, h⟩ := h
    simp only [List.lookup] at n ⊢
    split
    · rename_i e; rw [e] at n; cases n
    · rename_i e; rw [e] at n; exact lookup_keys h n
section
variable {H : Hp} {Bs L : List Blk} {b : Blk} {C a : Addr} {S : PS} {T : Tre} {m : Str} {Z : Prop}
theorem parts_rcv (hb : HB H Bs) (hp : Parts C a S b) (hm : b ∈ Bs) (n : (partsF 0 0 0 0).lookup m = none) (h : Z) : ∃ a' dx fs, V.ref a = .ref a' ∧ H a' = some (.ins C dx fs) ∧ fs.lookup m = none ∧ Z := by
  obtain ⟨_, dx, dl, dp, dh, kl, kp, kh, ta, rfl, _⟩ := hp
  exact ⟨a, dx, _, rfl, hb.mem hm (List.mem_cons_self ..), lookup_keys (gs := partsF 0 0 0 0) rfl n, h⟩
theorem tree_rcv (hb : HB H Bs) (hp : Tree C a T b) (hm : b ∈ Bs) (n : (treeF 0 0 0).lookup m = none) (h : Z) : ∃ a' dx fs, V.ref a = .ref a' ∧ H a' = some (.ins C dx fs) ∧ fs.lookup m = none ∧ Z := by
  obtain ⟨_, dx, o, d, l, g, rfl⟩ := hp
  exact ⟨a, dx, _, rfl, hb.mem hm (List.mem_cons_self ..), lookup_keys (gs := treeF 0 0 0) rfl n, h⟩
end
def RevR (K : PySem.W.Frag) (v : V) (H : Hp) (R : It → Hp → Prop) : Prop := ∃ (a : Addr) (xs : List V), v = .ref a ∧ ((SqL K H a xs ∧ R (Itv K a xs.length) H) ∨ (SqT K H a xs ∧ R (RT.ItvT K a xs.length) H))
section
variable {K : PySem.W.Frag} {σ : L2.St} {H : Hp} {R : It → Hp → Prop} {te : TE} {p : Addr} {xs : List V} {ys : List Nat}
theorem r_iRevA (h : te σ H fun v H1 => RevR K v H1 R) : RT.iRevA K te σ H R := h
theorem r_revL (e : SqL K H p xs) (h : R (Itv K p xs.length) H) : RevR K (.ref p) H R := ⟨p, xs, rfl, Or.inl ⟨e, h⟩⟩
theorem walk_revIv : Walk (Itv K p ys.length) ys.length (fun H => SqL K H p (iv ys)) (fun i H x H' => H' = H ∧ ∃ y, ys[ys.length - 1 - i]? = some y ∧ x = .int (y : Int)) := by
  have w := walk_rev (K := K) (a := p) (xs := iv ys)
  rw [iv_len] at w
  refine ⟨w.1, w.2, fun i H x H' hi g y => ?_⟩
  obtain ⟨h1, h2⟩ := w.3 i H x H' hi g y
  have e : ys[ys.length - 1 - i]? = some ys[ys.length - 1 - i] := List.getElem?_eq_getElem (by omega)
  rw [iv_get e] at h2
  exact ⟨h1, _, e, (Option.some.inj h2).symm⟩
theorem cut_butlast : cutV (iv ys) none (some (-1)) = iv ys.dropLast := by
  have e : HT.sIx (iv ys).length (iv ys).length (some (-1)) = (iv ys).length - 1 := by
    show (if (-1 : Int) < 0 then ((-1 : Int) + ((iv ys).length : Int)).toNat else min (-1 : Int).toNat (iv ys).length) = _
    rw [if_pos (by decide)]
    omega
  show List.take (HT.sIx (iv ys).length (iv ys).length (some (-1)) - 0) (List.drop 0 (iv ys)) = _
  rw [e, Nat.sub_zero, List.drop_zero, ← List.dropLast_eq_take]
  unfold iv
  rw [List.map_dropLast]
end
/-- whose the parts of a way are -/
theorem way_ow {S : PS} {ow : Nat → Nat} {T : Tre} {W : List Nat} {F Vs : List Int} {M m p : Nat} (st : Stat S ow T W F Vs M) {x : Nat} {ws : List Nat} (h : Way S p x ws) (hx : x < S.gv) (hp : ow x = last T W m (S.ds x).lo (S.ds x).hi) :
    ∀ y ∈ ws, ow y = last T W m (S.ds y).lo (S.ds y).hi := by
  induction h with
  | @leaf x q w e =>
    intro y hy
    rw [List.mem_singleton.mp hy]
    exact hp
  | @fork x lo hi l r t e h ih =>
    obtain ⟨f1, f2, f3, f4, f5, f6, f7, f8, f9⟩ := st.fork x lo hi l r hx e
    rw [e] at hp
    have hp : ow x = last T W m lo hi := hp
    intro y hy
    rcases List.mem_cons.mp hy with c | c
    · rw [c, e]; exact hp
    · refine ih ?_ ?_ y c
      · split <;> omega
      · split
        · rw [f8, hp, f4, f5, last_sub (Nat.le_refl _) (by omega)]
        · rw [f9, hp, f6, f7, last_sub (by omega) (Nat.le_refl _)]
end Mk

/-! B6: the block of a row: its tree, places, which makes are kept; what a way adds -/
namespace Mk
open L2 PySem PySem.Spec PyProof.Rows
def maxW : Int := 10 ^ 30 - 1
def isW (i : Int) : Bool := decide (0 - maxW ≤ i ∧ i ≤ maxW)
structure Mdl where
  T : Tre
  W : List Nat
  F : List Int
  Vs : List Int
  gone : List Bool
abbrev Mdl.kept (M : Mdl) (m : Nat) : Prop := M.gone[m]? = some false
def Mdl.val (M : Mdl) (m p : Nat) : Int := valT M.T M.W M.F M.Vs m p
def Mdl.last (M : Mdl) (m lo hi : Nat) : Nat := Mk.last M.T M.W m lo hi
structure MdlOk (M : Mdl) : Prop where
  t : TreG M.T
  w : M.W.length = M.T.length
  v : M.Vs.length = M.T.length
  g : M.gone.length = M.T.length + 1
  f : 1 ≤ M.F.length ∧ M.F.length ≤ 16
  fw : ∀ x ∈ M.F, isW x = true
  wp : ∀ p ∈ M.W, p < M.F.length
  vw : ∀ x ∈ M.Vs, isW x = true
def wv (W : List Nat) : Nat → V := fun m => if m = 0 then .non else .int (wsv W m : Nat)
abbrev rowF (n : Nat) (t wr gn : Addr) (c : Int) (ef : List (Str × V)) : List (Str × V) := ("wide", .int (n : Int)) :: ("grown", .ref t) :: ("wrote", .ref wr) :: ("gone", .ref gn) :: ("counted", .int c) :: ef
def rowB (C a dx t wr gn : Addr) (c : Int) (M : Mdl) (ef : List (Str × V)) (tb eb : Blk) : Blk := (a, .ins C dx (rowF M.F.length t wr gn c ef)) :: (wr, .lst (rm (M.T.length + 1) (wv M.W))) :: (gn, .lst (M.gone.map V.bl)) :: (tb ++ eb)
def Row (CL C : Addr) (ks : List Str) (a : Addr) (M : Mdl) (ef : List (Str × V)) (eb b : Blk) : Prop := MdlOk M ∧ ef.map (·.1) = ks ∧ ∃ dx t wr gn c tb, b = rowB C a dx t wr gn c M ef tb eb ∧ Tree CL t M.T tb
section
variable {H : Hp} {L : List Blk} {C a dx t wr gn : Addr} {c : Int} {M : Mdl} {ef : List (Str × V)} {tb eb : Blk} {m p : Nat}
theorem row_open (h : HB H (rowB C a dx t wr gn c M ef tb eb :: L)) : HB H ([(a, .ins C dx (rowF M.F.length t wr gn c ef))] :: [(wr, .lst (rm (M.T.length + 1) (wv M.W)))] :: [(gn, .lst (M.gone.map V.bl))] :: tb :: eb :: L) := by
  have h2 : HB H ([(a, .ins C dx (rowF M.F.length t wr gn c ef))] :: [(wr, .lst (rm (M.T.length + 1) (wv M.W)))] :: [(gn, .lst (M.gone.map V.bl))] :: (tb ++ eb) :: L) := h
  unfold HB at *
  simp only [List.flatten_cons, List.append_assoc] at *
  exact h2
theorem row_close (h : HB H ([(a, .ins C dx (rowF M.F.length t wr gn c ef))] :: [(wr, .lst (rm (M.T.length + 1) (wv M.W)))] :: [(gn, .lst (M.gone.map V.bl))] :: tb :: eb :: L)) : HB H (rowB C a dx t wr gn c M ef tb eb :: L) := by
  have h2 : HB H ([(a, .ins C dx (rowF M.F.length t wr gn c ef))] :: [(wr, .lst (rm (M.T.length + 1) (wv M.W)))] :: [(gn, .lst (M.gone.map V.bl))] :: (tb ++ eb) :: L) := by
    unfold HB at *
    simp only [List.flatten_cons, List.append_assoc] at *
    exact h
  exact h2
theorem row_close1 {b : Blk} (h : HB H (b :: [(a, .ins C dx (rowF M.F.length t wr gn c ef))] :: [(wr, .lst (rm (M.T.length + 1) (wv M.W)))] :: [(gn, .lst (M.gone.map V.bl))] :: tb :: eb :: L)) : HB H (b :: rowB C a dx t wr gn c M ef tb eb :: L) :=
  (row_close (L := b :: L) (h.sub_of (.cons (.next .here) (.cons (.next .here) (.cons (.next .here) (.cons (.next .here) (.cons (.next .here) .refl))))))).swap
abbrev keyF (ks : List Str) : List (Str × V) := rowF 0 0 0 0 0 (ks.map fun k => (k, V.non))
theorem keyF_eq {n : Nat} {ks : List Str} (h : ef.map (·.1) = ks) : (rowF n t wr gn c ef).map (·.1) = (keyF ks).map (·.1) := by
  subst h
  simp [keyF, rowF]
theorem row_rcv {Bs : List Blk} {b : Blk} {mm : Str} {ks : List Str} {Z : Prop} {CL : Addr} (hb : HB H Bs) (hp : Row CL C ks a M ef eb b) (hm : b ∈ Bs) (n : (keyF ks).lookup mm = none) (h : Z) : ∃ a' dx fs, V.ref a = .ref a' ∧ H a' = some (.ins C dx fs) ∧ fs.lookup mm = none ∧ Z := by
  obtain ⟨_, hk, dx, t, wr, gn, c, tb, rfl, _⟩ := hp
  exact ⟨a, dx, _, rfl, hb.mem hm (List.mem_cons_self ..), lookup_keys (gs := keyF ks) (keyF_eq hk) n, h⟩
theorem r_meth1e {mm : Str} {ks : List Str} {n : Nat} {Z : Prop} (e : H a = some (.ins C dx (rowF n t wr gn c ef))) (hk : ef.map (·.1) = ks) (l : (keyF ks).lookup mm = none) (h : Z) : ∃ a' dx fs, V.ref a = .ref a' ∧ H a' = some (.ins C dx fs) ∧ fs.lookup mm = none ∧ Z :=
  ⟨a, dx, _, rfl, e, lookup_keys (gs := keyF ks) (keyF_eq hk) l, h⟩
theorem MdlOk.le (o : MdlOk M) (h : M.kept m) : m ≤ M.T.length := by
  obtain ⟨z, _⟩ := List.getElem?_eq_some_iff.mp h
  have := o.g
  omega
theorem atI_gone {b : Bool} (h : M.gone[m]? = some b) : atI (M.gone.map V.bl) (m : Int) = some (.bl b) := atI_nat (by rw [List.getElem?_map, h]; rfl)
theorem wv_pos (h : 0 < m) (W : List Nat) : wv W m = .int (wsv W m : Nat) := by
  unfold wv
  rw [if_neg (by omega)]
theorem wr_snoc {W : List Nat} {p : Nat} : rm (W.length + 1) (wv W) ++ [.int (p : Int)] = rm ((W ++ [p]).length + 1) (wv (W ++ [p])) := by
  rw [show (W ++ [p]).length + 1 = W.length + 1 + 1 by simp, rm_succ (n := W.length + 1)]
  have e : wv (W ++ [p]) (W.length + 1) = .int (p : Int) := by
    rw [wv_pos (by omega), wsv_new]
  rw [e]
  congr 1
  refine rm_congr fun i hi => ?_
  unfold wv
  by_cases c : i = 0
  · rw [if_pos c, if_pos c]
  · rw [if_neg c, if_neg c, wsv_snoc (by omega) (by omega)]
def Mdl.put (M : Mdl) (m p : Nat) (w : Int) : Mdl := ⟨M.T ++ [m], M.W ++ [p], M.F, M.Vs ++ [w], M.gone ++ [false]⟩
def Mdl.free (M : Mdl) (m : Nat) : Mdl := { M with gone := M.gone.set m true }
theorem MdlOk.put {w : Int} (o : MdlOk M) (hm : m ≤ M.T.length) (hl : M.T.length < 63) (hp : p < M.F.length) (hw : isW w = true) : MdlOk (M.put m p w) := by
  refine ⟨o.t.snoc hm hl, ?_, ?_, ?_, o.f, o.fw, fun q hq => ?_, fun x hx => ?_⟩
  · show (M.W ++ [p]).length = (M.T ++ [m]).length
    rw [List.length_append, List.length_append, o.w]; rfl
  · show (M.Vs ++ [w]).length = (M.T ++ [m]).length
    rw [List.length_append, List.length_append, o.v]; rfl
  · show (M.gone ++ [false]).length = (M.T ++ [m]).length + 1
    rw [List.length_append, List.length_append, o.g]; rfl
  · rcases List.mem_append.mp hq with c | c
    · exact o.wp q c
    · rw [List.mem_singleton.mp c]; exact hp
  · rcases List.mem_append.mp hx with c | c
    · exact o.vw x c
    · rw [List.mem_singleton.mp c]; exact hw
theorem MdlOk.free (o : MdlOk M) : MdlOk (M.free m) := ⟨o.t, o.w, o.v, by show (M.gone.set m true).length = _; rw [List.length_set]; exact o.g, o.f, o.fw, o.wp, o.vw⟩
theorem kept_put {w : Int} {x : Nat} (o : MdlOk M) : (M.put m p w).kept x ↔ M.kept x ∨ x = M.T.length + 1 := by
  unfold Mdl.kept Mdl.put
  have g := o.g
  dsimp only
  by_cases c : x < M.gone.length
  · rw [List.getElem?_append_left c]
    constructor
    · exact Or.inl
    · rintro (h | h)
      · exact h
      · omega
  · by_cases c2 : x = M.gone.length
    · subst c2
      rw [List.getElem?_append_right (Nat.le_refl _), Nat.sub_self]
      constructor
      · intro _; exact Or.inr (by omega)
      · intro _; rfl
    · rw [List.getElem?_eq_none (by simp; omega)]
      constructor
      · intro h; cases h
      · rintro (h | h)
        · rw [List.getElem?_eq_none (by omega)] at h; cases h
        · omega
theorem kept_free {x : Nat} : (M.free m).kept x ↔ M.kept x ∧ x ≠ m := by
  unfold Mdl.kept Mdl.free
  dsimp only
  rw [List.getElem?_set]
  by_cases c : m = x
  · rw [if_pos c]
    constructor
    · intro h
      split at h <;> cases h
    · rintro ⟨_, h⟩; exact absurd c.symm h
  · rw [if_neg c]
    exact ⟨fun h => ⟨h, fun z => c z.symm⟩, fun h => h.1⟩
/-- the kept makes, rising -/
def Mdl.keptL (M : Mdl) : List Nat := (List.range (M.T.length + 1)).filter fun m => decide (M.kept m)

theorem keptL_mem (o : MdlOk M) : m ∈ M.keptL ↔ M.kept m := by
  unfold Mdl.keptL
  rw [List.mem_filter, List.mem_range, decide_eq_true_eq]
  constructor
  · exact fun h => h.2
  · exact fun h => ⟨by have := o.le h; omega, h⟩
def keptUp (M : Mdl) (i : Nat) : List Nat := (List.range i).filter fun m => decide (M.kept m)
theorem keptUp_succ {i : Nat} : keptUp M (i + 1) = if M.kept i then keptUp M i ++ [i] else keptUp M i := by
  unfold keptUp
  rw [List.range_succ, List.filter_append]
  by_cases c : M.kept i
  · have e : decide (M.kept i) = true := decide_eq_true c
    rw [if_pos c, List.filter_cons_of_pos (p := fun m => decide (M.kept m)) e, List.filter_nil]
  · have e : ¬ decide (M.kept i) = true := fun z => c (of_decide_eq_true z)
    rw [if_neg c, List.filter_cons_of_neg (p := fun m => decide (M.kept m)) e, List.filter_nil, List.append_nil]
theorem keptUp_len {i : Nat} : (keptUp M i).length ≤ i := by
  have := List.length_filter_le (fun m => decide (M.kept m)) (List.range i)
  rwa [List.length_range] at this
theorem keptL_len : M.keptL.length ≤ M.T.length + 1 := keptUp_len
theorem keptL_lt {x : Nat} (o : MdlOk M) (h : x ∈ M.keptL) : x ≤ M.T.length := o.le ((keptL_mem o).mp h)
end
/-- a pair that is taken apart -/
theorem walk_enumB {K : PySem.W.Frag} {a : Addr} {bs : List Bool} : Walk (Ite K a) bs.length (fun H => SqL K H a (bs.map V.bl)) (fun i H v H' => ∃ T b, v = .ref T ∧ H T = none ∧ H' = upd H T (.tup [.int (i : Nat), .bl b]) ∧ bs[i]? = some b) := by
  have w := walk_enum (K := K) (a := a) (xs := bs.map V.bl)
  rw [List.length_map] at w
  refine ⟨w.1, w.2, fun i H v H' hi g y => ?_⟩
  obtain ⟨T, x, z, h1, h2, h3, h4, h5⟩ := w.3 i H v H' hi g y
  cases h4
  replace h5 : (bs.map V.bl)[i]? = some z := h5
  rw [List.getElem?_map] at h5
  cases e : bs[i]? with
  | none => rw [e] at h5; cases h5
  | some b =>
    rw [e] at h5
    cases h5
    exact ⟨T, b, h1, h2, h3, rfl⟩
theorem r_gsub {to ti : TE} {t : TSet} {v : V} {σ : L2.St} {H : Hp} {S : L2.St → Hp → Prop} (h : to σ H fun o H1 => ti σ H1 fun i H2 => t o i v H2 fun H3 => S σ H3) : gSub to ti t v σ H S := h
theorem r_setLst {H : Hp} {Bs Cs : List Blk} {p : Addr} {xs : List V} {j : Nat} {v : V} {S : Hp → Prop} (hb : HB H Bs) (pt : Put Bs p (.lst xs) (.lst (xs.set j v)) Cs) (hj : j < xs.length) (h : ∀ H', HB H' Cs → S H') : rSetL (.ref p) (.int (j : Int)) v H S := by
  refine ⟨p, xs, j, j, rfl, rfl, hb.at_put pt, ?_, h _ (hb.put pt rfl rfl)⟩
  unfold ixN
  rw [if_pos (by omega), if_pos (by omega), Int.toNat_natCast]
def DispR (p : Addr) (ps : List (V × V)) (H : Hp) (Q : VK) : Prop := H p = some (.dK []) ∧ ∃ kvs : KD, ps = kvs.map (fun kv => (kV kv.1, kv.2)) ∧ kvs.length ≤ 15 ∧ Q (.ref p) (upd H p (.dK (mergeK [] kvs)))
theorem r_disp {trs : List (TE × TE)} {σ : L2.St} {H : Hp} {Q : VK} (h : NewR H (.dK []) fun p H1 => tPairs trs σ H1 fun ps H2 => DispR p ps H2 Q) : tDisp trs σ H Q := h
theorem r_pnil {σ : L2.St} {H : Hp} {S : List (V × V) → Hp → Prop} (h : S [] H) : tPairs [] σ H S := h
theorem r_pcons {tk tv : TE} {r : List (TE × TE)} {σ : L2.St} {H : Hp} {S : List (V × V) → Hp → Prop} (h : tk σ H fun k H1 => tv σ H1 fun v H2 => tPairs r σ H2 fun ps H3 => S ((k, v) :: ps) H3) : tPairs ((tk, tv) :: r) σ H S := h
theorem r_disp2 {p : Addr} {ps : List (V × V)} {H : Hp} {Q : VK} {Bs Cs : List Blk} (kvs : KD) (hb : HB H Bs) (pt : Put Bs p (.dK []) (.dK kvs) Cs) (e : ps = kvs.map (fun kv => (kV kv.1, kv.2))) (m : mergeK [] kvs = kvs) (l : kvs.length ≤ 15) (h : ∀ H', HB H' Cs → Q (.ref p) H') : DispR p ps H Q :=
  ⟨hb.at_put pt, kvs, e, l, by rw [m]; exact h _ (hb.put pt rfl rfl)⟩
theorem r_dget1i {H : Hp} {a : Addr} {kvs : KD} {i : Int} {v : V} {S : V → Prop} (e : H a = some (.dK kvs)) (l : valV kvs (.inl i) = some v) (h : S v) : ∃ b w, V.ref a = .ref b ∧ DGet H b (.int i) (some w) ∧ S w := ⟨a, v, rfl, .inl ⟨kvs, .inl i, .inl e, rfl, l.symm⟩, h⟩
/-! ### isinstance of an instance -/
def kitOk (K : PySem.W.Frag) (p : Str × Str × Bool) : Bool := decide (PySem.W.findIn K (.ref (He.ga K p.1)) "__class__" = some (some (.builtin "object.__class__"))) && (decide (PySem.W.specialIn K (.builtin "object.__class__") "__get__" = some (some (.builtin "getset_descriptor.__get__"))) &&
  (decide (PySem.W.takesIn K (.builtin "object.__class__") = some true) && (decide (PySem.W.mroIn K (He.ga K p.1) (.type "object") = some true) && decide (PySem.W.kitOne K (.ref (He.ga K p.1)) (.ref (He.ga K p.2.1)) = some p.2.2))))
theorem r_isIns {K : PySem.W.Frag} {x y : Str} {b : Bool} {H : Hp} {Q : VK} {a dx : Addr} {fs : List (Str × V)} (e : H a = some (.ins (He.ga K x) dx fs)) (k : kitOk K (x, y, b) = true) (cl : Cls K (He.ga K x)) (h : Q (.bl b) H) : rIsi K [.ref a, .ref (He.ga K y)] H Q := by
  obtain ⟨k1, k⟩ := He.ba k
  obtain ⟨k2, k⟩ := He.ba k
  obtain ⟨k3, k⟩ := He.ba k
  obtain ⟨k4, k5⟩ := He.ba k
  exact ⟨.ref a, .ref (He.ga K y), .ref (He.ga K x), .ref (He.ga K y), b, rfl, .own _, .base (.ins e cl (of_decide_eq_true k1) (of_decide_eq_true k2) (of_decide_eq_true k3) (of_decide_eq_true k4)), of_decide_eq_true k5, h⟩
theorem row_ins {H : Hp} {Bs : List Blk} {b eb : Blk} {CL C a : Addr} {ks : List Str} {M : Mdl} {ef : List (Str × V)} (hb : HB H Bs) (hp : Row CL C ks a M ef eb b) (hm : b ∈ Bs) : ∃ dx fs, H a = some (.ins C dx fs) := by
  obtain ⟨_, hk, dx, t, wr, gn, c, tb, rfl, _⟩ := hp
  exact ⟨dx, _, hb.mem hm (List.mem_cons_self ..)⟩
end Mk

/-! M5: unlike places. Plain Lean. -/
namespace Mk
/-- of two makes with unlike worths at a place, one on the way between them wrote it -/
theorem last_up {T : Tre} {W : List Nat} {lo hi r : Nat} : ∀ (m : Nat), An T r m → (∀ y, An T r y → An T y m → y ≠ r → ¬ (lo ≤ wsv W y ∧ wsv W y < hi)) → last T W m lo hi = last T W r lo hi := by
  intro m
  induction m using Nat.strongRecOn with
  | ind m ih =>
    intro h hy
    by_cases c : m = r
    · rw [c]
    · have hr := h.le
      have h0 : 0 < m := by omega
      have hp := h.par (fun e => c e.symm)
      rw [last_no h0 (hy m h (An.refl m) c), ih _ (par_lt h0) hp fun y h1 h2 h3 => hy y h1 h2.up h3]
/-- a strictly rising list is known by its members -/
theorem rising_eq : ∀ {xs ys : List Int}, xs.Pairwise (· < ·) → ys.Pairwise (· < ·) → (∀ k, k ∈ xs ↔ k ∈ ys) → xs = ys
  | [], [], _, _, _ => rfl
  | [], y :: ys, _, _, h => absurd ((h y).mpr List.mem_cons_self) (by simp)
  | x :: xs, [], _, _, h => absurd ((h x).mp List.mem_cons_self) (by simp)
  | x :: xs, y :: ys, p, q, h => by
    obtain ⟨p1, p2⟩ := List.pairwise_cons.mp p
    obtain ⟨q1, q2⟩ := List.pairwise_cons.mp q
    have e : x = y := by
      rcases List.mem_cons.mp ((h x).mp List.mem_cons_self) with c | c
      · exact c
      · rcases List.mem_cons.mp ((h y).mpr List.mem_cons_self) with d | d
        · exact d.symm
        · have := q1 x c
          have := p1 y d
          omega
    subst e
    refine congrArg (x :: ·) (rising_eq p2 q2 fun k => ?_)
    constructor
    · intro hk
      rcases List.mem_cons.mp ((h k).mp (List.mem_cons_of_mem _ hk)) with c | c
      · have := p1 k hk; omega
      · exact c
    · intro hk
      rcases List.mem_cons.mp ((h k).mpr (List.mem_cons_of_mem _ hk)) with c | c
      · have := q1 k hk; omega
      · exact c
end Mk
namespace Mk
/-- how many pairs of parts are looked at beneath a stretch -/
def pcnt (a b : Nat → Nat → Nat) : Nat → Nat → Nat → Nat
  | 0, _, _ => 0
  | j + 1, lo, hi => if a lo hi = b lo hi ∨ hi - lo = 1 then 1 else 1 + pcnt a b j lo ((lo + hi) / 2) + pcnt a b j ((lo + hi) / 2) hi
theorem pcnt_fuel {a b : Nat → Nat → Nat} : ∀ {j k lo hi : Nat}, lo < hi → hi - lo < j → hi - lo < k → pcnt a b j lo hi = pcnt a b k lo hi
  | 0, _, _, _, _, h, _ => absurd h (Nat.not_lt_zero _)
  | _, 0, _, _, _, _, h => absurd h (Nat.not_lt_zero _)
  | j + 1, k + 1, lo, hi, h0, h1, h2 => by
    unfold pcnt
    split
    · rfl
    · rename_i c
      have hc : hi - lo ≠ 1 := fun z => c (Or.inr z)
      rw [pcnt_fuel (j := j) (k := k) (by omega) (by omega) (by omega), pcnt_fuel (j := j) (k := k) (lo := (lo + hi) / 2) (by omega) (by omega) (by omega)]
end Mk

/-! B7: in, of lists of numbers -/
namespace Mk
open L2 PySem PySem.Spec PyProof.Rows
theorem inV_iv {m : Nat} {xs : List Nat} : inV (.int (m : Int)) (iv xs) = decide (m ∈ xs) := by
  induction xs with
  | nil => rfl
  | cons x xs ih =>
    have e : iv (x :: xs) = .int (x : Int) :: iv xs := rfl
    rw [e]
    unfold inV at ih ⊢
    rw [List.any_cons, ih]
    by_cases c : m = x
    · subst c
      simp [eqV]
    · have : ¬ (x : Int) = (m : Int) := by omega
      simp [c, this, eqV]
theorem flat_iv {xs : List Nat} : (iv xs).all flatV = true := by
  unfold iv
  simp [flatV]
theorem r_inIv {K : PySem.W.Frag} {neg : Bool} {m : Nat} {xs : List Nat} {p : Addr} {H : Hp} {Q : VK} (e : SqL K H p (iv xs)) (h : Q (.bl (if neg then !decide (m ∈ xs) else decide (m ∈ xs))) H) : rIn K neg (.int (m : Int)) (.ref p) H Q :=
  ⟨p, iv xs, rfl, Or.inl e, rfl, flat_iv, by rw [inV_iv]; exact h⟩
end Mk
namespace Mk
open L2 PySem PySem.Spec PyProof.Rows
/-- the makes on a way but the nearest one -/
def wayN (T : Tre) (m n : Nat) : List Nat := (wayT T m n).filter fun y => decide (y ≠ lca T m n)
theorem way_mem {T : Tre} {m n y : Nat} : y ∈ wayT T m n ↔ (An T (lca T m n) y ∧ (An T y m ∨ An T y n)) := by
  obtain ⟨g1, g2, _⟩ := lca_spec (T := T) m n
  have key : ∀ x : Nat, An T (lca T m n) x → ∀ j, (∃ i, j ≤ i ∧ (lineT T x)[i]? = some y) → dep T (lca T m n) ≤ j → An T (lca T m n) y ∧ An T y x := fun x hx j ⟨i, hi, e⟩ hj => by
    have hl := lineT_length (T := T) x
    have hil : i < (lineT T x).length := (List.getElem?_eq_some_iff.mp e).1
    rw [lineT_get (by omega)] at e
    have ey := Option.some.inj e
    refine ⟨⟨i - dep T (lca T m n), ?_⟩, ⟨_, ey⟩⟩
    rw [← ey, ← anc_add, show i - dep T (lca T m n) + (dep T x - i) = dep T x - dep T (lca T m n) by omega]
    exact hx.eq
  have back : ∀ x : Nat, An T (lca T m n) y → An T y x → (lineT T x)[dep T y]? = some y ∧ dep T (lca T m n) ≤ dep T y := fun x h1 h2 => by
    refine ⟨?_, h1.dep_le⟩
    rw [lineT_get h2.dep_le, h2.eq]
  unfold wayT
  rw [List.mem_append, List.mem_reverse]
  constructor
  · rintro (h | h)
    · obtain ⟨i, hi⟩ := List.mem_iff_getElem?.mp h
      rw [List.getElem?_drop] at hi
      obtain ⟨h1, h2⟩ := key m g1 _ ⟨_, Nat.le_add_right _ _, hi⟩ (Nat.le_refl _)
      exact ⟨h1, Or.inl h2⟩
    · obtain ⟨i, hi⟩ := List.mem_iff_getElem?.mp h
      rw [List.getElem?_drop] at hi
      obtain ⟨h1, h2⟩ := key n g2 _ ⟨_, Nat.le_add_right _ _, hi⟩ (Nat.le_succ _)
      exact ⟨h1, Or.inr h2⟩
  · rintro ⟨h1, h2 | h2⟩
    · obtain ⟨e, d⟩ := back m h1 h2
      refine Or.inl (List.mem_of_getElem? (i := dep T y - dep T (lca T m n)) ?_)
      rw [List.getElem?_drop, show dep T (lca T m n) + (dep T y - dep T (lca T m n)) = dep T y by omega]
      exact e
    · obtain ⟨e, d⟩ := back n h1 h2
      by_cases c : dep T y = dep T (lca T m n)
      · refine Or.inl (List.mem_of_getElem? (i := 0) ?_)
        have ye : y = lca T m n := by
          have := h1.eq
          rw [c, Nat.sub_self] at this
          exact this
        rw [List.getElem?_drop, Nat.add_zero, lineT_get g1.dep_le, g1.eq, ye]
      · refine Or.inr (List.mem_of_getElem? (i := dep T y - (dep T (lca T m n) + 1)) ?_)
        rw [List.getElem?_drop, show dep T (lca T m n) + 1 + (dep T y - (dep T (lca T m n) + 1)) = dep T y by omega]
        exact e
theorem way_le {T : Tre} {m n y k : Nat} (h : y ∈ wayT T m n) (hm : m ≤ k) (hn : n ≤ k) : y ≤ k := by
  obtain ⟨_, h | h⟩ := way_mem.mp h
  · exact Nat.le_trans h.le hm
  · exact Nat.le_trans h.le hn
theorem wayN_pos {T : Tre} {m n y : Nat} (h : y ∈ wayT T m n) (ne : y ≠ lca T m n) : 0 < y := by
  obtain ⟨h1, _⟩ := way_mem.mp h
  have := h1.le
  omega
theorem wayT_len {T : Tre} {m n : Nat} : (wayT T m n).length ≤ m + n + 2 := by
  unfold wayT
  have h1 := lineT_length (T := T) m
  have h2 := lineT_length (T := T) n
  have h3 := dep_le (T := T) m
  have h4 := dep_le (T := T) n
  simp
  omega
end Mk
namespace Mk
open L2 PySem PySem.Spec PyProof.Rows
/-- the unlike places of two makes, with both worths -/
def Mdl.uneq (M : Mdl) (m n : Nat) : List Nat := (List.range M.F.length).filter fun p => decide (M.val m p ≠ M.val n p)
def Mdl.due (M : Mdl) (m n : Nat) : List (Nat × Int × Int) := (M.uneq m n).map fun p => (p, M.val m p, M.val n p)
theorem wsv_lt {M : Mdl} (ok : MdlOk M) {y : Nat} (h0 : 0 < y) (h : y ≤ M.T.length) : wsv M.W y < M.F.length := by
  refine ok.wp _ ?_
  have := ok.w
  unfold wsv
  rw [List.getD_eq_getElem?_getD, List.getElem?_eq_getElem (by omega)]
  exact List.getElem_mem _
theorem uneq_of {M : Mdl} (ok : MdlOk M) {m n : Nat} (hm : m ≤ M.T.length) (hn : n ≤ M.T.length) {ns : List Int} (pw : ns.Pairwise (· < ·)) (mem : ∀ k : Int, k ∈ ns ↔ ∃ y ∈ wayN M.T m n, k = (wsv M.W y : Nat)) :
    (ns.filter fun k => decide (M.val m k.toNat ≠ M.val n k.toNat)) = (M.uneq m n).map fun (p : Nat) => (p : Int) := by
  refine rising_eq (pw.filter _) ?_ fun k => ?_
  · refine List.pairwise_map.mpr ?_
    exact (List.pairwise_lt_range.filter _).imp fun h => by omega
  · rw [List.mem_filter, mem, List.mem_map]
    constructor
    · rintro ⟨⟨y, hy, rfl⟩, h⟩
      obtain ⟨y1, y2⟩ := List.mem_filter.mp hy
      refine ⟨wsv M.W y, List.mem_filter.mpr ⟨List.mem_range.mpr (wsv_lt ok (wayN_pos y1 (of_decide_eq_true y2)) (way_le y1 hm hn)), ?_⟩, rfl⟩
      simpa using h
    · rintro ⟨p, hp, rfl⟩
      obtain ⟨p1, p2⟩ := List.mem_filter.mp hp
      have p2 := of_decide_eq_true p2
      refine ⟨?_, by simpa using p2⟩
      refine Classical.byContradiction fun c => p2 ?_
      obtain ⟨g1, g2, _⟩ := lca_spec (T := M.T) m n
      have no : ∀ y, An M.T (lca M.T m n) y → (An M.T y m ∨ An M.T y n) → y ≠ lca M.T m n → ¬ (p ≤ wsv M.W y ∧ wsv M.W y < p + 1) := fun y h1 h2 h3 h4 => by
        refine c ⟨y, List.mem_filter.mpr ⟨way_mem.mpr ⟨h1, h2⟩, decide_eq_true h3⟩, ?_⟩
        omega
      have e1 := last_up (W := M.W) (lo := p) (hi := p + 1) m g1 fun y h1 h2 h3 => no y h1 (Or.inl h2) h3
      have e2 := last_up (W := M.W) (lo := p) (hi := p + 1) n g2 fun y h1 h2 h3 => no y h1 (Or.inr h2) h3
      unfold Mdl.val valT
      rw [e1, e2]
def chV (c : Nat × Int × Int) : List V := [.int (c.1 : Int), .int c.2.1, .int c.2.2]
def chO (cs : List (Nat × Int × Int)) : Nat → HO := fun i => .tup (chV (cs.getD i (0, 0, 0)))
end Mk

/-! B8: pairs of parts that are looked at -/
namespace Mk
open L2 PySem PySem.Spec PyProof.Rows
def dueS (M : Mdl) (m n lo hi : Nat) : List (Nat × Int × Int) := ((seg (fun i => i) lo hi).filter fun p => decide (M.val m p ≠ M.val n p)).map fun p => (p, M.val m p, M.val n p)
section
variable {M : Mdl} {m n lo hi mid p : Nat}
theorem dueS_all : dueS M m n 0 M.F.length = M.due m n := by
  unfold dueS Mdl.due Mdl.uneq seg
  simp
theorem dueS_app (h1 : lo ≤ mid) (h2 : mid ≤ hi) : dueS M m n lo mid ++ dueS M m n mid hi = dueS M m n lo hi := by
  unfold dueS
  rw [← List.map_append, ← List.filter_append, seg_append _ h1 h2]
theorem dueS_same (h : M.last m lo hi = M.last n lo hi) : dueS M m n lo hi = [] := by
  unfold dueS
  rw [List.filter_eq_nil_iff.mpr, List.map_nil]
  intro p hp
  obtain ⟨i, hi2, rfl⟩ := List.mem_map.mp hp
  have := List.mem_range.mp hi2
  have e1 : M.val m (lo + i) = M.val (M.last m lo hi) (lo + i) := (valT_last (by omega) (by omega)).symm
  have e2 : M.val n (lo + i) = M.val (M.last n lo hi) (lo + i) := (valT_last (by omega) (by omega)).symm
  simp only [decide_eq_true_eq, ne_eq, Decidable.not_not]
  rw [e1, e2, h]
theorem dueS_one : dueS M m n p (p + 1) = if M.val m p ≠ M.val n p then [(p, M.val m p, M.val n p)] else [] := by
  unfold dueS seg
  rw [show p + 1 - p = 1 by omega]
  by_cases c : M.val m p ≠ M.val n p
  · rw [if_pos c]; simp [c]
  · rw [if_neg c]
    have c : M.val m p = M.val n p := Classical.byContradiction c
    simp [c]
end
/-- the pairs that are still to be looked at, the next one last -/
structure PairOk (M : Mdl) (S : PS) (ow : Nat → Nat) (m n : Nat) (s : Nat × Nat) : Prop where
  x : s.1 < S.gv ∧ S.al s.1 = true
  y : s.2 < S.gv ∧ S.al s.2 = true
  lo : (S.ds s.2).lo = (S.ds s.1).lo
  hi : (S.ds s.2).hi = (S.ds s.1).hi
  ox : ow s.1 = M.last m (S.ds s.1).lo (S.ds s.1).hi
  oy : ow s.2 = M.last n (S.ds s.1).lo (S.ds s.1).hi
def cntP (M : Mdl) (m n lo hi : Nat) : Nat := pcnt (M.last m) (M.last n) 17 lo hi
def sumP (M : Mdl) (S : PS) (m n : Nat) (st : List (Nat × Nat)) : Nat := (st.map fun s => cntP M m n (S.ds s.1).lo (S.ds s.1).hi).sum
def dueK (M : Mdl) (S : PS) (m n : Nat) (st : List (Nat × Nat)) : List (Nat × Int × Int) := st.reverse.flatMap fun s => dueS M m n (S.ds s.1).lo (S.ds s.1).hi
def szK (S : PS) (st : List (Nat × Nat)) : Nat := (st.map fun s => 2 * (S.ds s.1).len - 1).sum
end Mk
namespace Mk
open L2 PySem PySem.Spec PyProof.Rows
section
variable {M : Mdl} {S : PS} {ow : Nat → Nat} {m n : Nat} {s : Nat × Nat}
theorem pair_last (st : Stat S ow M.T M.W M.F M.Vs M.T.length) (h : PairOk M S ow m n s) : s.1 = s.2 ↔ M.last m (S.ds s.1).lo (S.ds s.1).hi = M.last n (S.ds s.1).lo (S.ds s.1).hi := by
  constructor
  · intro e
    rw [← h.ox, ← h.oy, e]
  · intro e
    exact st.inj _ _ h.x.1 h.y.1 (by rw [h.ox, h.oy, e]) h.lo.symm h.hi.symm
theorem pair_fork (st : Stat S ow M.T M.W M.F M.Vs M.T.length) (cl : ∀ x, S.al x = true → ∀ h ∈ (S.ds x).halves, h < x ∧ S.al h = true) (h : PairOk M S ow m n s) {a b l r : Nat} (e : S.ds s.1 = .fork a b l r) :
    ∃ l' r', S.ds s.2 = .fork a b l' r' ∧ PairOk M S ow m n (l, l') ∧ PairOk M S ow m n (r, r') := by
  obtain ⟨f1, f2, f3, f4, f5, f6, f7, f8, f9⟩ := st.fork _ a b l r h.x.1 e
  have ox := h.ox
  have oy := h.oy
  have hlo := h.lo
  have hhi := h.hi
  rw [e] at ox oy hlo hhi
  cases e2 : S.ds s.2 with
  | leaf p w =>
    rw [e2] at hlo hhi
    have hlo : p = a := hlo
    have hhi : p + 1 = b := hhi
    omega
  | fork a' b' l' r' =>
    rw [e2] at hlo hhi
    obtain rfl : a' = a := hlo
    obtain rfl : b' = b := hhi
    obtain ⟨g1, g2, g3, g4, g5, g6, g7, g8, g9⟩ := st.fork _ a' b' l' r' h.y.1 e2
    have c1 := cl _ h.x.2
    have c2 := cl _ h.y.2
    rw [e] at c1
    rw [e2] at c2
    have ox : ow s.1 = M.last m a' b' := ox
    have oy : ow s.2 = M.last n a' b' := oy
    refine ⟨l', r', rfl, ⟨⟨?_, ?_⟩, ⟨?_, ?_⟩, ?_, ?_, ?_, ?_⟩, ⟨⟨?_, ?_⟩, ⟨?_, ?_⟩, ?_, ?_, ?_, ?_⟩⟩
    · have := h.x.1; show l < _; omega
    · exact (c1 l (by simp [Prt.halves])).2
    · have := h.y.1; show l' < _; omega
    · exact (c2 l' (by simp [Prt.halves])).2
    · show (S.ds l').lo = (S.ds l).lo; rw [f4, g4]
    · show (S.ds l').hi = (S.ds l).hi; rw [f5, g5]
    · show ow l = M.last m (S.ds l).lo (S.ds l).hi
      rw [f4, f5, f8, ox]
      exact last_sub (Nat.le_refl _) (by omega)
    · show ow l' = M.last n (S.ds l).lo (S.ds l).hi
      rw [f4, f5, g8, oy]
      exact last_sub (Nat.le_refl _) (by omega)
    · have := h.x.1; show r < _; omega
    · exact (c1 r (by simp [Prt.halves])).2
    · have := h.y.1; show r' < _; omega
    · exact (c2 r' (by simp [Prt.halves])).2
    · show (S.ds r').lo = (S.ds r).lo; rw [f6, g6]
    · show (S.ds r').hi = (S.ds r).hi; rw [f7, g7]
    · show ow r = M.last m (S.ds r).lo (S.ds r).hi
      rw [f6, f7, f9, ox]
      exact last_sub (by omega) (Nat.le_refl _)
    · show ow r' = M.last n (S.ds r).lo (S.ds r).hi
      rw [f6, f7, g9, oy]
      exact last_sub (by omega) (Nat.le_refl _)
theorem pair_leaf (st : Stat S ow M.T M.W M.F M.Vs M.T.length) (h : PairOk M S ow m n s) {p : Nat} {w : Int} (e : S.ds s.1 = .leaf p w) : w = M.val m p ∧ S.ds s.2 = .leaf p (M.val n p) := by
  have ox := h.ox
  have oy := h.oy
  have hlo := h.lo
  have hhi := h.hi
  rw [e] at ox oy hlo hhi
  have ox : ow s.1 = M.last m p (p + 1) := ox
  have oy : ow s.2 = M.last n p (p + 1) := oy
  have ew := st.leaf _ p w h.x.1 e
  cases e2 : S.ds s.2 with
  | leaf q w' =>
    rw [e2] at hlo
    obtain rfl : q = p := hlo
    have ew' := st.leaf _ q w' h.y.1 e2
    rw [ox] at ew
    rw [oy] at ew'
    refine ⟨ew.trans (valT_last (Nat.le_refl _) (Nat.lt_succ_self _)), ?_⟩
    rw [ew']
    congr 1
    exact valT_last (Nat.le_refl _) (Nat.lt_succ_self _)
  | fork a' b' l' r' =>
    rw [e2] at hlo hhi
    have := (st.fork _ a' b' l' r' h.y.1 e2).2.2.1
    have hlo : a' = p := hlo
    have hhi : b' = p + 1 := hhi
    omega
theorem cntP_same {lo hi : Nat} (h : M.last m lo hi = M.last n lo hi ∨ hi - lo = 1) : cntP M m n lo hi = 1 := if_pos h
theorem cntP_fork {lo hi : Nat} (h : ¬ (M.last m lo hi = M.last n lo hi ∨ hi - lo = 1)) (h1 : lo + 2 ≤ hi) (h2 : hi ≤ 16) : cntP M m n lo hi = 1 + cntP M m n lo ((lo + hi) / 2) + cntP M m n ((lo + hi) / 2) hi := by
  have e : cntP M m n lo hi = 1 + pcnt (M.last m) (M.last n) 16 lo ((lo + hi) / 2) + pcnt (M.last m) (M.last n) 16 ((lo + hi) / 2) hi := if_neg h
  rw [e]
  unfold cntP
  rw [pcnt_fuel (j := 17) (k := 16) (lo := lo) (hi := (lo + hi) / 2) (by omega) (by omega) (by omega), pcnt_fuel (j := 17) (k := 16) (lo := (lo + hi) / 2) (hi := hi) (by omega) (by omega) (by omega)]
end
end Mk

/-! B9: lists and tuples of numbers, deep; a stack of pairs -/
namespace Mk
open L2 PySem PySem.Spec PyProof.Rows
section
variable {K : PySem.W.Frag} {H : Hp} {a : Addr}
/-- what lies in a list of changes -/
def dCh (cs : List (Nat × Int × Int)) : List PyData := cs.map fun c => .tuple [.int (c.1 : Int), .int c.2.1, .int c.2.2]
def dPr (ps : List (Nat × Nat)) : List PyData := ps.map fun c => .tuple [.int (c.1 : Int), .int (c.2 : Int)]
def prV (c : Nat × Nat) : List V := [.int (c.1 : Int), .int (c.2 : Int)]
def prO (ps : List (Nat × Nat)) : Nat → HO := fun i => .tup (prV (ps.getD i (0, 0)))
theorem dpAll_rm {α : Type} {d : α → PyData} {z : α} : ∀ (cs : List α) (g : Nat → Addr), (∀ i, i < cs.length → Dp K H (.ref (g i)) (d (cs.getD i z))) → DpAll K H (rm cs.length (lv g)) (cs.map d)
  | [], _, _ => .nil
  | c :: cs, g, h => by
    have e : rm (c :: cs).length (lv g) = .ref (g 0) :: rm cs.length (lv fun i => g (i + 1)) := by
      unfold rm
      rw [List.length_cons, List.range_succ_eq_map, List.map_cons, List.map_map]
      rfl
    rw [e, List.map_cons]
    exact .cons (h 0 (by simp)) (dpAll_rm cs _ fun i hi => h (i + 1) (by simpa using hi))
theorem dpAll_ints (xs : List Int) : DpAll K H (xs.map V.int) (xs.map PyData.int) := by
  induction xs with
  | nil => exact .nil
  | cons x xs ih => exact .cons (.int x) ih
theorem dp_ints {xs : List Int} (e : SqL K H a (xs.map V.int)) : Dp K H (.ref a) (.list (xs.map PyData.int)) := .lst e (dpAll_ints xs)
theorem dp_nil (e : SqL K H a []) : Dp K H (.ref a) (.list []) := .lst e .nil
theorem dp_ch {cs : List (Nat × Int × Int)} {g : Nat → Addr} {Bs : List Blk} (e : H a = some (.lst (rm cs.length (lv g)))) (hb : HB H Bs) (hm : rc cs.length g (chO cs) ∈ Bs) : Dp K H (.ref a) (.list (dCh cs)) :=
  .lst (SqL.of e) (dpAll_rm (z := (0, 0, 0)) cs g fun i hi => .tup (SqT.of (hb.rc hm hi)) (.cons (.int _) (.cons (.int _) (.cons (.int _) .nil))))
theorem dp_pr {cs : List (Nat × Nat)} {g : Nat → Addr} {Bs : List Blk} (e : H a = some (.lst (rm cs.length (lv g)))) (hb : HB H Bs) (hm : rc cs.length g (prO cs) ∈ Bs) : Dp K H (.ref a) (.list (dPr cs)) :=
  .lst (SqL.of e) (dpAll_rm (z := (0, 0)) cs g fun i hi => .tup (SqT.of (hb.rc hm hi)) (.cons (.int _) (.cons (.int _) .nil)))
end
/-! numbers of few figures, nested in lists and tuples, not deep -/
mutual
def flatI : PyData → Bool
  | .int i => isW i
  | .list xs => flatIs xs
  | .tuple xs => flatIs xs
  | _ => false
def flatIs : List PyData → Bool
  | [] => true
  | x :: xs => flatI x && flatIs xs
end
mutual
theorem flatI_lay : ∀ d : PyData, flatI d = true → d.canLay0 = true
  | .int _, _ => rfl
  | .list xs, h => flatIs_lay xs h
  | .tuple xs, h => flatIs_lay xs h
  | .none, h => by simp [flatI] at h
  | .bool _, h => by simp [flatI] at h
  | .str _, h => by simp [flatI] at h
  | .dict _, h => by simp [flatI] at h
theorem flatIs_lay : ∀ xs : List PyData, flatIs xs = true → PyData.canLayAll0 xs = true
  | [], _ => rfl
  | x :: xs, h => by
    have h' : flatI x = true ∧ flatIs xs = true := by simpa [flatIs] using h
    simp [PyData.canLayAll0, flatI_lay x h'.1, flatIs_lay xs h'.2]
end
theorem isW_abs {i : Int} (h : isW i = true) : i.natAbs < 10 ^ 30 := by
  have h := of_decide_eq_true h
  unfold maxW at h
  omega
mutual
theorem flatI_show : ∀ d : PyData, flatI d = true → d.showable = true
  | .int i, h => by
    have h1 := isW_abs (i := i) h
    show decide (i.natAbs.log2 < 1920) = true
    refine decide_eq_true ?_
    by_cases c : i.natAbs = 0
    · rw [c]; decide
    · refine (Nat.log2_lt c).mpr (Nat.lt_of_lt_of_le h1 ?_)
      exact Nat.le_trans (by decide : (10 : Nat) ^ 30 ≤ 2 ^ 100) (Nat.pow_le_pow_right (by decide) (by decide))
  | .list xs, h => flatIs_show xs h
  | .tuple xs, h => flatIs_show xs h
  | .none, h => by simp [flatI] at h
  | .bool _, h => by simp [flatI] at h
  | .str _, h => by simp [flatI] at h
  | .dict _, h => by simp [flatI] at h
theorem flatIs_show : ∀ xs : List PyData, flatIs xs = true → PyData.showableAll xs = true
  | [], _ => rfl
  | x :: xs, h => by
    have h' : flatI x = true ∧ flatIs xs = true := by simpa [flatIs] using h
    simp [PyData.showableAll, flatI_show x h'.1, flatIs_show xs h'.2]
end
mutual
theorem flatI_short : ∀ d : PyData, flatI d = true → d.leavesShort 31 = true
  | .int i, h => by
    have h1 := isW_abs (i := i) h
    have e := int_text_length_le10 (k := 30) (by decide) h1
    show decide ((PyData.shown (.int i)).length ≤ 31) = true
    refine decide_eq_true ?_
    show (Str.ofString (toString i)).length ≤ 31
    rw [PySem.ofString_length]; exact e
  | .list xs, h => flatIs_short xs h
  | .tuple xs, h => flatIs_short xs h
  | .none, h => by simp [flatI] at h
  | .bool _, h => by simp [flatI] at h
  | .str _, h => by simp [flatI] at h
  | .dict _, h => by simp [flatI] at h
theorem flatIs_short : ∀ xs : List PyData, flatIs xs = true → PyData.leavesShortAll 31 xs = true
  | [], _ => rfl
  | x :: xs, h => by
    have h' : flatI x = true ∧ flatIs xs = true := by simpa [flatIs] using h
    simp [PyData.leavesShortAll, flatI_short x h'.1, flatIs_short xs h'.2]
end
/-! how much it is: numbers and lists -/
mutual
def wgt : PyData → Nat
  | .list xs => wgts xs
  | .tuple xs => wgts xs
  | _ => 100
def wgts : List PyData → Nat
  | [] => 0
  | x :: xs => wgt x + 1 + wgts xs
end
mutual
theorem flatI_wgt : ∀ d : PyData, flatI d = true → d.weight ≤ wgt d
  | .int i, h => by
    have h1 := isW_abs (i := i) h
    show (if i == 0 then 0 else i.natAbs.log2 + 1) ≤ 100
    split
    · omega
    · next c =>
      have c : ¬ i.natAbs = 0 := fun z => by
        have h0 : i = 0 := by omega
        rw [h0] at c
        exact c rfl
      have : i.natAbs.log2 < 100 := (Nat.log2_lt c).mpr (Nat.lt_of_lt_of_le h1 (by decide))
      omega
  | .list xs, h => flatIs_wgt xs h
  | .tuple xs, h => flatIs_wgt xs h
  | .none, h => by simp [flatI] at h
  | .bool _, h => by simp [flatI] at h
  | .str _, h => by simp [flatI] at h
  | .dict _, h => by simp [flatI] at h
theorem flatIs_wgt : ∀ xs : List PyData, flatIs xs = true → PyData.weightAll xs ≤ wgts xs
  | [], _ => Nat.le_refl _
  | x :: xs, h => by
    have h' : flatI x = true ∧ flatIs xs = true := by simpa [flatIs] using h
    have h1 := flatI_wgt x h'.1
    have h2 := flatIs_wgt xs h'.2
    simp only [PyData.weightAll, wgts]
    omega
end
theorem flatI_shown {d : PyData} (h : flatI d = true) (hw : wgt d ≤ 400000) : d.shown.length ≤ sizeLine := by
  have h1 := PyData.shown_le 31 (by decide) d (flatI_short d h)
  have h2 := flatI_wgt d h
  show _ ≤ 2 ^ 24
  omega
theorem flatIs_append {xs ys : List PyData} : flatIs (xs ++ ys) = (flatIs xs && flatIs ys) := by
  induction xs with
  | nil => rfl
  | cons x xs ih => simp [flatIs, ih, Bool.and_assoc]
theorem flatIs_map {α : Type} {f : α → PyData} {l : List α} (h : ∀ x ∈ l, flatI (f x) = true) : flatIs (l.map f) = true := by
  induction l with
  | nil => rfl
  | cons x xs ih =>
    simp only [List.map_cons, flatIs, Bool.and_eq_true]
    exact ⟨h x List.mem_cons_self, ih fun y hy => h y (List.mem_cons_of_mem _ hy)⟩
theorem wgts_map {α : Type} {f : α → PyData} {l : List α} {n : Nat} (h : ∀ x ∈ l, wgt (f x) ≤ n) : wgts (l.map f) ≤ (n + 1) * l.length := by
  induction l with
  | nil => exact Nat.zero_le _
  | cons x xs ih =>
    have h1 := h x List.mem_cons_self
    have h2 := ih fun y hy => h y (List.mem_cons_of_mem _ hy)
    simp only [List.map_cons, wgts, List.length_cons, Nat.mul_add, Nat.mul_one]
    omega
theorem depthAll_map {α : Type} {f : α → PyData} {l : List α} {n : Nat} (h : ∀ x ∈ l, (f x).depth ≤ n) : PyData.depthAll (l.map f) ≤ n := by
  induction l with
  | nil => exact Nat.zero_le _
  | cons x xs ih =>
    have h1 := h x List.mem_cons_self
    have h2 := ih fun y hy => h y (List.mem_cons_of_mem _ hy)
    simp only [List.map_cons, PyData.depthAll]
    omega
theorem shaped_of {d : PyData} (h : flatI d = true) (hd : d.depth ≤ 64) : SeqAt.shaped d = true := by
  show (d.canLay0 && decide (d.depth ≤ 64)) = true
  rw [flatI_lay d h, decide_eq_true hd]
  rfl
theorem isW_nat {n : Nat} (h : n ≤ 10 ^ 6) : isW (n : Int) = true := by
  refine decide_eq_true ?_
  unfold maxW
  omega
theorem flat_dCh {cs : List (Nat × Int × Int)} (h : ∀ c ∈ cs, c.1 ≤ 16 ∧ isW c.2.1 = true ∧ isW c.2.2 = true) : flatIs (dCh cs) = true :=
  flatIs_map fun c hc => by
    obtain ⟨h1, h2, h3⟩ := h c hc
    show (isW _ && (isW _ && (isW _ && true))) = true
    rw [h2, h3, isW_nat (by omega)]
    rfl
theorem flat_dPr {ps : List (Nat × Nat)} (h : ∀ c ∈ ps, c.1 ≤ 10 ^ 6 ∧ c.2 ≤ 10 ^ 6) : flatIs (dPr ps) = true :=
  flatIs_map fun c hc => by
    obtain ⟨h1, h2⟩ := h c hc
    show (isW _ && (isW _ && true)) = true
    rw [isW_nat (by omega), isW_nat (by omega)]
    rfl
theorem depth_dCh {cs : List (Nat × Int × Int)} : PyData.depthAll (dCh cs) ≤ 1 := depthAll_map fun c _ => Nat.le_refl 1
theorem depth_dPr {cs : List (Nat × Nat)} : PyData.depthAll (dPr cs) ≤ 1 := depthAll_map fun c _ => Nat.le_refl 1
theorem eqv_refl {d : PyData} (h : d.canLay0 = true) : PyData.eqv d d = true := SeqAt.eqv_refl_plain d (PyData.plain_of_canLay0 d h)
theorem eqv_nil {xs : List PyData} : PyData.eqv (.list xs) (.list []) = decide (xs = []) := by
  cases xs with
  | nil => rfl
  | cons x xs => simp [PyData.eqv, PyData.eqvAll]
/-- == of two that tell the same -/
theorem r_eqD {K : PySem.W.Frag} {H : Hp} {Q : VK} {x y : V} {d : PyData} (h1 : Dp K H x d) (h2 : Dp K H y d) (hf : flatI d = true) (hd : d.depth ≤ 64) (h : Q (.bl true) H) : rEqD K x y H Q :=
  ⟨d, d, h1, h2, shaped_of hf hd, shaped_of hf hd, by rw [eqv_refl (flatI_lay d hf)]; exact h⟩
theorem r_neD {K : PySem.W.Frag} {H : Hp} {Q : VK} {x y : V} {d : PyData} (h1 : Dp K H x d) (h2 : Dp K H y d) (hf : flatI d = true) (hd : d.depth ≤ 64) (h : Q (.bl false) H) : rNeD K x y H Q :=
  ⟨d, d, h1, h2, shaped_of hf hd, shaped_of hf hd, by rw [eqv_refl (flatI_lay d hf)]; exact h⟩
theorem r_neNil {K : PySem.W.Frag} {H : Hp} {Q : VK} {x y : V} {ds : List PyData} (h1 : Dp K H x (.list ds)) (h2 : Dp K H y (.list [])) (hf : flatIs ds = true) (hd : PyData.depthAll ds ≤ 60) (h : Q (.bl (!decide (ds = []))) H) : rNeD K x y H Q :=
  ⟨.list ds, .list [], h1, h2, shaped_of hf (by show PyData.depthAll ds + 1 ≤ 64; omega), rfl, by rw [eqv_nil]; exact h⟩
theorem r_reprD {K : PySem.W.Frag} {H : Hp} {Q : VK} {a : Addr} {d : PyData} (h1 : Dp K H (.ref a) d) (hf : flatI d = true) (hw : wgt d ≤ 400000) (hd : d.depth ≤ 50) (h : Q (.str d.shown) H) : rReprD K [.ref a] H Q :=
  ⟨a, d, rfl, h1, flatI_show d hf, PyData.hasDict_of_canLay d (flatI_lay d hf), flatI_shown hf hw, hd, h⟩
/-! a stack that is taken from -/
theorem rm_pop {n : Nat} {f : Nat → V} : (rm (n + 1) f).dropLast = rm n f := by rw [rm_succ, List.dropLast_concat]
theorem rm_last {n : Nat} {f : Nat → V} : (rm (n + 1) f).getLast? = some (f n) := by rw [rm_succ, List.getLast?_concat]
theorem HB.rc_pop {H : Hp} {L : List Blk} {n : Nat} {g : Nat → Addr} {o : Nat → HO} (h : HB H (Mk.rc (n + 1) g o :: L)) : HB H (Mk.rc n g o :: [(g n, o n)] :: L) := by
  rw [rc_succ] at h
  exact h.app
theorem prO_app {ps qs : List (Nat × Nat)} {i : Nat} (h : i < ps.length) : prO (ps ++ qs) i = prO ps i := by
  show HO.tup _ = HO.tup _
  rw [List.getD_eq_getElem?_getD, List.getD_eq_getElem?_getD, List.getElem?_append_left h]
theorem prO_last {ps : List (Nat × Nat)} {q : Nat × Nat} : prO (ps ++ [q]) ps.length = .tup (prV q) := by
  show HO.tup _ = HO.tup _
  rw [List.getD_eq_getElem?_getD, List.getElem?_append_right (Nat.le_refl _), Nat.sub_self]
  rfl
theorem chO_app {ps qs : List (Nat × Int × Int)} {i : Nat} (h : i < ps.length) : chO (ps ++ qs) i = chO ps i := by
  show HO.tup _ = HO.tup _
  rw [List.getD_eq_getElem?_getD, List.getD_eq_getElem?_getD, List.getElem?_append_left h]
theorem chO_last {ps : List (Nat × Int × Int)} {q : Nat × Int × Int} : chO (ps ++ [q]) ps.length = .tup (chV q) := by
  show HO.tup _ = HO.tup _
  rw [List.getD_eq_getElem?_getD, List.getElem?_append_right (Nat.le_refl _), Nat.sub_self]
  rfl
/-- the worths of a make are worths -/
theorem val_isW {M : Mdl} (ok : MdlOk M) {m p : Nat} (hp : p < M.F.length) : isW (M.val m p) = true := by
  unfold Mdl.val valT
  split
  · refine ok.fw _ ?_
    rw [List.getD_eq_getElem?_getD, List.getElem?_eq_getElem hp]
    exact List.getElem_mem _
  · rw [List.getD_eq_getElem?_getD]
    cases e : M.Vs[Mk.last M.T M.W m p (p + 1) - 1]? with
    | none => rfl
    | some x => exact ok.vw _ (List.mem_of_getElem? e)
theorem dueS_le {M : Mdl} {m n lo hi : Nat} : (dueS M m n lo hi).length ≤ hi - lo := by
  unfold dueS
  rw [List.length_map]
  refine Nat.le_trans (List.length_filter_le _ _) ?_
  unfold seg
  simp
theorem due_le {M : Mdl} {m n : Nat} : (M.due m n).length ≤ M.F.length := by
  rw [← dueS_all]
  exact dueS_le
theorem due_ok {M : Mdl} (ok : MdlOk M) {m n : Nat} : ∀ c ∈ M.due m n, c.1 ≤ 16 ∧ isW c.2.1 = true ∧ isW c.2.2 = true := by
  intro c hc
  unfold Mdl.due at hc
  obtain ⟨p, hp, rfl⟩ := List.mem_map.mp hc
  have hp := List.mem_range.mp (List.mem_filter.mp hp).1
  have := ok.f.2
  exact ⟨by show p ≤ 16; omega, val_isW ok hp, val_isW ok hp⟩
end Mk

/-! B10: what the laws keep by themselves: the box that is drawn from, the makes; the script -/
namespace Mk
open L2 PySem PySem.Spec PyProof.Rows
abbrev bxB (bx : Addr) (x y z : Nat) : Blk := [(bx, .lst [.int (x : Int), .int (y : Int), .int (z : Int)])]
/-- where a law's own makes lie -/
structure LA where
  md : Addr
  f : Addr
  o : Addr
  wr : Addr
  wo : Addr
  gn : Addr
def vv (Vs : List Int) : Nat → V := fun m => if m = 0 then .non else .int (Vs.getD (m - 1) 0)
def lmD (la : LA) : KD := [(.inr "first", .ref la.f), (.inr "own", .ref la.o), (.inr "wrote", .ref la.wr), (.inr "worth", .ref la.wo), (.inr "gone", .ref la.gn)]
def lmB (la : LA) (M : Mdl) : Blk := (la.md, .dK (lmD la)) :: (la.f, .lst (M.F.map V.int)) :: (la.o, .lst (rm (M.T.length + 1) (ov M.T))) :: (la.wr, .lst (rm (M.T.length + 1) (wv M.W))) :: (la.wo, .lst (rm (M.T.length + 1) (vv M.Vs))) :: [(la.gn, .lst (M.gone.map V.bl))]
abbrev lmO (la : LA) (M : Mdl) (L : List Blk) : List Blk := [(la.md, .dK (lmD la))] :: [(la.f, .lst (M.F.map V.int))] :: [(la.o, .lst (rm (M.T.length + 1) (ov M.T)))] :: [(la.wr, .lst (rm (M.T.length + 1) (wv M.W)))] :: [(la.wo, .lst (rm (M.T.length + 1) (vv M.Vs)))] :: [(la.gn, .lst (M.gone.map V.bl))] :: L
section
variable {H : Hp} {L : List Blk} {la : LA} {M : Mdl} {a : Addr} {kvs : KD} {v : V} {x : Str}
theorem lm_open (h : HB H (lmB la M :: L)) : HB H ([(la.md, .dK (lmD la))] :: [(la.f, .lst (M.F.map V.int))] :: [(la.o, .lst (rm (M.T.length + 1) (ov M.T)))] :: [(la.wr, .lst (rm (M.T.length + 1) (wv M.W)))] :: [(la.wo, .lst (rm (M.T.length + 1) (vv M.Vs)))] :: [(la.gn, .lst (M.gone.map V.bl))] :: L) := h
theorem lm_close (h : HB H ([(la.md, .dK (lmD la))] :: [(la.f, .lst (M.F.map V.int))] :: [(la.o, .lst (rm (M.T.length + 1) (ov M.T)))] :: [(la.wr, .lst (rm (M.T.length + 1) (wv M.W)))] :: [(la.wo, .lst (rm (M.T.length + 1) (vv M.Vs)))] :: [(la.gn, .lst (M.gone.map V.bl))] :: L)) : HB H (lmB la M :: L) := h
theorem lm_f : valV (lmD la) (.inr "first") = some (.ref la.f) := rfl
theorem lm_o : valV (lmD la) (.inr "own") = some (.ref la.o) := rfl
theorem lm_wr : valV (lmD la) (.inr "wrote") = some (.ref la.wr) := rfl
theorem lm_wo : valV (lmD la) (.inr "worth") = some (.ref la.wo) := rfl
theorem lm_gn : valV (lmD la) (.inr "gone") = some (.ref la.gn) := rfl
theorem r_dget1s {S : V → Prop} (e : H a = some (.dK kvs)) (l : valV kvs (.inr x) = some v) (h : S v) : ∃ b w, V.ref a = .ref b ∧ DGet H b (.str x) (some w) ∧ S w := ⟨a, v, rfl, .inl ⟨kvs, .inr x, .inl e, rfl, l.symm⟩, h⟩
theorem vv_pos {m : Nat} (h : 0 < m) (Vs : List Int) : vv Vs m = .int (Vs.getD (m - 1) 0) := by
  unfold vv
  rw [if_neg (by omega)]
theorem vv_snoc {Vs : List Int} {w : Int} : rm (Vs.length + 1) (vv Vs) ++ [.int w] = rm ((Vs ++ [w]).length + 1) (vv (Vs ++ [w])) := by
  rw [show (Vs ++ [w]).length + 1 = Vs.length + 1 + 1 by simp, rm_succ (n := Vs.length + 1)]
  have e : vv (Vs ++ [w]) (Vs.length + 1) = .int w := by
    rw [vv_pos (by omega)]
    simp
  rw [e]
  congr 1
  refine rm_congr fun i hi => ?_
  unfold vv
  by_cases c : i = 0
  · rw [if_pos c, if_pos c]
  · rw [if_neg c, if_neg c, List.getD_eq_getElem?_getD, List.getD_eq_getElem?_getD, List.getElem?_append_left (by omega)]
end
/-- the script: the one object that is handed in -/
def Scr (K : PySem.W.Frag) (a : Addr) (ns : List Int) (b : Blk) : Prop := (∃ ob, b = [(a, .frz ob (.lst (ns.map V.int)))]) ∨ ∀ H, SqL K H a (ns.map V.int)
theorem Scr.at {K : PySem.W.Frag} {H : Hp} {Bs : List Blk} {a : Addr} {ns : List Int} {b : Blk} (s : Scr K a ns b) (h : HB H Bs) (hm : b ∈ Bs) : SqL K H a (ns.map V.int) := by
  rcases s with ⟨ob, rfl⟩ | s
  · exact .inl (.inr ⟨ob, h.mem hm (List.mem_cons_self ..)⟩)
  · exact s H
theorem Scr.of {K : PySem.W.Frag} {H : Hp} {a : Addr} {ns : List Int} (o : Only H) (h : SqL K H a (ns.map V.int)) : ∃ b, Scr K a ns b ∧ HB H [b] := by
  rcases h with (h | ⟨ob, h⟩) | h
  · rcases o a with z | ⟨ob, u, z⟩
    · rw [h] at z; cases z
    · rw [h] at z; cases z
  · refine ⟨_, .inl ⟨ob, rfl⟩, ?_⟩
    refine ⟨fun c hc => ?_, ?_⟩
    · have : c = (a, .frz ob (.lst (ns.map V.int))) := by simpa using hc
      subst this
      exact h
    · simp [mutA, isT]
  · exact ⟨[], .inr fun H => .inr h, ⟨fun c hc => by simp at hc, by simp [mutA]⟩⟩
/-- taken from a stack, which is named by numbers -/
theorem r_popL {H : Hp} {Q : VK} {Bs Cs : List Blk} {p : Addr} {n : Nat} {g : Nat → Addr} (hb : HB H Bs) (pt : Put Bs p (.lst (rm (n + 1) (lv g))) (.lst (rm n (lv g))) Cs) (h : ∀ H', HB H' Cs → Q (.ref (g n)) H') : rPop (.ref p) [] H Q := by
  refine ⟨p, _, .ref (g n), rfl, rfl, hb.at_put pt, ?_, ?_⟩
  · rw [rm_len, Nat.add_sub_cancel]
    exact rm_get (Nat.lt_succ_self n)
  · rw [rm_pop]
    exact h _ (hb.put pt rfl rfl)
theorem atI_c0 {a : V} {r : List V} : atI (a :: r) 0 = some a := atI_nat (j := 0) rfl
theorem atI_c1 {a b : V} {r : List V} : atI (a :: b :: r) 1 = some b := atI_nat (j := 1) rfl
theorem atI_c2 {a b c : V} {r : List V} : atI (a :: b :: c :: r) 2 = some c := atI_nat (j := 2) rfl
theorem atI_c3 {a b c d : V} {r : List V} : atI (a :: b :: c :: d :: r) 3 = some d := atI_nat (j := 3) rfl
theorem atI_c4 {a b c d e : V} {r : List V} : atI (a :: b :: c :: d :: e :: r) 4 = some e := atI_nat (j := 4) rfl
theorem r_set0 {H : Hp} {Bs Cs : List Blk} {p : Addr} {a v : V} {r : List V} {S : Hp → Prop} (hb : HB H Bs) (pt : Put Bs p (.lst (a :: r)) (.lst (v :: r)) Cs) (h : ∀ H', HB H' Cs → S H') : rSetL (.ref p) (.int 0) v H S := r_setLst (j := 0) hb pt (Nat.succ_pos _) h
theorem r_set2 {H : Hp} {Bs Cs : List Blk} {p : Addr} {a b c v : V} {r : List V} {S : Hp → Prop} (hb : HB H Bs) (pt : Put Bs p (.lst (a :: b :: c :: r)) (.lst (a :: b :: v :: r)) Cs) (h : ∀ H', HB H' Cs → S H') : rSetL (.ref p) (.int 2) v H S := r_setLst (j := 2) hb pt (by simp) h
theorem atI_wv {W : List Nat} {n m : Nat} (h0 : 0 < m) (h : m < n) : atI (rm n (wv W)) (m : Int) = some (.int (wsv W m : Nat)) := atI_nat (by rw [rm_get h, wv_pos h0])
theorem atI_ovp {T : Tre} {n m : Nat} (h0 : 0 < m) (h : m < n) : atI (rm n (ov T)) (m : Int) = some (.int (par T m : Nat)) := atI_nat (by rw [rm_get h]; unfold ov; rw [if_neg (by omega)])
theorem atI_vv {Vs : List Int} {n m : Nat} (h0 : 0 < m) (h : m < n) : atI (rm n (vv Vs)) (m : Int) = some (.int (Vs.getD (m - 1) 0)) := atI_nat (by rw [rm_get h, vv_pos h0])
theorem r_aug {i : Nat} {te : TE} {ti : TIp} {x : V} {D : Ends} {σ : L2.St} {H : Hp} (e : σ[i]? = some (some x)) (h : te σ H fun y H1 => ti x y H1 fun z H2 => D.nx (σ.set i (some z)) H2) : tAug i te ti D σ H := ⟨x, e, h⟩
theorem r_ipI {f : Int → Int → Int} {a b : Int} {H : Hp} {Q : VK} (h : Q (.int (f a b)) H) : ipI f (.int a) (.int b) H Q := ⟨a, b, rfl, rfl, h⟩
theorem r_orV {ta tb : TE} {σ : L2.St} {H : Hp} {Q : VK} (h : ta σ H fun x H1 => ∃ c, x = .bl c ∧ if c = true then Q (.bl true) H1 else tb σ H1 Q) : tOrV ta tb σ H Q := h
theorem atI_iv_mem {xs : List Nat} {i : Int} (h : -(xs.length : Int) ≤ i ∧ i < (xs.length : Int)) : ∃ y ∈ xs, atI (iv xs) i = some (.int (y : Nat)) := by
  by_cases c : 0 ≤ i
  · obtain ⟨j, rfl⟩ := Int.eq_ofNat_of_zero_le c
    have hj : j < xs.length := by omega
    exact ⟨xs[j], List.getElem_mem _, atI_nat (by rw [iv_get (List.getElem?_eq_getElem hj)])⟩
  · have hj : (i + xs.length).toNat < xs.length := by omega
    refine ⟨xs[(i + xs.length).toNat], List.getElem_mem _, ?_⟩
    unfold atI ixN
    rw [iv_len, if_neg c, if_pos h.1]
    exact iv_get (List.getElem?_eq_getElem hj)
theorem atI_ints {xs : List Int} {p : Nat} (h : p < xs.length) : atI (xs.map V.int) (p : Int) = some (.int (xs.getD p 0)) := atI_nat (by rw [List.getElem?_map, List.getD_eq_getElem?_getD, List.getElem?_eq_getElem h]; rfl)
theorem r_neS {x y : Str} {H : Hp} {Q : VK} (h : Q (.bl (!decide (x = y))) H) : rNe (.str x) (.str y) H Q := by
  refine ⟨rfl, ?_⟩
  have e : decide (V.str x = V.str y) = decide (x = y) := by simp
  rw [e]
  exact h
theorem walk_rA {a : Int} {n : Nat} : Walk (Itr a n) n (fun _ => True) (fun i H x H' => H' = H ∧ x = .int (a + (i : Int))) :=
  ⟨fun _ _ hi _ => hi, fun _ _ => Nat.le_refl _, fun i H x H' hi _ y => y⟩
theorem r_iR22 {i j : Int} {S : Int → Int → Prop} (b : -(2 ^ 62) ≤ i ∧ i < 2 ^ 62 ∧ -(2 ^ 62) ≤ j ∧ j < 2 ^ 62) (h : S i j) : ∃ a b : Int, [V.int i, V.int j] = [.int a, .int b] ∧ (-(2 ^ 62) ≤ a ∧ a < 2 ^ 62 ∧ -(2 ^ 62) ≤ b ∧ b < 2 ^ 62) ∧ S a b := ⟨i, j, rfl, b, h⟩
theorem flat_due {M : Mdl} (ok : MdlOk M) {m n : Nat} : flatIs (dCh (M.due m n)) = true := flat_dCh (due_ok ok)
theorem wgt_due {M : Mdl} (ok : MdlOk M) {m n : Nat} : wgts (dCh (M.due m n)) ≤ 304 * 16 := by
  have h1 := wgts_map (f := fun c : Nat × Int × Int => PyData.tuple [.int (c.1 : Int), .int c.2.1, .int c.2.2]) (l := M.due m n) (n := 303) fun c _ => Nat.le_refl _
  have h2 := due_le (M := M) (m := m) (n := n)
  have h3 := ok.f.2
  exact Nat.le_trans h1 (Nat.mul_le_mul_left _ (by omega))
theorem r_mulI {i j : Int} {H : Hp} {Q : VK} (c : CMul i j) (h : Q (.int (i * j)) H) : rI CMul (fun i j => .int (i * j)) (.int i) (.int j) H Q := ⟨i, j, rfl, rfl, c, h⟩
theorem cmul_l {i j : Int} (h : -(2 ^ 64) < i ∧ i < 2 ^ 64) : CMul i j := Or.inl h
theorem cmul_r {i j : Int} (h : -(2 ^ 64) < j ∧ j < 2 ^ 64) : CMul i j := Or.inr h
end Mk

namespace Mk
open L2 PySem PySem.Spec PyProof.Rows
def top (i : Nat) : Stmt := PySem.Challenge.pw_makeskept_k53_parted_by_parts.main.body.getD i (.Pass ⟨0, 0, 0, 0⟩)
def d__wall : He.DefD := ⟨("_wall", none), "_wall", "_wall", defArgs (top 0), defBody (top 0), defScope (top 0), [], []⟩
def d_is_whole : He.DefD := ⟨("is_whole", none), "is_whole", "is_whole", defArgs (top 15), defBody (top 15), defScope (top 15), [], []⟩
def d_is_worth : He.DefD := ⟨("is_worth", none), "is_worth", "is_worth", defArgs (top 16), defBody (top 16), defScope (top 16), [], []⟩
def d_is_worths : He.DefD := ⟨("is_worths", none), "is_worths", "is_worths", defArgs (top 17), defBody (top 17), defScope (top 17), [], []⟩
def d_laid_down : He.DefD := ⟨("laid_down", none), "laid_down", "laid_down", defArgs (top 20), defBody (top 20), defScope (top 20), [], []⟩
def d_built : He.DefD := ⟨("built", none), "built", "built", defArgs (top 21), defBody (top 21), defScope (top 21), [], []⟩
def d_half_of : He.DefD := ⟨("half_of", none), "half_of", "half_of", defArgs (top 22), defBody (top 22), defScope (top 22), [], []⟩
def d_way_down : He.DefD := ⟨("way_down", none), "way_down", "way_down", defArgs (top 23), defBody (top 23), defScope (top 23), [], []⟩
def d_put_down : He.DefD := ⟨("put_down", none), "put_down", "put_down", defArgs (top 24), defBody (top 24), defScope (top 24), [], []⟩
def d_need_rows : He.DefD := ⟨("need_rows", none), "need_rows", "need_rows", defArgs (top 35), defBody (top 35), defScope (top 35), [], []⟩
def d_need_makes : He.DefD := ⟨("need_makes", none), "need_makes", "need_makes", defArgs (top 36), defBody (top 36), defScope (top 36), [], []⟩
def d_touched : He.DefD := ⟨("touched", none), "touched", "touched", defArgs (top 37), defBody (top 37), defScope (top 37), [], []⟩
def d_unlike_places : He.DefD := ⟨("unlike_places", none), "unlike_places", "unlike_places", defArgs (top 38), defBody (top 38), defScope (top 38), [], []⟩
def d_parted : He.DefD := ⟨("parted", none), "parted", "parted", defArgs (top 39), defBody (top 39), defScope (top 39), [], []⟩
def d_halves_pairs : He.DefD := ⟨("halves_pairs", none), "halves_pairs", "halves_pairs", defArgs (top 40), defBody (top 40), defScope (top 40), [], []⟩
def d_parted_by_parts : He.DefD := ⟨("parted_by_parts", none), "parted_by_parts", "parted_by_parts", defArgs (top 41), defBody (top 41), defScope (top 41), [], []⟩
def d__law_cell : He.DefD := ⟨("_law_cell", none), "_law_cell", "_law_cell", defArgs (top 43), defBody (top 43), defScope (top 43), [], []⟩
def d__law_box : He.DefD := ⟨("_law_box", none), "_law_box", "_law_box", defArgs (top 44), defBody (top 44), defScope (top 44), [], []⟩
def d__law_take : He.DefD := ⟨("_law_take", none), "_law_take", "_law_take", defArgs (top 45), defBody (top 45), defScope (top 45), [], []⟩
def d__law_worth : He.DefD := ⟨("_law_worth", none), "_law_worth", "_law_worth", defArgs (top 46), defBody (top 46), defScope (top 46), [], []⟩
def d__law_worths : He.DefD := ⟨("_law_worths", none), "_law_worths", "_law_worths", defArgs (top 47), defBody (top 47), defScope (top 47), [], []⟩
def d__law_model : He.DefD := ⟨("_law_model", none), "_law_model", "_law_model", defArgs (top 48), defBody (top 48), defScope (top 48), [], []⟩
def d__law_writer : He.DefD := ⟨("_law_writer", none), "_law_writer", "_law_writer", defArgs (top 49), defBody (top 49), defScope (top 49), [], []⟩
def d__law_value : He.DefD := ⟨("_law_value", none), "_law_value", "_law_value", defArgs (top 50), defBody (top 50), defScope (top 50), [], []⟩
def d__law_line_of : He.DefD := ⟨("_law_line_of", none), "_law_line_of", "_law_line_of", defArgs (top 51), defBody (top 51), defScope (top 51), [], []⟩
def d__law_kept : He.DefD := ⟨("_law_kept", none), "_law_kept", "_law_kept", defArgs (top 52), defBody (top 52), defScope (top 52), [], []⟩
def d__law_picked : He.DefD := ⟨("_law_picked", none), "_law_picked", "_law_picked", defArgs (top 53), defBody (top 53), defScope (top 53), [], []⟩
def d__law_grown : He.DefD := ⟨("_law_grown", none), "_law_grown", "_law_grown", defArgs (top 54), defBody (top 54), defScope (top 54), [], []⟩
def d__law_line : He.DefD := ⟨("_law_line", none), "_law_line", "_law_line", defArgs (top 55), defBody (top 55), defScope (top 55), [], []⟩
def d__law_path : He.DefD := ⟨("_law_path", none), "_law_path", "_law_path", defArgs (top 56), defBody (top 56), defScope (top 56), [], []⟩
def d__law_drawn : He.DefD := ⟨("_law_drawn", none), "_law_drawn", "_law_drawn", defArgs (top 57), defBody (top 57), defScope (top 57), [], []⟩
def d__law_gone : He.DefD := ⟨("_law_gone", none), "_law_gone", "_law_gone", defArgs (top 58), defBody (top 58), defScope (top 58), [], []⟩
def d__law_put : He.DefD := ⟨("_law_put", none), "_law_put", "_law_put", defArgs (top 59), defBody (top 59), defScope (top 59), [], []⟩
def d__law_nearest : He.DefD := ⟨("_law_nearest", none), "_law_nearest", "_law_nearest", defArgs (top 60), defBody (top 60), defScope (top 60), [], []⟩
def d__law_due : He.DefD := ⟨("_law_due", none), "_law_due", "_law_due", defArgs (top 61), defBody (top 61), defScope (top 61), [], []⟩
def d__law_last : He.DefD := ⟨("_law_last", none), "_law_last", "_law_last", defArgs (top 62), defBody (top 62), defScope (top 62), [], []⟩
def d__law_pairs : He.DefD := ⟨("_law_pairs", none), "_law_pairs", "_law_pairs", defArgs (top 63), defBody (top 63), defScope (top 63), [], []⟩
def d__law_right : He.DefD := ⟨("_law_right", none), "_law_right", "_law_right", defArgs (top 64), defBody (top 64), defScope (top 64), [], []⟩
def d_law : He.DefD := ⟨("law", none), "law", "law", defArgs (top 65), defBody (top 65), defScope (top 65), [], []⟩
def d_Parts____init__ : He.DefD := ⟨("Parts", some "__init__"), "__init__", "Parts.__init__", defArgs (inClass (top 19) 0), defBody (inClass (top 19) 0), defScope (inClass (top 19) 0), [], []⟩
def d_Parts__need_part : He.DefD := ⟨("Parts", some "need_part"), "need_part", "Parts.need_part", defArgs (inClass (top 19) 1), defBody (inClass (top 19) 1), defScope (inClass (top 19) 1), [], []⟩
def d_Parts__need_half : He.DefD := ⟨("Parts", some "need_half"), "need_half", "Parts.need_half", defArgs (inClass (top 19) 2), defBody (inClass (top 19) 2), defScope (inClass (top 19) 2), [], []⟩
def d_Parts__ends : He.DefD := ⟨("Parts", some "ends"), "ends", "Parts.ends", defArgs (inClass (top 19) 3), defBody (inClass (top 19) 3), defScope (inClass (top 19) 3), [], []⟩
def d_Parts__lay : He.DefD := ⟨("Parts", some "lay"), "lay", "Parts.lay", defArgs (inClass (top 19) 4), defBody (inClass (top 19) 4), defScope (inClass (top 19) 4), [], []⟩
def d_Parts__leaf : He.DefD := ⟨("Parts", some "leaf"), "leaf", "Parts.leaf", defArgs (inClass (top 19) 5), defBody (inClass (top 19) 5), defScope (inClass (top 19) 5), [], []⟩
def d_Parts__fork : He.DefD := ⟨("Parts", some "fork"), "fork", "Parts.fork", defArgs (inClass (top 19) 6), defBody (inClass (top 19) 6), defScope (inClass (top 19) 6), [], []⟩
def d_Parts__part : He.DefD := ⟨("Parts", some "part"), "part", "Parts.part", defArgs (inClass (top 19) 7), defBody (inClass (top 19) 7), defScope (inClass (top 19) 7), [], []⟩
def d_Parts__many : He.DefD := ⟨("Parts", some "many"), "many", "Parts.many", defArgs (inClass (top 19) 8), defBody (inClass (top 19) 8), defScope (inClass (top 19) 8), [], []⟩
def d_Parts__numbers : He.DefD := ⟨("Parts", some "numbers"), "numbers", "Parts.numbers", defArgs (inClass (top 19) 9), defBody (inClass (top 19) 9), defScope (inClass (top 19) 9), [], []⟩
def d_Parts__hold : He.DefD := ⟨("Parts", some "hold"), "hold", "Parts.hold", defArgs (inClass (top 19) 11), defBody (inClass (top 19) 11), defScope (inClass (top 19) 11), [], []⟩
def d_Parts__release : He.DefD := ⟨("Parts", some "release"), "release", "Parts.release", defArgs (inClass (top 19) 12), defBody (inClass (top 19) 12), defScope (inClass (top 19) 12), [], []⟩
def d_Parts__unpointed : He.DefD := ⟨("Parts", some "unpointed"), "unpointed", "Parts.unpointed", defArgs (inClass (top 19) 13), defBody (inClass (top 19) 13), defScope (inClass (top 19) 13), [], []⟩
def d_Parts__copied : He.DefD := ⟨("Parts", some "copied"), "copied", "Parts.copied", defArgs (inClass (top 19) 14), defBody (inClass (top 19) 14), defScope (inClass (top 19) 14), [], []⟩
def d_LeapTree____init__ : He.DefD := ⟨("LeapTree", some "__init__"), "__init__", "LeapTree.__init__", defArgs (inClass (top 29) 0), defBody (inClass (top 29) 0), defScope (inClass (top 29) 0), [], []⟩
def d_LeapTree__many : He.DefD := ⟨("LeapTree", some "many"), "many", "MakeTree.many", defArgs (inClass (top 27) 1), defBody (inClass (top 27) 1), defScope (inClass (top 27) 1), [], []⟩
def d_LeapTree__need_make : He.DefD := ⟨("LeapTree", some "need_make"), "need_make", "MakeTree.need_make", defArgs (inClass (top 27) 2), defBody (inClass (top 27) 2), defScope (inClass (top 27) 2), [], []⟩
def d_LeapTree__need_steps : He.DefD := ⟨("LeapTree", some "need_steps"), "need_steps", "MakeTree.need_steps", defArgs (inClass (top 27) 3), defBody (inClass (top 27) 3), defScope (inClass (top 27) 3), [], []⟩
def d_LeapTree__grow : He.DefD := ⟨("LeapTree", some "grow"), "grow", "MakeTree.grow", defArgs (inClass (top 27) 4), defBody (inClass (top 27) 4), defScope (inClass (top 27) 4), [], []⟩
def d_LeapTree__lay : He.DefD := ⟨("LeapTree", some "lay"), "lay", "LeapTree.lay", defArgs (inClass (top 29) 1), defBody (inClass (top 29) 1), defScope (inClass (top 29) 1), [], []⟩
def d_LeapTree__own : He.DefD := ⟨("LeapTree", some "own"), "own", "MakeTree.own", defArgs (inClass (top 27) 6), defBody (inClass (top 27) 6), defScope (inClass (top 27) 6), [], []⟩
def d_LeapTree__depth : He.DefD := ⟨("LeapTree", some "depth"), "depth", "MakeTree.depth", defArgs (inClass (top 27) 7), defBody (inClass (top 27) 7), defScope (inClass (top 27) 7), [], []⟩
def d_LeapTree__on : He.DefD := ⟨("LeapTree", some "on"), "on", "MakeTree.on", defArgs (inClass (top 27) 8), defBody (inClass (top 27) 8), defScope (inClass (top 27) 8), [], []⟩
def d_LeapTree__line : He.DefD := ⟨("LeapTree", some "line"), "line", "MakeTree.line", defArgs (inClass (top 27) 9), defBody (inClass (top 27) 9), defScope (inClass (top 27) 9), [], []⟩
def d_LeapTree__up : He.DefD := ⟨("LeapTree", some "up"), "up", "LeapTree.up", defArgs (inClass (top 29) 4), defBody (inClass (top 29) 4), defScope (inClass (top 29) 4), [], []⟩
def d_LeapTree__nearest : He.DefD := ⟨("LeapTree", some "nearest"), "nearest", "LeapTree.nearest", defArgs (inClass (top 29) 5), defBody (inClass (top 29) 5), defScope (inClass (top 29) 5), [], []⟩
def d_LeapTree__way : He.DefD := ⟨("LeapTree", some "way"), "way", "MakeTree.way", defArgs (inClass (top 27) 12), defBody (inClass (top 27) 12), defScope (inClass (top 27) 12), [], []⟩
def d_LeapTree__copied : He.DefD := ⟨("LeapTree", some "copied"), "copied", "LeapTree.copied", defArgs (inClass (top 29) 6), defBody (inClass (top 29) 6), defScope (inClass (top 29) 6), [], []⟩
def d_LeapTree__leaps : He.DefD := ⟨("LeapTree", some "leaps"), "leaps", "LeapTree.leaps", defArgs (inClass (top 29) 2), defBody (inClass (top 29) 2), defScope (inClass (top 29) 2), [], []⟩
def d_LeapTree__leap_way : He.DefD := ⟨("LeapTree", some "leap_way"), "leap_way", "LeapTree.leap_way", defArgs (inClass (top 29) 3), defBody (inClass (top 29) 3), defScope (inClass (top 29) 3), [], []⟩
def d_Copied____init__ : He.DefD := ⟨("Copied", some "__init__"), "__init__", "Rows.__init__", defArgs (inClass (top 31) 0), defBody (inClass (top 31) 0), defScope (inClass (top 31) 0), [], []⟩
def d_Copied__begin : He.DefD := ⟨("Copied", some "begin"), "begin", "Copied.begin", defArgs (inClass (top 33) 0), defBody (inClass (top 33) 0), defScope (inClass (top 33) 0), [], []⟩
def d_Copied__way : He.DefD := ⟨("Copied", some "way"), "way", "Copied.way", defArgs (inClass (top 33) 1), defBody (inClass (top 33) 1), defScope (inClass (top 33) 1), [], []⟩
def d_Copied__add_steps : He.DefD := ⟨("Copied", some "add_steps"), "add_steps", "Rows.add_steps", defArgs (inClass (top 31) 4), defBody (inClass (top 31) 4), defScope (inClass (top 31) 4), [], []⟩
def d_Copied__store : He.DefD := ⟨("Copied", some "store"), "store", "Copied.store", defArgs (inClass (top 33) 3), defBody (inClass (top 33) 3), defScope (inClass (top 33) 3), [], []⟩
def d_Copied__looked : He.DefD := ⟨("Copied", some "looked"), "looked", "Rows.looked", defArgs (inClass (top 31) 6), defBody (inClass (top 31) 6), defScope (inClass (top 31) 6), [], []⟩
def d_Copied__freed : He.DefD := ⟨("Copied", some "freed"), "freed", "Copied.freed", defArgs (inClass (top 33) 6), defBody (inClass (top 33) 6), defScope (inClass (top 33) 6), [], []⟩
def d_Copied__copied : He.DefD := ⟨("Copied", some "copied"), "copied", "Copied.copied", defArgs (inClass (top 33) 13), defBody (inClass (top 33) 13), defScope (inClass (top 33) 13), [], []⟩
def d_Copied__size : He.DefD := ⟨("Copied", some "size"), "size", "Rows.size", defArgs (inClass (top 31) 9), defBody (inClass (top 31) 9), defScope (inClass (top 31) 9), [], []⟩
def d_Copied__many : He.DefD := ⟨("Copied", some "many"), "many", "Rows.many", defArgs (inClass (top 31) 10), defBody (inClass (top 31) 10), defScope (inClass (top 31) 10), [], []⟩
def d_Copied__makes : He.DefD := ⟨("Copied", some "makes"), "makes", "Rows.makes", defArgs (inClass (top 31) 11), defBody (inClass (top 31) 11), defScope (inClass (top 31) 11), [], []⟩
def d_Copied__tree : He.DefD := ⟨("Copied", some "tree"), "tree", "Rows.tree", defArgs (inClass (top 31) 12), defBody (inClass (top 31) 12), defScope (inClass (top 31) 12), [], []⟩
def d_Copied__steps : He.DefD := ⟨("Copied", some "steps"), "steps", "Rows.steps", defArgs (inClass (top 31) 13), defBody (inClass (top 31) 13), defScope (inClass (top 31) 13), [], []⟩
def d_Copied__place_of : He.DefD := ⟨("Copied", some "place_of"), "place_of", "Rows.place_of", defArgs (inClass (top 31) 14), defBody (inClass (top 31) 14), defScope (inClass (top 31) 14), [], []⟩
def d_Copied__writer : He.DefD := ⟨("Copied", some "writer"), "writer", "Rows.writer", defArgs (inClass (top 31) 15), defBody (inClass (top 31) 15), defScope (inClass (top 31) 15), [], []⟩
def d_Copied__writer_of : He.DefD := ⟨("Copied", some "writer_of"), "writer_of", "Rows.writer_of", defArgs (inClass (top 31) 16), defBody (inClass (top 31) 16), defScope (inClass (top 31) 16), [], []⟩
def d_Copied__need_make : He.DefD := ⟨("Copied", some "need_make"), "need_make", "Rows.need_make", defArgs (inClass (top 31) 17), defBody (inClass (top 31) 17), defScope (inClass (top 31) 17), [], []⟩
def d_Copied__need_place : He.DefD := ⟨("Copied", some "need_place"), "need_place", "Rows.need_place", defArgs (inClass (top 31) 18), defBody (inClass (top 31) 18), defScope (inClass (top 31) 18), [], []⟩
def d_Copied__need_stretch : He.DefD := ⟨("Copied", some "need_stretch"), "need_stretch", "Rows.need_stretch", defArgs (inClass (top 31) 19), defBody (inClass (top 31) 19), defScope (inClass (top 31) 19), [], []⟩
def d_Copied__need_new : He.DefD := ⟨("Copied", some "need_new"), "need_new", "Rows.need_new", defArgs (inClass (top 31) 20), defBody (inClass (top 31) 20), defScope (inClass (top 31) 20), [], []⟩
def d_Copied__need_room : He.DefD := ⟨("Copied", some "need_room"), "need_room", "Rows.need_room", defArgs (inClass (top 31) 21), defBody (inClass (top 31) 21), defScope (inClass (top 31) 21), [], []⟩
def d_Copied__put : He.DefD := ⟨("Copied", some "put"), "put", "Rows.put", defArgs (inClass (top 31) 22), defBody (inClass (top 31) 22), defScope (inClass (top 31) 22), [], []⟩
def d_Copied__written : He.DefD := ⟨("Copied", some "written"), "written", "Rows.written", defArgs (inClass (top 31) 24), defBody (inClass (top 31) 24), defScope (inClass (top 31) 24), [], []⟩
def d_Copied__at : He.DefD := ⟨("Copied", some "at"), "at", "Rows.at", defArgs (inClass (top 31) 25), defBody (inClass (top 31) 25), defScope (inClass (top 31) 25), [], []⟩
def d_Copied__row : He.DefD := ⟨("Copied", some "row"), "row", "Rows.row", defArgs (inClass (top 31) 26), defBody (inClass (top 31) 26), defScope (inClass (top 31) 26), [], []⟩
def d_Copied__stretch : He.DefD := ⟨("Copied", some "stretch"), "stretch", "Rows.stretch", defArgs (inClass (top 31) 27), defBody (inClass (top 31) 27), defScope (inClass (top 31) 27), [], []⟩
def d_Copied__worths_in : He.DefD := ⟨("Copied", some "worths_in"), "worths_in", "Copied.worths_in", defArgs (inClass (top 33) 5), defBody (inClass (top 33) 5), defScope (inClass (top 33) 5), [], []⟩
def d_Copied__let_go : He.DefD := ⟨("Copied", some "let_go"), "let_go", "Rows.let_go", defArgs (inClass (top 31) 29), defBody (inClass (top 31) 29), defScope (inClass (top 31) 29), [], []⟩
def d_Copied__same_makes : He.DefD := ⟨("Copied", some "same_makes"), "same_makes", "Rows.same_makes", defArgs (inClass (top 31) 30), defBody (inClass (top 31) 30), defScope (inClass (top 31) 30), [], []⟩
def d_Copied__met : He.DefD := ⟨("Copied", some "met"), "met", "Copied.met", defArgs (inClass (top 33) 4), defBody (inClass (top 33) 4), defScope (inClass (top 33) 4), [], []⟩
def d_Copied__root : He.DefD := ⟨("Copied", some "root"), "root", "Copied.root", defArgs (inClass (top 33) 7), defBody (inClass (top 33) 7), defScope (inClass (top 33) 7), [], []⟩
def d_Copied__part : He.DefD := ⟨("Copied", some "part"), "part", "Copied.part", defArgs (inClass (top 33) 8), defBody (inClass (top 33) 8), defScope (inClass (top 33) 8), [], []⟩
def d_MakeTree____init__ : He.DefD := ⟨("MakeTree", some "__init__"), "__init__", "MakeTree.__init__", defArgs (inClass (top 27) 0), defBody (inClass (top 27) 0), defScope (inClass (top 27) 0), [], []⟩
def fn : List He.DefD := [d__wall, d_is_whole, d_is_worth, d_is_worths, d_laid_down, d_built, d_half_of, d_way_down, d_put_down, d_need_rows, d_need_makes, d_touched, d_unlike_places, d_parted, d_halves_pairs, d_parted_by_parts, d__law_cell, d__law_box, d__law_take, d__law_worth, d__law_worths, d__law_model, d__law_writer, d__law_value, d__law_line_of, d__law_kept, d__law_picked, d__law_grown, d__law_line, d__law_path, d__law_drawn, d__law_gone, d__law_put, d__law_nearest, d__law_due, d__law_last, d__law_pairs, d__law_right, d_law, d_Parts____init__, d_Parts__need_part, d_Parts__need_half, d_Parts__ends, d_Parts__lay, d_Parts__leaf, d_Parts__fork, d_Parts__part, d_Parts__many, d_Parts__numbers, d_Parts__hold, d_Parts__release, d_Parts__unpointed, d_Parts__copied, d_LeapTree____init__, d_LeapTree__many, d_LeapTree__need_make, d_LeapTree__need_steps, d_LeapTree__grow, d_LeapTree__lay, d_LeapTree__own, d_LeapTree__depth, d_LeapTree__on, d_LeapTree__line, d_LeapTree__up, d_LeapTree__nearest, d_LeapTree__way, d_LeapTree__copied, d_LeapTree__leaps, d_LeapTree__leap_way, d_Copied____init__, d_Copied__begin, d_Copied__way, d_Copied__add_steps, d_Copied__store, d_Copied__looked, d_Copied__freed, d_Copied__copied, d_Copied__size, d_Copied__many, d_Copied__makes, d_Copied__tree, d_Copied__steps, d_Copied__place_of, d_Copied__writer, d_Copied__writer_of, d_Copied__need_make, d_Copied__need_place, d_Copied__need_stretch, d_Copied__need_new, d_Copied__need_room, d_Copied__put, d_Copied__written, d_Copied__at, d_Copied__row, d_Copied__stretch, d_Copied__worths_in, d_Copied__let_go, d_Copied__same_makes, d_Copied__met, d_Copied__root, d_Copied__part, d_MakeTree____init__]
def fa : List He.Fa := [.glo "_wall", .glo "is_whole", .glo "is_worth", .glo "is_worths", .glo "laid_down", .glo "built", .glo "half_of", .glo "way_down", .glo "put_down", .glo "need_rows", .glo "need_makes", .glo "touched", .glo "unlike_places", .glo "parted", .glo "halves_pairs", .glo "parted_by_parts", .glo "_law_cell", .glo "_law_box", .glo "_law_take", .glo "_law_worth", .glo "_law_worths", .glo "_law_model", .glo "_law_writer", .glo "_law_value", .glo "_law_line_of", .glo "_law_kept", .glo "_law_picked", .glo "_law_grown", .glo "_law_line", .glo "_law_path", .glo "_law_drawn", .glo "_law_gone", .glo "_law_put", .glo "_law_nearest", .glo "_law_due", .glo "_law_last", .glo "_law_pairs", .glo "_law_right", .glo "law", .glo "MakesError", .glo "NoRow", .glo "NoWorth", .glo "NoPlace", .glo "NoStretch", .glo "NoMake", .glo "NoPart", .glo "NoNumber", .glo "NoWay", .glo "TooMany", .glo "Alone", .glo "Parts", .glo "MakeTree", .glo "LeapTree", .glo "Rows", .glo "Copied", .free "all", .free "bool", .free "dict", .free "enumerate", .free "int", .free "isinstance", .free "len", .free "list", .free "max", .free "min", .free "range", .free "repr", .free "reversed", .free "set", .free "sorted", .free "tuple", .cls "Parts", .mkr "Parts", .noat "Parts" "laid", .noat "Parts" "pointed", .noat "Parts" "holds", .noat "Parts" "given", .noat "Parts" "extend", .meth "Parts" "__init__", .meth "Parts" "need_part", .meth "Parts" "need_half", .meth "Parts" "ends", .meth "Parts" "lay", .meth "Parts" "leaf", .meth "Parts" "fork", .meth "Parts" "part", .meth "Parts" "many", .meth "Parts" "numbers", .meth "Parts" "hold", .meth "Parts" "release", .meth "Parts" "unpointed", .meth "Parts" "copied", .cls "LeapTree", .mkr "LeapTree", .noat "LeapTree" "leaping", .noat "LeapTree" "depths", .noat "LeapTree" "append", .noat "LeapTree" "owners", .noat "LeapTree" "reverse", .meth "LeapTree" "__init__", .meth "LeapTree" "many", .meth "LeapTree" "need_make", .meth "LeapTree" "need_steps", .meth "LeapTree" "grow", .meth "LeapTree" "lay", .meth "LeapTree" "own", .meth "LeapTree" "depth", .meth "LeapTree" "on", .meth "LeapTree" "line", .meth "LeapTree" "up", .meth "LeapTree" "nearest", .meth "LeapTree" "way", .meth "LeapTree" "copied", .meth "LeapTree" "leaps", .meth "LeapTree" "leap_way", .cls "Copied", .mkr "Copied", .noat "Copied" "halves", .noat "Copied" "roots", .noat "Copied" "extend", .noat "Copied" "wide", .noat "Copied" "grown", .noat "Copied" "wrote", .noat "Copied" "gone", .noat "Copied" "counted", .noat "Copied" "first", .meth "Copied" "__init__", .meth "Copied" "begin", .meth "Copied" "way", .meth "Copied" "add_steps", .meth "Copied" "store", .meth "Copied" "looked", .meth "Copied" "freed", .meth "Copied" "copied", .meth "Copied" "size", .meth "Copied" "many", .meth "Copied" "makes", .meth "Copied" "tree", .meth "Copied" "steps", .meth "Copied" "place_of", .meth "Copied" "writer", .meth "Copied" "writer_of", .meth "Copied" "need_make", .meth "Copied" "need_place", .meth "Copied" "need_stretch", .meth "Copied" "need_new", .meth "Copied" "need_room", .meth "Copied" "put", .meth "Copied" "written", .meth "Copied" "at", .meth "Copied" "row", .meth "Copied" "stretch", .meth "Copied" "worths_in", .meth "Copied" "let_go", .meth "Copied" "same_makes", .meth "Copied" "met", .meth "Copied" "root", .meth "Copied" "part", .int "MOST_PLACES" 16, .int "MOST_MAKES" 64]
def bas : List (Str × Str) := [("MakeTree", "__init__")]
def kitL : List (Str × Str × Bool) := [("Parts", "Rows", false), ("LeapTree", "Rows", false), ("Copied", "Rows", true), ("Parts", "Copied", false), ("LeapTree", "Copied", false), ("Copied", "Copied", true)]
/-- what is known where a def of the text runs -/
structure Sit (P : Program) (w : World) (K : PySem.W.Frag) (mg : Str → Option Value) (base : Heap) : Prop where
  c : He.SaysD fa fn K
  b : bas.all (basOk K) = true
  k : kitL.all (kitOk K) = true
  h : ∃ h : Heap, K.In h ∧ h.Ns mainGlobals mg
section
variable {P : Program} {w : World} {K : PySem.W.Frag} {mg : Str → Option Value} {base : Heap}
theorem gl__wall (S : Sit P w K mg base) : mg "_wall" = some (.ref (He.ga K "_wall")) := let ⟨_, X, G⟩ := S.h; He.glo_ok X G (S.c.fact 0 (f := .glo "_wall") rfl)
theorem gl_is_whole (S : Sit P w K mg base) : mg "is_whole" = some (.ref (He.ga K "is_whole")) := let ⟨_, X, G⟩ := S.h; He.glo_ok X G (S.c.fact 1 (f := .glo "is_whole") rfl)
theorem gl_is_worth (S : Sit P w K mg base) : mg "is_worth" = some (.ref (He.ga K "is_worth")) := let ⟨_, X, G⟩ := S.h; He.glo_ok X G (S.c.fact 2 (f := .glo "is_worth") rfl)
theorem gl_is_worths (S : Sit P w K mg base) : mg "is_worths" = some (.ref (He.ga K "is_worths")) := let ⟨_, X, G⟩ := S.h; He.glo_ok X G (S.c.fact 3 (f := .glo "is_worths") rfl)
theorem gl_laid_down (S : Sit P w K mg base) : mg "laid_down" = some (.ref (He.ga K "laid_down")) := let ⟨_, X, G⟩ := S.h; He.glo_ok X G (S.c.fact 4 (f := .glo "laid_down") rfl)
theorem gl_built (S : Sit P w K mg base) : mg "built" = some (.ref (He.ga K "built")) := let ⟨_, X, G⟩ := S.h; He.glo_ok X G (S.c.fact 5 (f := .glo "built") rfl)
theorem gl_half_of (S : Sit P w K mg base) : mg "half_of" = some (.ref (He.ga K "half_of")) := let ⟨_, X, G⟩ := S.h; He.glo_ok X G (S.c.fact 6 (f := .glo "half_of") rfl)
theorem gl_way_down (S : Sit P w K mg base) : mg "way_down" = some (.ref (He.ga K "way_down")) := let ⟨_, X, G⟩ := S.h; He.glo_ok X G (S.c.fact 7 (f := .glo "way_down") rfl)
theorem gl_put_down (S : Sit P w K mg base) : mg "put_down" = some (.ref (He.ga K "put_down")) := let ⟨_, X, G⟩ := S.h; He.glo_ok X G (S.c.fact 8 (f := .glo "put_down") rfl)
theorem gl_need_rows (S : Sit P w K mg base) : mg "need_rows" = some (.ref (He.ga K "need_rows")) := let ⟨_, X, G⟩ := S.h; He.glo_ok X G (S.c.fact 9 (f := .glo "need_rows") rfl)
theorem gl_need_makes (S : Sit P w K mg base) : mg "need_makes" = some (.ref (He.ga K "need_makes")) := let ⟨_, X, G⟩ := S.h; He.glo_ok X G (S.c.fact 10 (f := .glo "need_makes") rfl)
theorem gl_touched (S : Sit P w K mg base) : mg "touched" = some (.ref (He.ga K "touched")) := let ⟨_, X, G⟩ := S.h; He.glo_ok X G (S.c.fact 11 (f := .glo "touched") rfl)
theorem gl_unlike_places (S : Sit P w K mg base) : mg "unlike_places" = some (.ref (He.ga K "unlike_places")) := let ⟨_, X, G⟩ := S.h; He.glo_ok X G (S.c.fact 12 (f := .glo "unlike_places") rfl)
theorem gl_parted (S : Sit P w K mg base) : mg "parted" = some (.ref (He.ga K "parted")) := let ⟨_, X, G⟩ := S.h; He.glo_ok X G (S.c.fact 13 (f := .glo "parted") rfl)
theorem gl_halves_pairs (S : Sit P w K mg base) : mg "halves_pairs" = some (.ref (He.ga K "halves_pairs")) := let ⟨_, X, G⟩ := S.h; He.glo_ok X G (S.c.fact 14 (f := .glo "halves_pairs") rfl)
theorem gl_parted_by_parts (S : Sit P w K mg base) : mg "parted_by_parts" = some (.ref (He.ga K "parted_by_parts")) := let ⟨_, X, G⟩ := S.h; He.glo_ok X G (S.c.fact 15 (f := .glo "parted_by_parts") rfl)
theorem gl__law_cell (S : Sit P w K mg base) : mg "_law_cell" = some (.ref (He.ga K "_law_cell")) := let ⟨_, X, G⟩ := S.h; He.glo_ok X G (S.c.fact 16 (f := .glo "_law_cell") rfl)
theorem gl__law_box (S : Sit P w K mg base) : mg "_law_box" = some (.ref (He.ga K "_law_box")) := let ⟨_, X, G⟩ := S.h; He.glo_ok X G (S.c.fact 17 (f := .glo "_law_box") rfl)
theorem gl__law_take (S : Sit P w K mg base) : mg "_law_take" = some (.ref (He.ga K "_law_take")) := let ⟨_, X, G⟩ := S.h; He.glo_ok X G (S.c.fact 18 (f := .glo "_law_take") rfl)
theorem gl__law_worth (S : Sit P w K mg base) : mg "_law_worth" = some (.ref (He.ga K "_law_worth")) := let ⟨_, X, G⟩ := S.h; He.glo_ok X G (S.c.fact 19 (f := .glo "_law_worth") rfl)
theorem gl__law_worths (S : Sit P w K mg base) : mg "_law_worths" = some (.ref (He.ga K "_law_worths")) := let ⟨_, X, G⟩ := S.h; He.glo_ok X G (S.c.fact 20 (f := .glo "_law_worths") rfl)
theorem gl__law_model (S : Sit P w K mg base) : mg "_law_model" = some (.ref (He.ga K "_law_model")) := let ⟨_, X, G⟩ := S.h; He.glo_ok X G (S.c.fact 21 (f := .glo "_law_model") rfl)
theorem gl__law_writer (S : Sit P w K mg base) : mg "_law_writer" = some (.ref (He.ga K "_law_writer")) := let ⟨_, X, G⟩ := S.h; He.glo_ok X G (S.c.fact 22 (f := .glo "_law_writer") rfl)
theorem gl__law_value (S : Sit P w K mg base) : mg "_law_value" = some (.ref (He.ga K "_law_value")) := let ⟨_, X, G⟩ := S.h; He.glo_ok X G (S.c.fact 23 (f := .glo "_law_value") rfl)
theorem gl__law_line_of (S : Sit P w K mg base) : mg "_law_line_of" = some (.ref (He.ga K "_law_line_of")) := let ⟨_, X, G⟩ := S.h; He.glo_ok X G (S.c.fact 24 (f := .glo "_law_line_of") rfl)
theorem gl__law_kept (S : Sit P w K mg base) : mg "_law_kept" = some (.ref (He.ga K "_law_kept")) := let ⟨_, X, G⟩ := S.h; He.glo_ok X G (S.c.fact 25 (f := .glo "_law_kept") rfl)
theorem gl__law_picked (S : Sit P w K mg base) : mg "_law_picked" = some (.ref (He.ga K "_law_picked")) := let ⟨_, X, G⟩ := S.h; He.glo_ok X G (S.c.fact 26 (f := .glo "_law_picked") rfl)
theorem gl__law_grown (S : Sit P w K mg base) : mg "_law_grown" = some (.ref (He.ga K "_law_grown")) := let ⟨_, X, G⟩ := S.h; He.glo_ok X G (S.c.fact 27 (f := .glo "_law_grown") rfl)
theorem gl__law_line (S : Sit P w K mg base) : mg "_law_line" = some (.ref (He.ga K "_law_line")) := let ⟨_, X, G⟩ := S.h; He.glo_ok X G (S.c.fact 28 (f := .glo "_law_line") rfl)
theorem gl__law_path (S : Sit P w K mg base) : mg "_law_path" = some (.ref (He.ga K "_law_path")) := let ⟨_, X, G⟩ := S.h; He.glo_ok X G (S.c.fact 29 (f := .glo "_law_path") rfl)
theorem gl__law_drawn (S : Sit P w K mg base) : mg "_law_drawn" = some (.ref (He.ga K "_law_drawn")) := let ⟨_, X, G⟩ := S.h; He.glo_ok X G (S.c.fact 30 (f := .glo "_law_drawn") rfl)
theorem gl__law_gone (S : Sit P w K mg base) : mg "_law_gone" = some (.ref (He.ga K "_law_gone")) := let ⟨_, X, G⟩ := S.h; He.glo_ok X G (S.c.fact 31 (f := .glo "_law_gone") rfl)
theorem gl__law_put (S : Sit P w K mg base) : mg "_law_put" = some (.ref (He.ga K "_law_put")) := let ⟨_, X, G⟩ := S.h; He.glo_ok X G (S.c.fact 32 (f := .glo "_law_put") rfl)
theorem gl__law_nearest (S : Sit P w K mg base) : mg "_law_nearest" = some (.ref (He.ga K "_law_nearest")) := let ⟨_, X, G⟩ := S.h; He.glo_ok X G (S.c.fact 33 (f := .glo "_law_nearest") rfl)
theorem gl__law_due (S : Sit P w K mg base) : mg "_law_due" = some (.ref (He.ga K "_law_due")) := let ⟨_, X, G⟩ := S.h; He.glo_ok X G (S.c.fact 34 (f := .glo "_law_due") rfl)
theorem gl__law_last (S : Sit P w K mg base) : mg "_law_last" = some (.ref (He.ga K "_law_last")) := let ⟨_, X, G⟩ := S.h; He.glo_ok X G (S.c.fact 35 (f := .glo "_law_last") rfl)
theorem gl__law_pairs (S : Sit P w K mg base) : mg "_law_pairs" = some (.ref (He.ga K "_law_pairs")) := let ⟨_, X, G⟩ := S.h; He.glo_ok X G (S.c.fact 36 (f := .glo "_law_pairs") rfl)
theorem gl__law_right (S : Sit P w K mg base) : mg "_law_right" = some (.ref (He.ga K "_law_right")) := let ⟨_, X, G⟩ := S.h; He.glo_ok X G (S.c.fact 37 (f := .glo "_law_right") rfl)
theorem gl_law (S : Sit P w K mg base) : mg "law" = some (.ref (He.ga K "law")) := let ⟨_, X, G⟩ := S.h; He.glo_ok X G (S.c.fact 38 (f := .glo "law") rfl)
theorem gl_MakesError (S : Sit P w K mg base) : mg "MakesError" = some (.ref (He.ga K "MakesError")) := let ⟨_, X, G⟩ := S.h; He.glo_ok X G (S.c.fact 39 (f := .glo "MakesError") rfl)
theorem gl_NoRow (S : Sit P w K mg base) : mg "NoRow" = some (.ref (He.ga K "NoRow")) := let ⟨_, X, G⟩ := S.h; He.glo_ok X G (S.c.fact 40 (f := .glo "NoRow") rfl)
theorem gl_NoWorth (S : Sit P w K mg base) : mg "NoWorth" = some (.ref (He.ga K "NoWorth")) := let ⟨_, X, G⟩ := S.h; He.glo_ok X G (S.c.fact 41 (f := .glo "NoWorth") rfl)
theorem gl_NoPlace (S : Sit P w K mg base) : mg "NoPlace" = some (.ref (He.ga K "NoPlace")) := let ⟨_, X, G⟩ := S.h; He.glo_ok X G (S.c.fact 42 (f := .glo "NoPlace") rfl)
theorem gl_NoStretch (S : Sit P w K mg base) : mg "NoStretch" = some (.ref (He.ga K "NoStretch")) := let ⟨_, X, G⟩ := S.h; He.glo_ok X G (S.c.fact 43 (f := .glo "NoStretch") rfl)
theorem gl_NoMake (S : Sit P w K mg base) : mg "NoMake" = some (.ref (He.ga K "NoMake")) := let ⟨_, X, G⟩ := S.h; He.glo_ok X G (S.c.fact 44 (f := .glo "NoMake") rfl)
theorem gl_NoPart (S : Sit P w K mg base) : mg "NoPart" = some (.ref (He.ga K "NoPart")) := let ⟨_, X, G⟩ := S.h; He.glo_ok X G (S.c.fact 45 (f := .glo "NoPart") rfl)
theorem gl_NoNumber (S : Sit P w K mg base) : mg "NoNumber" = some (.ref (He.ga K "NoNumber")) := let ⟨_, X, G⟩ := S.h; He.glo_ok X G (S.c.fact 46 (f := .glo "NoNumber") rfl)
theorem gl_NoWay (S : Sit P w K mg base) : mg "NoWay" = some (.ref (He.ga K "NoWay")) := let ⟨_, X, G⟩ := S.h; He.glo_ok X G (S.c.fact 47 (f := .glo "NoWay") rfl)
theorem gl_TooMany (S : Sit P w K mg base) : mg "TooMany" = some (.ref (He.ga K "TooMany")) := let ⟨_, X, G⟩ := S.h; He.glo_ok X G (S.c.fact 48 (f := .glo "TooMany") rfl)
theorem gl_Alone (S : Sit P w K mg base) : mg "Alone" = some (.ref (He.ga K "Alone")) := let ⟨_, X, G⟩ := S.h; He.glo_ok X G (S.c.fact 49 (f := .glo "Alone") rfl)
theorem gl_Parts (S : Sit P w K mg base) : mg "Parts" = some (.ref (He.ga K "Parts")) := let ⟨_, X, G⟩ := S.h; He.glo_ok X G (S.c.fact 50 (f := .glo "Parts") rfl)
theorem gl_MakeTree (S : Sit P w K mg base) : mg "MakeTree" = some (.ref (He.ga K "MakeTree")) := let ⟨_, X, G⟩ := S.h; He.glo_ok X G (S.c.fact 51 (f := .glo "MakeTree") rfl)
theorem gl_LeapTree (S : Sit P w K mg base) : mg "LeapTree" = some (.ref (He.ga K "LeapTree")) := let ⟨_, X, G⟩ := S.h; He.glo_ok X G (S.c.fact 52 (f := .glo "LeapTree") rfl)
theorem gl_Rows (S : Sit P w K mg base) : mg "Rows" = some (.ref (He.ga K "Rows")) := let ⟨_, X, G⟩ := S.h; He.glo_ok X G (S.c.fact 53 (f := .glo "Rows") rfl)
theorem gl_Copied (S : Sit P w K mg base) : mg "Copied" = some (.ref (He.ga K "Copied")) := let ⟨_, X, G⟩ := S.h; He.glo_ok X G (S.c.fact 54 (f := .glo "Copied") rfl)
theorem fr_all (S : Sit P w K mg base) : mg "all" = none := let ⟨_, X, G⟩ := S.h; He.free_ok X G (S.c.fact 55 (f := .free "all") rfl)
theorem fr_bool (S : Sit P w K mg base) : mg "bool" = none := let ⟨_, X, G⟩ := S.h; He.free_ok X G (S.c.fact 56 (f := .free "bool") rfl)
theorem fr_dict (S : Sit P w K mg base) : mg "dict" = none := let ⟨_, X, G⟩ := S.h; He.free_ok X G (S.c.fact 57 (f := .free "dict") rfl)
theorem fr_enumerate (S : Sit P w K mg base) : mg "enumerate" = none := let ⟨_, X, G⟩ := S.h; He.free_ok X G (S.c.fact 58 (f := .free "enumerate") rfl)
theorem fr_int (S : Sit P w K mg base) : mg "int" = none := let ⟨_, X, G⟩ := S.h; He.free_ok X G (S.c.fact 59 (f := .free "int") rfl)
theorem fr_isinstance (S : Sit P w K mg base) : mg "isinstance" = none := let ⟨_, X, G⟩ := S.h; He.free_ok X G (S.c.fact 60 (f := .free "isinstance") rfl)
theorem fr_len (S : Sit P w K mg base) : mg "len" = none := let ⟨_, X, G⟩ := S.h; He.free_ok X G (S.c.fact 61 (f := .free "len") rfl)
theorem fr_list (S : Sit P w K mg base) : mg "list" = none := let ⟨_, X, G⟩ := S.h; He.free_ok X G (S.c.fact 62 (f := .free "list") rfl)
theorem fr_max (S : Sit P w K mg base) : mg "max" = none := let ⟨_, X, G⟩ := S.h; He.free_ok X G (S.c.fact 63 (f := .free "max") rfl)
theorem fr_min (S : Sit P w K mg base) : mg "min" = none := let ⟨_, X, G⟩ := S.h; He.free_ok X G (S.c.fact 64 (f := .free "min") rfl)
theorem fr_range (S : Sit P w K mg base) : mg "range" = none := let ⟨_, X, G⟩ := S.h; He.free_ok X G (S.c.fact 65 (f := .free "range") rfl)
theorem fr_repr (S : Sit P w K mg base) : mg "repr" = none := let ⟨_, X, G⟩ := S.h; He.free_ok X G (S.c.fact 66 (f := .free "repr") rfl)
theorem fr_reversed (S : Sit P w K mg base) : mg "reversed" = none := let ⟨_, X, G⟩ := S.h; He.free_ok X G (S.c.fact 67 (f := .free "reversed") rfl)
theorem fr_set (S : Sit P w K mg base) : mg "set" = none := let ⟨_, X, G⟩ := S.h; He.free_ok X G (S.c.fact 68 (f := .free "set") rfl)
theorem fr_sorted (S : Sit P w K mg base) : mg "sorted" = none := let ⟨_, X, G⟩ := S.h; He.free_ok X G (S.c.fact 69 (f := .free "sorted") rfl)
theorem fr_tuple (S : Sit P w K mg base) : mg "tuple" = none := let ⟨_, X, G⟩ := S.h; He.free_ok X G (S.c.fact 70 (f := .free "tuple") rfl)
theorem cls_Parts (S : Sit P w K mg base) : Cls K (He.ga K "Parts") := He.cls_ok (S.c.fact 71 (f := .cls "Parts") rfl)
theorem mk_Parts (S : Sit P w K mg base) : Mk K (He.ga K "Parts") (He.ma K (He.ga K "Parts") "__init__") := He.mkr_ok (S.c.fact 72 (f := .mkr "Parts") rfl)
theorem na_Parts_laid (S : Sit P w K mg base) : NoAttr K (He.ga K "Parts") "laid" := He.noat_ok (S.c.fact 73 (f := .noat "Parts" "laid") rfl)
theorem na_Parts_pointed (S : Sit P w K mg base) : NoAttr K (He.ga K "Parts") "pointed" := He.noat_ok (S.c.fact 74 (f := .noat "Parts" "pointed") rfl)
theorem na_Parts_holds (S : Sit P w K mg base) : NoAttr K (He.ga K "Parts") "holds" := He.noat_ok (S.c.fact 75 (f := .noat "Parts" "holds") rfl)
theorem na_Parts_given (S : Sit P w K mg base) : NoAttr K (He.ga K "Parts") "given" := He.noat_ok (S.c.fact 76 (f := .noat "Parts" "given") rfl)
theorem na_Parts_extend (S : Sit P w K mg base) : NoAttr K (He.ga K "Parts") "extend" := He.noat_ok (S.c.fact 77 (f := .noat "Parts" "extend") rfl)
theorem mt_Parts___init__ (S : Sit P w K mg base) : Meth K (He.ga K "Parts") "__init__" (He.ma K (He.ga K "Parts") "__init__") := He.meth_ok (S.c.fact 78 (f := .meth "Parts" "__init__") rfl)
theorem mt_Parts_need_part (S : Sit P w K mg base) : Meth K (He.ga K "Parts") "need_part" (He.ma K (He.ga K "Parts") "need_part") := He.meth_ok (S.c.fact 79 (f := .meth "Parts" "need_part") rfl)
theorem mt_Parts_need_half (S : Sit P w K mg base) : Meth K (He.ga K "Parts") "need_half" (He.ma K (He.ga K "Parts") "need_half") := He.meth_ok (S.c.fact 80 (f := .meth "Parts" "need_half") rfl)
theorem mt_Parts_ends (S : Sit P w K mg base) : Meth K (He.ga K "Parts") "ends" (He.ma K (He.ga K "Parts") "ends") := He.meth_ok (S.c.fact 81 (f := .meth "Parts" "ends") rfl)
theorem mt_Parts_lay (S : Sit P w K mg base) : Meth K (He.ga K "Parts") "lay" (He.ma K (He.ga K "Parts") "lay") := He.meth_ok (S.c.fact 82 (f := .meth "Parts" "lay") rfl)
theorem mt_Parts_leaf (S : Sit P w K mg base) : Meth K (He.ga K "Parts") "leaf" (He.ma K (He.ga K "Parts") "leaf") := He.meth_ok (S.c.fact 83 (f := .meth "Parts" "leaf") rfl)
theorem mt_Parts_fork (S : Sit P w K mg base) : Meth K (He.ga K "Parts") "fork" (He.ma K (He.ga K "Parts") "fork") := He.meth_ok (S.c.fact 84 (f := .meth "Parts" "fork") rfl)
theorem mt_Parts_part (S : Sit P w K mg base) : Meth K (He.ga K "Parts") "part" (He.ma K (He.ga K "Parts") "part") := He.meth_ok (S.c.fact 85 (f := .meth "Parts" "part") rfl)
theorem mt_Parts_many (S : Sit P w K mg base) : Meth K (He.ga K "Parts") "many" (He.ma K (He.ga K "Parts") "many") := He.meth_ok (S.c.fact 86 (f := .meth "Parts" "many") rfl)
theorem mt_Parts_numbers (S : Sit P w K mg base) : Meth K (He.ga K "Parts") "numbers" (He.ma K (He.ga K "Parts") "numbers") := He.meth_ok (S.c.fact 87 (f := .meth "Parts" "numbers") rfl)
theorem mt_Parts_hold (S : Sit P w K mg base) : Meth K (He.ga K "Parts") "hold" (He.ma K (He.ga K "Parts") "hold") := He.meth_ok (S.c.fact 88 (f := .meth "Parts" "hold") rfl)
theorem mt_Parts_release (S : Sit P w K mg base) : Meth K (He.ga K "Parts") "release" (He.ma K (He.ga K "Parts") "release") := He.meth_ok (S.c.fact 89 (f := .meth "Parts" "release") rfl)
theorem mt_Parts_unpointed (S : Sit P w K mg base) : Meth K (He.ga K "Parts") "unpointed" (He.ma K (He.ga K "Parts") "unpointed") := He.meth_ok (S.c.fact 90 (f := .meth "Parts" "unpointed") rfl)
theorem mt_Parts_copied (S : Sit P w K mg base) : Meth K (He.ga K "Parts") "copied" (He.ma K (He.ga K "Parts") "copied") := He.meth_ok (S.c.fact 91 (f := .meth "Parts" "copied") rfl)
theorem cls_LeapTree (S : Sit P w K mg base) : Cls K (He.ga K "LeapTree") := He.cls_ok (S.c.fact 92 (f := .cls "LeapTree") rfl)
theorem mk_LeapTree (S : Sit P w K mg base) : Mk K (He.ga K "LeapTree") (He.ma K (He.ga K "LeapTree") "__init__") := He.mkr_ok (S.c.fact 93 (f := .mkr "LeapTree") rfl)
theorem na_LeapTree_leaping (S : Sit P w K mg base) : NoAttr K (He.ga K "LeapTree") "leaping" := He.noat_ok (S.c.fact 94 (f := .noat "LeapTree" "leaping") rfl)
theorem na_LeapTree_depths (S : Sit P w K mg base) : NoAttr K (He.ga K "LeapTree") "depths" := He.noat_ok (S.c.fact 95 (f := .noat "LeapTree" "depths") rfl)
theorem na_LeapTree_append (S : Sit P w K mg base) : NoAttr K (He.ga K "LeapTree") "append" := He.noat_ok (S.c.fact 96 (f := .noat "LeapTree" "append") rfl)
theorem na_LeapTree_owners (S : Sit P w K mg base) : NoAttr K (He.ga K "LeapTree") "owners" := He.noat_ok (S.c.fact 97 (f := .noat "LeapTree" "owners") rfl)
theorem na_LeapTree_reverse (S : Sit P w K mg base) : NoAttr K (He.ga K "LeapTree") "reverse" := He.noat_ok (S.c.fact 98 (f := .noat "LeapTree" "reverse") rfl)
theorem mt_LeapTree___init__ (S : Sit P w K mg base) : Meth K (He.ga K "LeapTree") "__init__" (He.ma K (He.ga K "LeapTree") "__init__") := He.meth_ok (S.c.fact 99 (f := .meth "LeapTree" "__init__") rfl)
theorem mt_LeapTree_many (S : Sit P w K mg base) : Meth K (He.ga K "LeapTree") "many" (He.ma K (He.ga K "LeapTree") "many") := He.meth_ok (S.c.fact 100 (f := .meth "LeapTree" "many") rfl)
theorem mt_LeapTree_need_make (S : Sit P w K mg base) : Meth K (He.ga K "LeapTree") "need_make" (He.ma K (He.ga K "LeapTree") "need_make") := He.meth_ok (S.c.fact 101 (f := .meth "LeapTree" "need_make") rfl)
theorem mt_LeapTree_need_steps (S : Sit P w K mg base) : Meth K (He.ga K "LeapTree") "need_steps" (He.ma K (He.ga K "LeapTree") "need_steps") := He.meth_ok (S.c.fact 102 (f := .meth "LeapTree" "need_steps") rfl)
theorem mt_LeapTree_grow (S : Sit P w K mg base) : Meth K (He.ga K "LeapTree") "grow" (He.ma K (He.ga K "LeapTree") "grow") := He.meth_ok (S.c.fact 103 (f := .meth "LeapTree" "grow") rfl)
theorem mt_LeapTree_lay (S : Sit P w K mg base) : Meth K (He.ga K "LeapTree") "lay" (He.ma K (He.ga K "LeapTree") "lay") := He.meth_ok (S.c.fact 104 (f := .meth "LeapTree" "lay") rfl)
theorem mt_LeapTree_own (S : Sit P w K mg base) : Meth K (He.ga K "LeapTree") "own" (He.ma K (He.ga K "LeapTree") "own") := He.meth_ok (S.c.fact 105 (f := .meth "LeapTree" "own") rfl)
theorem mt_LeapTree_depth (S : Sit P w K mg base) : Meth K (He.ga K "LeapTree") "depth" (He.ma K (He.ga K "LeapTree") "depth") := He.meth_ok (S.c.fact 106 (f := .meth "LeapTree" "depth") rfl)
theorem mt_LeapTree_on (S : Sit P w K mg base) : Meth K (He.ga K "LeapTree") "on" (He.ma K (He.ga K "LeapTree") "on") := He.meth_ok (S.c.fact 107 (f := .meth "LeapTree" "on") rfl)
theorem mt_LeapTree_line (S : Sit P w K mg base) : Meth K (He.ga K "LeapTree") "line" (He.ma K (He.ga K "LeapTree") "line") := He.meth_ok (S.c.fact 108 (f := .meth "LeapTree" "line") rfl)
theorem mt_LeapTree_up (S : Sit P w K mg base) : Meth K (He.ga K "LeapTree") "up" (He.ma K (He.ga K "LeapTree") "up") := He.meth_ok (S.c.fact 109 (f := .meth "LeapTree" "up") rfl)
theorem mt_LeapTree_nearest (S : Sit P w K mg base) : Meth K (He.ga K "LeapTree") "nearest" (He.ma K (He.ga K "LeapTree") "nearest") := He.meth_ok (S.c.fact 110 (f := .meth "LeapTree" "nearest") rfl)
theorem mt_LeapTree_way (S : Sit P w K mg base) : Meth K (He.ga K "LeapTree") "way" (He.ma K (He.ga K "LeapTree") "way") := He.meth_ok (S.c.fact 111 (f := .meth "LeapTree" "way") rfl)
theorem mt_LeapTree_copied (S : Sit P w K mg base) : Meth K (He.ga K "LeapTree") "copied" (He.ma K (He.ga K "LeapTree") "copied") := He.meth_ok (S.c.fact 112 (f := .meth "LeapTree" "copied") rfl)
theorem mt_LeapTree_leaps (S : Sit P w K mg base) : Meth K (He.ga K "LeapTree") "leaps" (He.ma K (He.ga K "LeapTree") "leaps") := He.meth_ok (S.c.fact 113 (f := .meth "LeapTree" "leaps") rfl)
theorem mt_LeapTree_leap_way (S : Sit P w K mg base) : Meth K (He.ga K "LeapTree") "leap_way" (He.ma K (He.ga K "LeapTree") "leap_way") := He.meth_ok (S.c.fact 114 (f := .meth "LeapTree" "leap_way") rfl)
theorem cls_Copied (S : Sit P w K mg base) : Cls K (He.ga K "Copied") := He.cls_ok (S.c.fact 115 (f := .cls "Copied") rfl)
theorem mk_Copied (S : Sit P w K mg base) : Mk K (He.ga K "Copied") (He.ma K (He.ga K "Copied") "__init__") := He.mkr_ok (S.c.fact 116 (f := .mkr "Copied") rfl)
theorem na_Copied_halves (S : Sit P w K mg base) : NoAttr K (He.ga K "Copied") "halves" := He.noat_ok (S.c.fact 117 (f := .noat "Copied" "halves") rfl)
theorem na_Copied_roots (S : Sit P w K mg base) : NoAttr K (He.ga K "Copied") "roots" := He.noat_ok (S.c.fact 118 (f := .noat "Copied" "roots") rfl)
theorem na_Copied_extend (S : Sit P w K mg base) : NoAttr K (He.ga K "Copied") "extend" := He.noat_ok (S.c.fact 119 (f := .noat "Copied" "extend") rfl)
theorem na_Copied_wide (S : Sit P w K mg base) : NoAttr K (He.ga K "Copied") "wide" := He.noat_ok (S.c.fact 120 (f := .noat "Copied" "wide") rfl)
theorem na_Copied_grown (S : Sit P w K mg base) : NoAttr K (He.ga K "Copied") "grown" := He.noat_ok (S.c.fact 121 (f := .noat "Copied" "grown") rfl)
theorem na_Copied_wrote (S : Sit P w K mg base) : NoAttr K (He.ga K "Copied") "wrote" := He.noat_ok (S.c.fact 122 (f := .noat "Copied" "wrote") rfl)
theorem na_Copied_gone (S : Sit P w K mg base) : NoAttr K (He.ga K "Copied") "gone" := He.noat_ok (S.c.fact 123 (f := .noat "Copied" "gone") rfl)
theorem na_Copied_counted (S : Sit P w K mg base) : NoAttr K (He.ga K "Copied") "counted" := He.noat_ok (S.c.fact 124 (f := .noat "Copied" "counted") rfl)
theorem na_Copied_first (S : Sit P w K mg base) : NoAttr K (He.ga K "Copied") "first" := He.noat_ok (S.c.fact 125 (f := .noat "Copied" "first") rfl)
theorem mt_Copied___init__ (S : Sit P w K mg base) : Meth K (He.ga K "Copied") "__init__" (He.ma K (He.ga K "Copied") "__init__") := He.meth_ok (S.c.fact 126 (f := .meth "Copied" "__init__") rfl)
theorem mt_Copied_begin (S : Sit P w K mg base) : Meth K (He.ga K "Copied") "begin" (He.ma K (He.ga K "Copied") "begin") := He.meth_ok (S.c.fact 127 (f := .meth "Copied" "begin") rfl)
theorem mt_Copied_way (S : Sit P w K mg base) : Meth K (He.ga K "Copied") "way" (He.ma K (He.ga K "Copied") "way") := He.meth_ok (S.c.fact 128 (f := .meth "Copied" "way") rfl)
theorem mt_Copied_add_steps (S : Sit P w K mg base) : Meth K (He.ga K "Copied") "add_steps" (He.ma K (He.ga K "Copied") "add_steps") := He.meth_ok (S.c.fact 129 (f := .meth "Copied" "add_steps") rfl)
theorem mt_Copied_store (S : Sit P w K mg base) : Meth K (He.ga K "Copied") "store" (He.ma K (He.ga K "Copied") "store") := He.meth_ok (S.c.fact 130 (f := .meth "Copied" "store") rfl)
theorem mt_Copied_looked (S : Sit P w K mg base) : Meth K (He.ga K "Copied") "looked" (He.ma K (He.ga K "Copied") "looked") := He.meth_ok (S.c.fact 131 (f := .meth "Copied" "looked") rfl)
theorem mt_Copied_freed (S : Sit P w K mg base) : Meth K (He.ga K "Copied") "freed" (He.ma K (He.ga K "Copied") "freed") := He.meth_ok (S.c.fact 132 (f := .meth "Copied" "freed") rfl)
theorem mt_Copied_copied (S : Sit P w K mg base) : Meth K (He.ga K "Copied") "copied" (He.ma K (He.ga K "Copied") "copied") := He.meth_ok (S.c.fact 133 (f := .meth "Copied" "copied") rfl)
theorem mt_Copied_size (S : Sit P w K mg base) : Meth K (He.ga K "Copied") "size" (He.ma K (He.ga K "Copied") "size") := He.meth_ok (S.c.fact 134 (f := .meth "Copied" "size") rfl)
theorem mt_Copied_many (S : Sit P w K mg base) : Meth K (He.ga K "Copied") "many" (He.ma K (He.ga K "Copied") "many") := He.meth_ok (S.c.fact 135 (f := .meth "Copied" "many") rfl)
theorem mt_Copied_makes (S : Sit P w K mg base) : Meth K (He.ga K "Copied") "makes" (He.ma K (He.ga K "Copied") "makes") := He.meth_ok (S.c.fact 136 (f := .meth "Copied" "makes") rfl)
theorem mt_Copied_tree (S : Sit P w K mg base) : Meth K (He.ga K "Copied") "tree" (He.ma K (He.ga K "Copied") "tree") := He.meth_ok (S.c.fact 137 (f := .meth "Copied" "tree") rfl)
theorem mt_Copied_steps (S : Sit P w K mg base) : Meth K (He.ga K "Copied") "steps" (He.ma K (He.ga K "Copied") "steps") := He.meth_ok (S.c.fact 138 (f := .meth "Copied" "steps") rfl)
theorem mt_Copied_place_of (S : Sit P w K mg base) : Meth K (He.ga K "Copied") "place_of" (He.ma K (He.ga K "Copied") "place_of") := He.meth_ok (S.c.fact 139 (f := .meth "Copied" "place_of") rfl)
theorem mt_Copied_writer (S : Sit P w K mg base) : Meth K (He.ga K "Copied") "writer" (He.ma K (He.ga K "Copied") "writer") := He.meth_ok (S.c.fact 140 (f := .meth "Copied" "writer") rfl)
theorem mt_Copied_writer_of (S : Sit P w K mg base) : Meth K (He.ga K "Copied") "writer_of" (He.ma K (He.ga K "Copied") "writer_of") := He.meth_ok (S.c.fact 141 (f := .meth "Copied" "writer_of") rfl)
theorem mt_Copied_need_make (S : Sit P w K mg base) : Meth K (He.ga K "Copied") "need_make" (He.ma K (He.ga K "Copied") "need_make") := He.meth_ok (S.c.fact 142 (f := .meth "Copied" "need_make") rfl)
theorem mt_Copied_need_place (S : Sit P w K mg base) : Meth K (He.ga K "Copied") "need_place" (He.ma K (He.ga K "Copied") "need_place") := He.meth_ok (S.c.fact 143 (f := .meth "Copied" "need_place") rfl)
theorem mt_Copied_need_stretch (S : Sit P w K mg base) : Meth K (He.ga K "Copied") "need_stretch" (He.ma K (He.ga K "Copied") "need_stretch") := He.meth_ok (S.c.fact 144 (f := .meth "Copied" "need_stretch") rfl)
theorem mt_Copied_need_new (S : Sit P w K mg base) : Meth K (He.ga K "Copied") "need_new" (He.ma K (He.ga K "Copied") "need_new") := He.meth_ok (S.c.fact 145 (f := .meth "Copied" "need_new") rfl)
theorem mt_Copied_need_room (S : Sit P w K mg base) : Meth K (He.ga K "Copied") "need_room" (He.ma K (He.ga K "Copied") "need_room") := He.meth_ok (S.c.fact 146 (f := .meth "Copied" "need_room") rfl)
theorem mt_Copied_put (S : Sit P w K mg base) : Meth K (He.ga K "Copied") "put" (He.ma K (He.ga K "Copied") "put") := He.meth_ok (S.c.fact 147 (f := .meth "Copied" "put") rfl)
theorem mt_Copied_written (S : Sit P w K mg base) : Meth K (He.ga K "Copied") "written" (He.ma K (He.ga K "Copied") "written") := He.meth_ok (S.c.fact 148 (f := .meth "Copied" "written") rfl)
theorem mt_Copied_at (S : Sit P w K mg base) : Meth K (He.ga K "Copied") "at" (He.ma K (He.ga K "Copied") "at") := He.meth_ok (S.c.fact 149 (f := .meth "Copied" "at") rfl)
theorem mt_Copied_row (S : Sit P w K mg base) : Meth K (He.ga K "Copied") "row" (He.ma K (He.ga K "Copied") "row") := He.meth_ok (S.c.fact 150 (f := .meth "Copied" "row") rfl)
theorem mt_Copied_stretch (S : Sit P w K mg base) : Meth K (He.ga K "Copied") "stretch" (He.ma K (He.ga K "Copied") "stretch") := He.meth_ok (S.c.fact 151 (f := .meth "Copied" "stretch") rfl)
theorem mt_Copied_worths_in (S : Sit P w K mg base) : Meth K (He.ga K "Copied") "worths_in" (He.ma K (He.ga K "Copied") "worths_in") := He.meth_ok (S.c.fact 152 (f := .meth "Copied" "worths_in") rfl)
theorem mt_Copied_let_go (S : Sit P w K mg base) : Meth K (He.ga K "Copied") "let_go" (He.ma K (He.ga K "Copied") "let_go") := He.meth_ok (S.c.fact 153 (f := .meth "Copied" "let_go") rfl)
theorem mt_Copied_same_makes (S : Sit P w K mg base) : Meth K (He.ga K "Copied") "same_makes" (He.ma K (He.ga K "Copied") "same_makes") := He.meth_ok (S.c.fact 154 (f := .meth "Copied" "same_makes") rfl)
theorem mt_Copied_met (S : Sit P w K mg base) : Meth K (He.ga K "Copied") "met" (He.ma K (He.ga K "Copied") "met") := He.meth_ok (S.c.fact 155 (f := .meth "Copied" "met") rfl)
theorem mt_Copied_root (S : Sit P w K mg base) : Meth K (He.ga K "Copied") "root" (He.ma K (He.ga K "Copied") "root") := He.meth_ok (S.c.fact 156 (f := .meth "Copied" "root") rfl)
theorem mt_Copied_part (S : Sit P w K mg base) : Meth K (He.ga K "Copied") "part" (He.ma K (He.ga K "Copied") "part") := He.meth_ok (S.c.fact 157 (f := .meth "Copied" "part") rfl)
theorem ci_MOST_PLACES (S : Sit P w K mg base) : ∃ t, mg "MOST_PLACES" = some (.int 16 t) := let ⟨_, X, G⟩ := S.h; He.int_ok X G (S.c.fact 158 (f := .int "MOST_PLACES" 16) rfl)
theorem ci_MOST_MAKES (S : Sit P w K mg base) : ∃ t, mg "MOST_MAKES" = some (.int 64 t) := let ⟨_, X, G⟩ := S.h; He.int_ok X G (S.c.fact 159 (f := .int "MOST_MAKES" 64) rfl)
theorem ki_Parts_Rows (S : Sit P w K mg base) : kitOk K ("Parts", "Rows", false) = true := List.all_eq_true.mp S.k _ (List.mem_of_getElem? (i := 0) rfl)
theorem ki_LeapTree_Rows (S : Sit P w K mg base) : kitOk K ("LeapTree", "Rows", false) = true := List.all_eq_true.mp S.k _ (List.mem_of_getElem? (i := 1) rfl)
theorem ki_Copied_Rows (S : Sit P w K mg base) : kitOk K ("Copied", "Rows", true) = true := List.all_eq_true.mp S.k _ (List.mem_of_getElem? (i := 2) rfl)
theorem ki_Parts_Copied (S : Sit P w K mg base) : kitOk K ("Parts", "Copied", false) = true := List.all_eq_true.mp S.k _ (List.mem_of_getElem? (i := 3) rfl)
theorem ki_LeapTree_Copied (S : Sit P w K mg base) : kitOk K ("LeapTree", "Copied", false) = true := List.all_eq_true.mp S.k _ (List.mem_of_getElem? (i := 4) rfl)
theorem ki_Copied_Copied (S : Sit P w K mg base) : kitOk K ("Copied", "Copied", true) = true := List.all_eq_true.mp S.k _ (List.mem_of_getElem? (i := 5) rfl)
theorem cf__wall (S : Sit P w K mg base) {CX : CXT} {k : Nat} {sp : Sp} (h : ∀ (f : Addr) (fd : FuncData), FunD K "_wall" "_wall" (defArgs (top 0)) (defBody (top 0)) (defScope (top 0)) [] [] f fd → FnOk P w K mg base CX k f fd ["k"] sp) : CF P w K mg base CX "_wall" ["k"] k sp := by
  obtain ⟨fd, F⟩ := S.c.def_ 0 (d := d__wall) rfl
  exact ⟨_, fd, gl__wall S, F.kp, F.bindsN (ps := ["k"]) fun _ _ _ _ _ _ us hl => match us, hl with | [_], _ => by kernel_rfl, h _ fd F⟩
theorem cf_is_whole (S : Sit P w K mg base) {CX : CXT} {k : Nat} {sp : Sp} (h : ∀ (f : Addr) (fd : FuncData), FunD K "is_whole" "is_whole" (defArgs (top 15)) (defBody (top 15)) (defScope (top 15)) [] [] f fd → FnOk P w K mg base CX k f fd ["thing", "low", "high"] sp) : CF P w K mg base CX "is_whole" ["thing", "low", "high"] k sp := by
  obtain ⟨fd, F⟩ := S.c.def_ 1 (d := d_is_whole) rfl
  exact ⟨_, fd, gl_is_whole S, F.kp, F.bindsN (ps := ["thing", "low", "high"]) fun _ _ _ _ _ _ us hl => match us, hl with | [_, _, _], _ => by kernel_rfl, h _ fd F⟩
theorem cf_is_worth (S : Sit P w K mg base) {CX : CXT} {k : Nat} {sp : Sp} (h : ∀ (f : Addr) (fd : FuncData), FunD K "is_worth" "is_worth" (defArgs (top 16)) (defBody (top 16)) (defScope (top 16)) [] [] f fd → FnOk P w K mg base CX k f fd ["thing"] sp) : CF P w K mg base CX "is_worth" ["thing"] k sp := by
  obtain ⟨fd, F⟩ := S.c.def_ 2 (d := d_is_worth) rfl
  exact ⟨_, fd, gl_is_worth S, F.kp, F.bindsN (ps := ["thing"]) fun _ _ _ _ _ _ us hl => match us, hl with | [_], _ => by kernel_rfl, h _ fd F⟩
theorem cf_is_worths (S : Sit P w K mg base) {CX : CXT} {k : Nat} {sp : Sp} (h : ∀ (f : Addr) (fd : FuncData), FunD K "is_worths" "is_worths" (defArgs (top 17)) (defBody (top 17)) (defScope (top 17)) [] [] f fd → FnOk P w K mg base CX k f fd ["thing"] sp) : CF P w K mg base CX "is_worths" ["thing"] k sp := by
  obtain ⟨fd, F⟩ := S.c.def_ 3 (d := d_is_worths) rfl
  exact ⟨_, fd, gl_is_worths S, F.kp, F.bindsN (ps := ["thing"]) fun _ _ _ _ _ _ us hl => match us, hl with | [_], _ => by kernel_rfl, h _ fd F⟩
theorem cf_laid_down (S : Sit P w K mg base) {CX : CXT} {k : Nat} {sp : Sp} (h : ∀ (f : Addr) (fd : FuncData), FunD K "laid_down" "laid_down" (defArgs (top 20)) (defBody (top 20)) (defScope (top 20)) [] [] f fd → FnOk P w K mg base CX k f fd ["parts", "worths", "low", "high"] sp) : CF P w K mg base CX "laid_down" ["parts", "worths", "low", "high"] k sp := by
  obtain ⟨fd, F⟩ := S.c.def_ 4 (d := d_laid_down) rfl
  exact ⟨_, fd, gl_laid_down S, F.kp, F.bindsN (ps := ["parts", "worths", "low", "high"]) fun _ _ _ _ _ _ us hl => match us, hl with | [_, _, _, _], _ => by kernel_rfl, h _ fd F⟩
theorem cf_built (S : Sit P w K mg base) {CX : CXT} {k : Nat} {sp : Sp} (h : ∀ (f : Addr) (fd : FuncData), FunD K "built" "built" (defArgs (top 21)) (defBody (top 21)) (defScope (top 21)) [] [] f fd → FnOk P w K mg base CX k f fd ["parts", "worths"] sp) : CF P w K mg base CX "built" ["parts", "worths"] k sp := by
  obtain ⟨fd, F⟩ := S.c.def_ 5 (d := d_built) rfl
  exact ⟨_, fd, gl_built S, F.kp, F.bindsN (ps := ["parts", "worths"]) fun _ _ _ _ _ _ us hl => match us, hl with | [_, _], _ => by kernel_rfl, h _ fd F⟩
theorem cf_half_of (S : Sit P w K mg base) {CX : CXT} {k : Nat} {sp : Sp} (h : ∀ (f : Addr) (fd : FuncData), FunD K "half_of" "half_of" (defArgs (top 22)) (defBody (top 22)) (defScope (top 22)) [] [] f fd → FnOk P w K mg base CX k f fd ["told", "place"] sp) : CF P w K mg base CX "half_of" ["told", "place"] k sp := by
  obtain ⟨fd, F⟩ := S.c.def_ 6 (d := d_half_of) rfl
  exact ⟨_, fd, gl_half_of S, F.kp, F.bindsN (ps := ["told", "place"]) fun _ _ _ _ _ _ us hl => match us, hl with | [_, _], _ => by kernel_rfl, h _ fd F⟩
theorem cf_way_down (S : Sit P w K mg base) {CX : CXT} {k : Nat} {sp : Sp} (h : ∀ (f : Addr) (fd : FuncData), FunD K "way_down" "way_down" (defArgs (top 23)) (defBody (top 23)) (defScope (top 23)) [] [] f fd → FnOk P w K mg base CX k f fd ["parts", "root", "place"] sp) : CF P w K mg base CX "way_down" ["parts", "root", "place"] k sp := by
  obtain ⟨fd, F⟩ := S.c.def_ 7 (d := d_way_down) rfl
  exact ⟨_, fd, gl_way_down S, F.kp, F.bindsN (ps := ["parts", "root", "place"]) fun _ _ _ _ _ _ us hl => match us, hl with | [_, _, _], _ => by kernel_rfl, h _ fd F⟩
theorem cf_put_down (S : Sit P w K mg base) {CX : CXT} {k : Nat} {sp : Sp} (h : ∀ (f : Addr) (fd : FuncData), FunD K "put_down" "put_down" (defArgs (top 24)) (defBody (top 24)) (defScope (top 24)) [] [] f fd → FnOk P w K mg base CX k f fd ["parts", "root", "place", "worth"] sp) : CF P w K mg base CX "put_down" ["parts", "root", "place", "worth"] k sp := by
  obtain ⟨fd, F⟩ := S.c.def_ 8 (d := d_put_down) rfl
  exact ⟨_, fd, gl_put_down S, F.kp, F.bindsN (ps := ["parts", "root", "place", "worth"]) fun _ _ _ _ _ _ us hl => match us, hl with | [_, _, _, _], _ => by kernel_rfl, h _ fd F⟩
theorem cf_need_rows (S : Sit P w K mg base) {CX : CXT} {k : Nat} {sp : Sp} (h : ∀ (f : Addr) (fd : FuncData), FunD K "need_rows" "need_rows" (defArgs (top 35)) (defBody (top 35)) (defScope (top 35)) [] [] f fd → FnOk P w K mg base CX k f fd ["thing"] sp) : CF P w K mg base CX "need_rows" ["thing"] k sp := by
  obtain ⟨fd, F⟩ := S.c.def_ 9 (d := d_need_rows) rfl
  exact ⟨_, fd, gl_need_rows S, F.kp, F.bindsN (ps := ["thing"]) fun _ _ _ _ _ _ us hl => match us, hl with | [_], _ => by kernel_rfl, h _ fd F⟩
theorem cf_need_makes (S : Sit P w K mg base) {CX : CXT} {k : Nat} {sp : Sp} (h : ∀ (f : Addr) (fd : FuncData), FunD K "need_makes" "need_makes" (defArgs (top 36)) (defBody (top 36)) (defScope (top 36)) [] [] f fd → FnOk P w K mg base CX k f fd ["rows", "one", "other"] sp) : CF P w K mg base CX "need_makes" ["rows", "one", "other"] k sp := by
  obtain ⟨fd, F⟩ := S.c.def_ 10 (d := d_need_makes) rfl
  exact ⟨_, fd, gl_need_makes S, F.kp, F.bindsN (ps := ["rows", "one", "other"]) fun _ _ _ _ _ _ us hl => match us, hl with | [_, _, _], _ => by kernel_rfl, h _ fd F⟩
theorem cf_touched (S : Sit P w K mg base) {CX : CXT} {k : Nat} {sp : Sp} (h : ∀ (f : Addr) (fd : FuncData), FunD K "touched" "touched" (defArgs (top 37)) (defBody (top 37)) (defScope (top 37)) [] [] f fd → FnOk P w K mg base CX k f fd ["rows", "one", "other"] sp) : CF P w K mg base CX "touched" ["rows", "one", "other"] k sp := by
  obtain ⟨fd, F⟩ := S.c.def_ 11 (d := d_touched) rfl
  exact ⟨_, fd, gl_touched S, F.kp, F.bindsN (ps := ["rows", "one", "other"]) fun _ _ _ _ _ _ us hl => match us, hl with | [_, _, _], _ => by kernel_rfl, h _ fd F⟩
theorem cf_unlike_places (S : Sit P w K mg base) {CX : CXT} {k : Nat} {sp : Sp} (h : ∀ (f : Addr) (fd : FuncData), FunD K "unlike_places" "unlike_places" (defArgs (top 38)) (defBody (top 38)) (defScope (top 38)) [] [] f fd → FnOk P w K mg base CX k f fd ["rows", "one", "other"] sp) : CF P w K mg base CX "unlike_places" ["rows", "one", "other"] k sp := by
  obtain ⟨fd, F⟩ := S.c.def_ 12 (d := d_unlike_places) rfl
  exact ⟨_, fd, gl_unlike_places S, F.kp, F.bindsN (ps := ["rows", "one", "other"]) fun _ _ _ _ _ _ us hl => match us, hl with | [_, _, _], _ => by kernel_rfl, h _ fd F⟩
theorem cf_parted (S : Sit P w K mg base) {CX : CXT} {k : Nat} {sp : Sp} (h : ∀ (f : Addr) (fd : FuncData), FunD K "parted" "parted" (defArgs (top 39)) (defBody (top 39)) (defScope (top 39)) [] [] f fd → FnOk P w K mg base CX k f fd ["rows", "one", "other"] sp) : CF P w K mg base CX "parted" ["rows", "one", "other"] k sp := by
  obtain ⟨fd, F⟩ := S.c.def_ 13 (d := d_parted) rfl
  exact ⟨_, fd, gl_parted S, F.kp, F.bindsN (ps := ["rows", "one", "other"]) fun _ _ _ _ _ _ us hl => match us, hl with | [_, _, _], _ => by kernel_rfl, h _ fd F⟩
theorem cf_halves_pairs (S : Sit P w K mg base) {CX : CXT} {k : Nat} {sp : Sp} (h : ∀ (f : Addr) (fd : FuncData), FunD K "halves_pairs" "halves_pairs" (defArgs (top 40)) (defBody (top 40)) (defScope (top 40)) [] [] f fd → FnOk P w K mg base CX k f fd ["one", "other"] sp) : CF P w K mg base CX "halves_pairs" ["one", "other"] k sp := by
  obtain ⟨fd, F⟩ := S.c.def_ 14 (d := d_halves_pairs) rfl
  exact ⟨_, fd, gl_halves_pairs S, F.kp, F.bindsN (ps := ["one", "other"]) fun _ _ _ _ _ _ us hl => match us, hl with | [_, _], _ => by kernel_rfl, h _ fd F⟩
theorem cf_parted_by_parts (S : Sit P w K mg base) {CX : CXT} {k : Nat} {sp : Sp} (h : ∀ (f : Addr) (fd : FuncData), FunD K "parted_by_parts" "parted_by_parts" (defArgs (top 41)) (defBody (top 41)) (defScope (top 41)) [] [] f fd → FnOk P w K mg base CX k f fd ["rows", "one", "other"] sp) : CF P w K mg base CX "parted_by_parts" ["rows", "one", "other"] k sp := by
  obtain ⟨fd, F⟩ := S.c.def_ 15 (d := d_parted_by_parts) rfl
  exact ⟨_, fd, gl_parted_by_parts S, F.kp, F.bindsN (ps := ["rows", "one", "other"]) fun _ _ _ _ _ _ us hl => match us, hl with | [_, _, _], _ => by kernel_rfl, h _ fd F⟩
theorem cf__law_cell (S : Sit P w K mg base) {CX : CXT} {k : Nat} {sp : Sp} (h : ∀ (f : Addr) (fd : FuncData), FunD K "_law_cell" "_law_cell" (defArgs (top 43)) (defBody (top 43)) (defScope (top 43)) [] [] f fd → FnOk P w K mg base CX k f fd ["_law_script", "_law_k"] sp) : CF P w K mg base CX "_law_cell" ["_law_script", "_law_k"] k sp := by
  obtain ⟨fd, F⟩ := S.c.def_ 16 (d := d__law_cell) rfl
  exact ⟨_, fd, gl__law_cell S, F.kp, F.bindsN (ps := ["_law_script", "_law_k"]) fun _ _ _ _ _ _ us hl => match us, hl with | [_, _], _ => by kernel_rfl, h _ fd F⟩
theorem cf__law_box (S : Sit P w K mg base) {CX : CXT} {k : Nat} {sp : Sp} (h : ∀ (f : Addr) (fd : FuncData), FunD K "_law_box" "_law_box" (defArgs (top 44)) (defBody (top 44)) (defScope (top 44)) [] [] f fd → FnOk P w K mg base CX k f fd ["_law_cell_here"] sp) : CF P w K mg base CX "_law_box" ["_law_cell_here"] k sp := by
  obtain ⟨fd, F⟩ := S.c.def_ 17 (d := d__law_box) rfl
  exact ⟨_, fd, gl__law_box S, F.kp, F.bindsN (ps := ["_law_cell_here"]) fun _ _ _ _ _ _ us hl => match us, hl with | [_], _ => by kernel_rfl, h _ fd F⟩
theorem cf__law_take (S : Sit P w K mg base) {CX : CXT} {k : Nat} {sp : Sp} (h : ∀ (f : Addr) (fd : FuncData), FunD K "_law_take" "_law_take" (defArgs (top 45)) (defBody (top 45)) (defScope (top 45)) [] [] f fd → FnOk P w K mg base CX k f fd ["_law_box_here", "_law_many"] sp) : CF P w K mg base CX "_law_take" ["_law_box_here", "_law_many"] k sp := by
  obtain ⟨fd, F⟩ := S.c.def_ 18 (d := d__law_take) rfl
  exact ⟨_, fd, gl__law_take S, F.kp, F.bindsN (ps := ["_law_box_here", "_law_many"]) fun _ _ _ _ _ _ us hl => match us, hl with | [_, _], _ => by kernel_rfl, h _ fd F⟩
theorem cf__law_worth (S : Sit P w K mg base) {CX : CXT} {k : Nat} {sp : Sp} (h : ∀ (f : Addr) (fd : FuncData), FunD K "_law_worth" "_law_worth" (defArgs (top 46)) (defBody (top 46)) (defScope (top 46)) [] [] f fd → FnOk P w K mg base CX k f fd ["_law_box_here"] sp) : CF P w K mg base CX "_law_worth" ["_law_box_here"] k sp := by
  obtain ⟨fd, F⟩ := S.c.def_ 19 (d := d__law_worth) rfl
  exact ⟨_, fd, gl__law_worth S, F.kp, F.bindsN (ps := ["_law_box_here"]) fun _ _ _ _ _ _ us hl => match us, hl with | [_], _ => by kernel_rfl, h _ fd F⟩
theorem cf__law_worths (S : Sit P w K mg base) {CX : CXT} {k : Nat} {sp : Sp} (h : ∀ (f : Addr) (fd : FuncData), FunD K "_law_worths" "_law_worths" (defArgs (top 47)) (defBody (top 47)) (defScope (top 47)) [] [] f fd → FnOk P w K mg base CX k f fd ["_law_box_here"] sp) : CF P w K mg base CX "_law_worths" ["_law_box_here"] k sp := by
  obtain ⟨fd, F⟩ := S.c.def_ 20 (d := d__law_worths) rfl
  exact ⟨_, fd, gl__law_worths S, F.kp, F.bindsN (ps := ["_law_box_here"]) fun _ _ _ _ _ _ us hl => match us, hl with | [_], _ => by kernel_rfl, h _ fd F⟩
theorem cf__law_model (S : Sit P w K mg base) {CX : CXT} {k : Nat} {sp : Sp} (h : ∀ (f : Addr) (fd : FuncData), FunD K "_law_model" "_law_model" (defArgs (top 48)) (defBody (top 48)) (defScope (top 48)) [] [] f fd → FnOk P w K mg base CX k f fd ["_law_worths_here"] sp) : CF P w K mg base CX "_law_model" ["_law_worths_here"] k sp := by
  obtain ⟨fd, F⟩ := S.c.def_ 21 (d := d__law_model) rfl
  exact ⟨_, fd, gl__law_model S, F.kp, F.bindsN (ps := ["_law_worths_here"]) fun _ _ _ _ _ _ us hl => match us, hl with | [_], _ => by kernel_rfl, h _ fd F⟩
theorem cf__law_writer (S : Sit P w K mg base) {CX : CXT} {k : Nat} {sp : Sp} (h : ∀ (f : Addr) (fd : FuncData), FunD K "_law_writer" "_law_writer" (defArgs (top 49)) (defBody (top 49)) (defScope (top 49)) [] [] f fd → FnOk P w K mg base CX k f fd ["_law_model_here", "_law_make", "_law_place"] sp) : CF P w K mg base CX "_law_writer" ["_law_model_here", "_law_make", "_law_place"] k sp := by
  obtain ⟨fd, F⟩ := S.c.def_ 22 (d := d__law_writer) rfl
  exact ⟨_, fd, gl__law_writer S, F.kp, F.bindsN (ps := ["_law_model_here", "_law_make", "_law_place"]) fun _ _ _ _ _ _ us hl => match us, hl with | [_, _, _], _ => by kernel_rfl, h _ fd F⟩
theorem cf__law_value (S : Sit P w K mg base) {CX : CXT} {k : Nat} {sp : Sp} (h : ∀ (f : Addr) (fd : FuncData), FunD K "_law_value" "_law_value" (defArgs (top 50)) (defBody (top 50)) (defScope (top 50)) [] [] f fd → FnOk P w K mg base CX k f fd ["_law_model_here", "_law_make", "_law_place"] sp) : CF P w K mg base CX "_law_value" ["_law_model_here", "_law_make", "_law_place"] k sp := by
  obtain ⟨fd, F⟩ := S.c.def_ 23 (d := d__law_value) rfl
  exact ⟨_, fd, gl__law_value S, F.kp, F.bindsN (ps := ["_law_model_here", "_law_make", "_law_place"]) fun _ _ _ _ _ _ us hl => match us, hl with | [_, _, _], _ => by kernel_rfl, h _ fd F⟩
theorem cf__law_line_of (S : Sit P w K mg base) {CX : CXT} {k : Nat} {sp : Sp} (h : ∀ (f : Addr) (fd : FuncData), FunD K "_law_line_of" "_law_line_of" (defArgs (top 51)) (defBody (top 51)) (defScope (top 51)) [] [] f fd → FnOk P w K mg base CX k f fd ["_law_model_here", "_law_make"] sp) : CF P w K mg base CX "_law_line_of" ["_law_model_here", "_law_make"] k sp := by
  obtain ⟨fd, F⟩ := S.c.def_ 24 (d := d__law_line_of) rfl
  exact ⟨_, fd, gl__law_line_of S, F.kp, F.bindsN (ps := ["_law_model_here", "_law_make"]) fun _ _ _ _ _ _ us hl => match us, hl with | [_, _], _ => by kernel_rfl, h _ fd F⟩
theorem cf__law_kept (S : Sit P w K mg base) {CX : CXT} {k : Nat} {sp : Sp} (h : ∀ (f : Addr) (fd : FuncData), FunD K "_law_kept" "_law_kept" (defArgs (top 52)) (defBody (top 52)) (defScope (top 52)) [] [] f fd → FnOk P w K mg base CX k f fd ["_law_model_here"] sp) : CF P w K mg base CX "_law_kept" ["_law_model_here"] k sp := by
  obtain ⟨fd, F⟩ := S.c.def_ 25 (d := d__law_kept) rfl
  exact ⟨_, fd, gl__law_kept S, F.kp, F.bindsN (ps := ["_law_model_here"]) fun _ _ _ _ _ _ us hl => match us, hl with | [_], _ => by kernel_rfl, h _ fd F⟩
theorem cf__law_picked (S : Sit P w K mg base) {CX : CXT} {k : Nat} {sp : Sp} (h : ∀ (f : Addr) (fd : FuncData), FunD K "_law_picked" "_law_picked" (defArgs (top 53)) (defBody (top 53)) (defScope (top 53)) [] [] f fd → FnOk P w K mg base CX k f fd ["_law_box_here", "_law_model_here"] sp) : CF P w K mg base CX "_law_picked" ["_law_box_here", "_law_model_here"] k sp := by
  obtain ⟨fd, F⟩ := S.c.def_ 26 (d := d__law_picked) rfl
  exact ⟨_, fd, gl__law_picked S, F.kp, F.bindsN (ps := ["_law_box_here", "_law_model_here"]) fun _ _ _ _ _ _ us hl => match us, hl with | [_, _], _ => by kernel_rfl, h _ fd F⟩
theorem cf__law_grown (S : Sit P w K mg base) {CX : CXT} {k : Nat} {sp : Sp} (h : ∀ (f : Addr) (fd : FuncData), FunD K "_law_grown" "_law_grown" (defArgs (top 54)) (defBody (top 54)) (defScope (top 54)) [] [] f fd → FnOk P w K mg base CX k f fd ["_law_model_here", "_law_make", "_law_place", "_law_worth_here"] sp) : CF P w K mg base CX "_law_grown" ["_law_model_here", "_law_make", "_law_place", "_law_worth_here"] k sp := by
  obtain ⟨fd, F⟩ := S.c.def_ 27 (d := d__law_grown) rfl
  exact ⟨_, fd, gl__law_grown S, F.kp, F.bindsN (ps := ["_law_model_here", "_law_make", "_law_place", "_law_worth_here"]) fun _ _ _ _ _ _ us hl => match us, hl with | [_, _, _, _], _ => by kernel_rfl, h _ fd F⟩
theorem cf__law_line (S : Sit P w K mg base) {CX : CXT} {k : Nat} {sp : Sp} (h : ∀ (f : Addr) (fd : FuncData), FunD K "_law_line" "_law_line" (defArgs (top 55)) (defBody (top 55)) (defScope (top 55)) [] [] f fd → FnOk P w K mg base CX k f fd ["_law_model_here", "_law_make"] sp) : CF P w K mg base CX "_law_line" ["_law_model_here", "_law_make"] k sp := by
  obtain ⟨fd, F⟩ := S.c.def_ 28 (d := d__law_line) rfl
  exact ⟨_, fd, gl__law_line S, F.kp, F.bindsN (ps := ["_law_model_here", "_law_make"]) fun _ _ _ _ _ _ us hl => match us, hl with | [_, _], _ => by kernel_rfl, h _ fd F⟩
theorem cf__law_path (S : Sit P w K mg base) {CX : CXT} {k : Nat} {sp : Sp} (h : ∀ (f : Addr) (fd : FuncData), FunD K "_law_path" "_law_path" (defArgs (top 56)) (defBody (top 56)) (defScope (top 56)) [] [] f fd → FnOk P w K mg base CX k f fd ["_law_model_here", "_law_one", "_law_other"] sp) : CF P w K mg base CX "_law_path" ["_law_model_here", "_law_one", "_law_other"] k sp := by
  obtain ⟨fd, F⟩ := S.c.def_ 29 (d := d__law_path) rfl
  exact ⟨_, fd, gl__law_path S, F.kp, F.bindsN (ps := ["_law_model_here", "_law_one", "_law_other"]) fun _ _ _ _ _ _ us hl => match us, hl with | [_, _, _], _ => by kernel_rfl, h _ fd F⟩
theorem cf__law_drawn (S : Sit P w K mg base) {CX : CXT} {k : Nat} {sp : Sp} (h : ∀ (f : Addr) (fd : FuncData), FunD K "_law_drawn" "_law_drawn" (defArgs (top 57)) (defBody (top 57)) (defScope (top 57)) [] [] f fd → FnOk P w K mg base CX k f fd ["_law_box_here", "_law_model_here"] sp) : CF P w K mg base CX "_law_drawn" ["_law_box_here", "_law_model_here"] k sp := by
  obtain ⟨fd, F⟩ := S.c.def_ 30 (d := d__law_drawn) rfl
  exact ⟨_, fd, gl__law_drawn S, F.kp, F.bindsN (ps := ["_law_box_here", "_law_model_here"]) fun _ _ _ _ _ _ us hl => match us, hl with | [_, _], _ => by kernel_rfl, h _ fd F⟩
theorem cf__law_gone (S : Sit P w K mg base) {CX : CXT} {k : Nat} {sp : Sp} (h : ∀ (f : Addr) (fd : FuncData), FunD K "_law_gone" "_law_gone" (defArgs (top 58)) (defBody (top 58)) (defScope (top 58)) [] [] f fd → FnOk P w K mg base CX k f fd ["_law_box_here", "_law_rows", "_law_model_here"] sp) : CF P w K mg base CX "_law_gone" ["_law_box_here", "_law_rows", "_law_model_here"] k sp := by
  obtain ⟨fd, F⟩ := S.c.def_ 31 (d := d__law_gone) rfl
  exact ⟨_, fd, gl__law_gone S, F.kp, F.bindsN (ps := ["_law_box_here", "_law_rows", "_law_model_here"]) fun _ _ _ _ _ _ us hl => match us, hl with | [_, _, _], _ => by kernel_rfl, h _ fd F⟩
theorem cf__law_put (S : Sit P w K mg base) {CX : CXT} {k : Nat} {sp : Sp} (h : ∀ (f : Addr) (fd : FuncData), FunD K "_law_put" "_law_put" (defArgs (top 59)) (defBody (top 59)) (defScope (top 59)) [] [] f fd → FnOk P w K mg base CX k f fd ["_law_box_here", "_law_rows", "_law_model_here"] sp) : CF P w K mg base CX "_law_put" ["_law_box_here", "_law_rows", "_law_model_here"] k sp := by
  obtain ⟨fd, F⟩ := S.c.def_ 32 (d := d__law_put) rfl
  exact ⟨_, fd, gl__law_put S, F.kp, F.bindsN (ps := ["_law_box_here", "_law_rows", "_law_model_here"]) fun _ _ _ _ _ _ us hl => match us, hl with | [_, _, _], _ => by kernel_rfl, h _ fd F⟩
theorem cf__law_nearest (S : Sit P w K mg base) {CX : CXT} {k : Nat} {sp : Sp} (h : ∀ (f : Addr) (fd : FuncData), FunD K "_law_nearest" "_law_nearest" (defArgs (top 60)) (defBody (top 60)) (defScope (top 60)) [] [] f fd → FnOk P w K mg base CX k f fd ["_law_model_here", "_law_one", "_law_other"] sp) : CF P w K mg base CX "_law_nearest" ["_law_model_here", "_law_one", "_law_other"] k sp := by
  obtain ⟨fd, F⟩ := S.c.def_ 33 (d := d__law_nearest) rfl
  exact ⟨_, fd, gl__law_nearest S, F.kp, F.bindsN (ps := ["_law_model_here", "_law_one", "_law_other"]) fun _ _ _ _ _ _ us hl => match us, hl with | [_, _, _], _ => by kernel_rfl, h _ fd F⟩
theorem cf__law_due (S : Sit P w K mg base) {CX : CXT} {k : Nat} {sp : Sp} (h : ∀ (f : Addr) (fd : FuncData), FunD K "_law_due" "_law_due" (defArgs (top 61)) (defBody (top 61)) (defScope (top 61)) [] [] f fd → FnOk P w K mg base CX k f fd ["_law_model_here", "_law_one", "_law_other"] sp) : CF P w K mg base CX "_law_due" ["_law_model_here", "_law_one", "_law_other"] k sp := by
  obtain ⟨fd, F⟩ := S.c.def_ 34 (d := d__law_due) rfl
  exact ⟨_, fd, gl__law_due S, F.kp, F.bindsN (ps := ["_law_model_here", "_law_one", "_law_other"]) fun _ _ _ _ _ _ us hl => match us, hl with | [_, _, _], _ => by kernel_rfl, h _ fd F⟩
theorem cf__law_last (S : Sit P w K mg base) {CX : CXT} {k : Nat} {sp : Sp} (h : ∀ (f : Addr) (fd : FuncData), FunD K "_law_last" "_law_last" (defArgs (top 62)) (defBody (top 62)) (defScope (top 62)) [] [] f fd → FnOk P w K mg base CX k f fd ["_law_model_here", "_law_make", "_law_low", "_law_high"] sp) : CF P w K mg base CX "_law_last" ["_law_model_here", "_law_make", "_law_low", "_law_high"] k sp := by
  obtain ⟨fd, F⟩ := S.c.def_ 35 (d := d__law_last) rfl
  exact ⟨_, fd, gl__law_last S, F.kp, F.bindsN (ps := ["_law_model_here", "_law_make", "_law_low", "_law_high"]) fun _ _ _ _ _ _ us hl => match us, hl with | [_, _, _, _], _ => by kernel_rfl, h _ fd F⟩
theorem cf__law_pairs (S : Sit P w K mg base) {CX : CXT} {k : Nat} {sp : Sp} (h : ∀ (f : Addr) (fd : FuncData), FunD K "_law_pairs" "_law_pairs" (defArgs (top 63)) (defBody (top 63)) (defScope (top 63)) [] [] f fd → FnOk P w K mg base CX k f fd ["_law_model_here", "_law_one", "_law_other", "_law_low", "_law_high"] sp) : CF P w K mg base CX "_law_pairs" ["_law_model_here", "_law_one", "_law_other", "_law_low", "_law_high"] k sp := by
  obtain ⟨fd, F⟩ := S.c.def_ 36 (d := d__law_pairs) rfl
  exact ⟨_, fd, gl__law_pairs S, F.kp, F.bindsN (ps := ["_law_model_here", "_law_one", "_law_other", "_law_low", "_law_high"]) fun _ _ _ _ _ _ us hl => match us, hl with | [_, _, _, _, _], _ => by kernel_rfl, h _ fd F⟩
theorem cf__law_right (S : Sit P w K mg base) {CX : CXT} {k : Nat} {sp : Sp} (h : ∀ (f : Addr) (fd : FuncData), FunD K "_law_right" "_law_right" (defArgs (top 64)) (defBody (top 64)) (defScope (top 64)) [] [] f fd → FnOk P w K mg base CX k f fd ["_law_rows", "_law_model_here", "_law_one", "_law_other"] sp) : CF P w K mg base CX "_law_right" ["_law_rows", "_law_model_here", "_law_one", "_law_other"] k sp := by
  obtain ⟨fd, F⟩ := S.c.def_ 37 (d := d__law_right) rfl
  exact ⟨_, fd, gl__law_right S, F.kp, F.bindsN (ps := ["_law_rows", "_law_model_here", "_law_one", "_law_other"]) fun _ _ _ _ _ _ us hl => match us, hl with | [_, _, _, _], _ => by kernel_rfl, h _ fd F⟩
theorem cg__law_right (S : Sit P w K mg base) {CX : CXT} {k : Nat} {sp : Sp} (h : ∀ (f : Addr) (fd : FuncData), FunD K "_law_right" "_law_right" (defArgs (top 64)) (defBody (top 64)) (defScope (top 64)) [] [] f fd → FnG P w K mg base CX k f fd ["_law_rows", "_law_model_here", "_law_one", "_law_other"] sp) : CG P w K mg base CX "_law_right" ["_law_rows", "_law_model_here", "_law_one", "_law_other"] k sp := by
  obtain ⟨fd, F⟩ := S.c.def_ 37 (d := d__law_right) rfl
  exact ⟨_, fd, gl__law_right S, F.kp, F.bindsN (ps := ["_law_rows", "_law_model_here", "_law_one", "_law_other"]) fun _ _ _ _ _ _ us hl => match us, hl with | [_, _, _, _], _ => by kernel_rfl, h _ fd F⟩
theorem cf_law (S : Sit P w K mg base) {CX : CXT} {k : Nat} {sp : Sp} (h : ∀ (f : Addr) (fd : FuncData), FunD K "law" "law" (defArgs (top 65)) (defBody (top 65)) (defScope (top 65)) [] [] f fd → FnOk P w K mg base CX k f fd ["_law_script"] sp) : CF P w K mg base CX "law" ["_law_script"] k sp := by
  obtain ⟨fd, F⟩ := S.c.def_ 38 (d := d_law) rfl
  exact ⟨_, fd, gl_law S, F.kp, F.bindsN (ps := ["_law_script"]) fun _ _ _ _ _ _ us hl => match us, hl with | [_], _ => by kernel_rfl, h _ fd F⟩
theorem cg_law (S : Sit P w K mg base) {CX : CXT} {k : Nat} {sp : Sp} (h : ∀ (f : Addr) (fd : FuncData), FunD K "law" "law" (defArgs (top 65)) (defBody (top 65)) (defScope (top 65)) [] [] f fd → FnG P w K mg base CX k f fd ["_law_script"] sp) : CG P w K mg base CX "law" ["_law_script"] k sp := by
  obtain ⟨fd, F⟩ := S.c.def_ 38 (d := d_law) rfl
  exact ⟨_, fd, gl_law S, F.kp, F.bindsN (ps := ["_law_script"]) fun _ _ _ _ _ _ us hl => match us, hl with | [_], _ => by kernel_rfl, h _ fd F⟩
theorem kf_Parts (S : Sit P w K mg base) {CX : CXT} {k : Nat} {sp : Sp} (h : ∀ (f : Addr) (fd : FuncData), FunD K "__init__" "Parts.__init__" (defArgs (inClass (top 19) 0)) (defBody (inClass (top 19) 0)) (defScope (inClass (top 19) 0)) [] [] f fd → FnOk P w K mg base CX k f fd ["self"] sp) : KF P w K mg base CX "Parts" (He.ga K "Parts") ["self"] k sp := by
  obtain ⟨fd, F⟩ := S.c.def_ 39 (d := d_Parts____init__) rfl
  exact ⟨gl_Parts S, _, fd, mk_Parts S, F.bindsN (ps := ["self"]) fun _ _ _ _ _ _ us hl => match us, hl with | [_], _ => by kernel_rfl, h _ fd F⟩
theorem mf_Parts_need_part (S : Sit P w K mg base) {CX : CXT} {k : Nat} {sp : Sp} (h : ∀ (f : Addr) (fd : FuncData), FunD K "need_part" "Parts.need_part" (defArgs (inClass (top 19) 1)) (defBody (inClass (top 19) 1)) (defScope (inClass (top 19) 1)) [] [] f fd → FnOk P w K mg base CX k f fd ["self", "number"] sp) : MF P w K mg base CX (He.ga K "Parts") "need_part" ["self", "number"] k sp := by
  obtain ⟨fd, F⟩ := S.c.def_ 40 (d := d_Parts__need_part) rfl
  exact ⟨cls_Parts S, _, fd, mt_Parts_need_part S, F.bindsN (ps := ["self", "number"]) fun _ _ _ _ _ _ us hl => match us, hl with | [_, _], _ => by kernel_rfl, h _ fd F⟩
theorem mf_Parts_need_half (S : Sit P w K mg base) {CX : CXT} {k : Nat} {sp : Sp} (h : ∀ (f : Addr) (fd : FuncData), FunD K "need_half" "Parts.need_half" (defArgs (inClass (top 19) 2)) (defBody (inClass (top 19) 2)) (defScope (inClass (top 19) 2)) [] [] f fd → FnOk P w K mg base CX k f fd ["self", "number", "low", "high"] sp) : MF P w K mg base CX (He.ga K "Parts") "need_half" ["self", "number", "low", "high"] k sp := by
  obtain ⟨fd, F⟩ := S.c.def_ 41 (d := d_Parts__need_half) rfl
  exact ⟨cls_Parts S, _, fd, mt_Parts_need_half S, F.bindsN (ps := ["self", "number", "low", "high"]) fun _ _ _ _ _ _ us hl => match us, hl with | [_, _, _, _], _ => by kernel_rfl, h _ fd F⟩
theorem mf_Parts_ends (S : Sit P w K mg base) {CX : CXT} {k : Nat} {sp : Sp} (h : ∀ (f : Addr) (fd : FuncData), FunD K "ends" "Parts.ends" (defArgs (inClass (top 19) 3)) (defBody (inClass (top 19) 3)) (defScope (inClass (top 19) 3)) [] [] f fd → FnOk P w K mg base CX k f fd ["self", "number"] sp) : MF P w K mg base CX (He.ga K "Parts") "ends" ["self", "number"] k sp := by
  obtain ⟨fd, F⟩ := S.c.def_ 42 (d := d_Parts__ends) rfl
  exact ⟨cls_Parts S, _, fd, mt_Parts_ends S, F.bindsN (ps := ["self", "number"]) fun _ _ _ _ _ _ us hl => match us, hl with | [_, _], _ => by kernel_rfl, h _ fd F⟩
theorem mf_Parts_lay (S : Sit P w K mg base) {CX : CXT} {k : Nat} {sp : Sp} (h : ∀ (f : Addr) (fd : FuncData), FunD K "lay" "Parts.lay" (defArgs (inClass (top 19) 4)) (defBody (inClass (top 19) 4)) (defScope (inClass (top 19) 4)) [] [] f fd → FnOk P w K mg base CX k f fd ["self", "told"] sp) : MF P w K mg base CX (He.ga K "Parts") "lay" ["self", "told"] k sp := by
  obtain ⟨fd, F⟩ := S.c.def_ 43 (d := d_Parts__lay) rfl
  exact ⟨cls_Parts S, _, fd, mt_Parts_lay S, F.bindsN (ps := ["self", "told"]) fun _ _ _ _ _ _ us hl => match us, hl with | [_, _], _ => by kernel_rfl, h _ fd F⟩
theorem mf_Parts_leaf (S : Sit P w K mg base) {CX : CXT} {k : Nat} {sp : Sp} (h : ∀ (f : Addr) (fd : FuncData), FunD K "leaf" "Parts.leaf" (defArgs (inClass (top 19) 5)) (defBody (inClass (top 19) 5)) (defScope (inClass (top 19) 5)) [] [] f fd → FnOk P w K mg base CX k f fd ["self", "place", "worth"] sp) : MF P w K mg base CX (He.ga K "Parts") "leaf" ["self", "place", "worth"] k sp := by
  obtain ⟨fd, F⟩ := S.c.def_ 44 (d := d_Parts__leaf) rfl
  exact ⟨cls_Parts S, _, fd, mt_Parts_leaf S, F.bindsN (ps := ["self", "place", "worth"]) fun _ _ _ _ _ _ us hl => match us, hl with | [_, _, _], _ => by kernel_rfl, h _ fd F⟩
theorem mf_Parts_fork (S : Sit P w K mg base) {CX : CXT} {k : Nat} {sp : Sp} (h : ∀ (f : Addr) (fd : FuncData), FunD K "fork" "Parts.fork" (defArgs (inClass (top 19) 6)) (defBody (inClass (top 19) 6)) (defScope (inClass (top 19) 6)) [] [] f fd → FnOk P w K mg base CX k f fd ["self", "low", "high", "left", "right"] sp) : MF P w K mg base CX (He.ga K "Parts") "fork" ["self", "low", "high", "left", "right"] k sp := by
  obtain ⟨fd, F⟩ := S.c.def_ 45 (d := d_Parts__fork) rfl
  exact ⟨cls_Parts S, _, fd, mt_Parts_fork S, F.bindsN (ps := ["self", "low", "high", "left", "right"]) fun _ _ _ _ _ _ us hl => match us, hl with | [_, _, _, _, _], _ => by kernel_rfl, h _ fd F⟩
theorem mf_Parts_part (S : Sit P w K mg base) {CX : CXT} {k : Nat} {sp : Sp} (h : ∀ (f : Addr) (fd : FuncData), FunD K "part" "Parts.part" (defArgs (inClass (top 19) 7)) (defBody (inClass (top 19) 7)) (defScope (inClass (top 19) 7)) [] [] f fd → FnOk P w K mg base CX k f fd ["self", "number"] sp) : MF P w K mg base CX (He.ga K "Parts") "part" ["self", "number"] k sp := by
  obtain ⟨fd, F⟩ := S.c.def_ 46 (d := d_Parts__part) rfl
  exact ⟨cls_Parts S, _, fd, mt_Parts_part S, F.bindsN (ps := ["self", "number"]) fun _ _ _ _ _ _ us hl => match us, hl with | [_, _], _ => by kernel_rfl, h _ fd F⟩
theorem mf_Parts_many (S : Sit P w K mg base) {CX : CXT} {k : Nat} {sp : Sp} (h : ∀ (f : Addr) (fd : FuncData), FunD K "many" "Parts.many" (defArgs (inClass (top 19) 8)) (defBody (inClass (top 19) 8)) (defScope (inClass (top 19) 8)) [] [] f fd → FnOk P w K mg base CX k f fd ["self"] sp) : MF P w K mg base CX (He.ga K "Parts") "many" ["self"] k sp := by
  obtain ⟨fd, F⟩ := S.c.def_ 47 (d := d_Parts__many) rfl
  exact ⟨cls_Parts S, _, fd, mt_Parts_many S, F.bindsN (ps := ["self"]) fun _ _ _ _ _ _ us hl => match us, hl with | [_], _ => by kernel_rfl, h _ fd F⟩
theorem mf_Parts_numbers (S : Sit P w K mg base) {CX : CXT} {k : Nat} {sp : Sp} (h : ∀ (f : Addr) (fd : FuncData), FunD K "numbers" "Parts.numbers" (defArgs (inClass (top 19) 9)) (defBody (inClass (top 19) 9)) (defScope (inClass (top 19) 9)) [] [] f fd → FnOk P w K mg base CX k f fd ["self"] sp) : MF P w K mg base CX (He.ga K "Parts") "numbers" ["self"] k sp := by
  obtain ⟨fd, F⟩ := S.c.def_ 48 (d := d_Parts__numbers) rfl
  exact ⟨cls_Parts S, _, fd, mt_Parts_numbers S, F.bindsN (ps := ["self"]) fun _ _ _ _ _ _ us hl => match us, hl with | [_], _ => by kernel_rfl, h _ fd F⟩
theorem mf_Parts_hold (S : Sit P w K mg base) {CX : CXT} {k : Nat} {sp : Sp} (h : ∀ (f : Addr) (fd : FuncData), FunD K "hold" "Parts.hold" (defArgs (inClass (top 19) 11)) (defBody (inClass (top 19) 11)) (defScope (inClass (top 19) 11)) [] [] f fd → FnOk P w K mg base CX k f fd ["self", "number"] sp) : MF P w K mg base CX (He.ga K "Parts") "hold" ["self", "number"] k sp := by
  obtain ⟨fd, F⟩ := S.c.def_ 49 (d := d_Parts__hold) rfl
  exact ⟨cls_Parts S, _, fd, mt_Parts_hold S, F.bindsN (ps := ["self", "number"]) fun _ _ _ _ _ _ us hl => match us, hl with | [_, _], _ => by kernel_rfl, h _ fd F⟩
theorem mf_Parts_release (S : Sit P w K mg base) {CX : CXT} {k : Nat} {sp : Sp} (h : ∀ (f : Addr) (fd : FuncData), FunD K "release" "Parts.release" (defArgs (inClass (top 19) 12)) (defBody (inClass (top 19) 12)) (defScope (inClass (top 19) 12)) [] [] f fd → FnOk P w K mg base CX k f fd ["self", "number"] sp) : MF P w K mg base CX (He.ga K "Parts") "release" ["self", "number"] k sp := by
  obtain ⟨fd, F⟩ := S.c.def_ 50 (d := d_Parts__release) rfl
  exact ⟨cls_Parts S, _, fd, mt_Parts_release S, F.bindsN (ps := ["self", "number"]) fun _ _ _ _ _ _ us hl => match us, hl with | [_, _], _ => by kernel_rfl, h _ fd F⟩
theorem mf_Parts_unpointed (S : Sit P w K mg base) {CX : CXT} {k : Nat} {sp : Sp} (h : ∀ (f : Addr) (fd : FuncData), FunD K "unpointed" "Parts.unpointed" (defArgs (inClass (top 19) 13)) (defBody (inClass (top 19) 13)) (defScope (inClass (top 19) 13)) [] [] f fd → FnOk P w K mg base CX k f fd ["self", "number"] sp) : MF P w K mg base CX (He.ga K "Parts") "unpointed" ["self", "number"] k sp := by
  obtain ⟨fd, F⟩ := S.c.def_ 51 (d := d_Parts__unpointed) rfl
  exact ⟨cls_Parts S, _, fd, mt_Parts_unpointed S, F.bindsN (ps := ["self", "number"]) fun _ _ _ _ _ _ us hl => match us, hl with | [_, _], _ => by kernel_rfl, h _ fd F⟩
theorem mf_Parts_copied (S : Sit P w K mg base) {CX : CXT} {k : Nat} {sp : Sp} (h : ∀ (f : Addr) (fd : FuncData), FunD K "copied" "Parts.copied" (defArgs (inClass (top 19) 14)) (defBody (inClass (top 19) 14)) (defScope (inClass (top 19) 14)) [] [] f fd → FnOk P w K mg base CX k f fd ["self"] sp) : MF P w K mg base CX (He.ga K "Parts") "copied" ["self"] k sp := by
  obtain ⟨fd, F⟩ := S.c.def_ 52 (d := d_Parts__copied) rfl
  exact ⟨cls_Parts S, _, fd, mt_Parts_copied S, F.bindsN (ps := ["self"]) fun _ _ _ _ _ _ us hl => match us, hl with | [_], _ => by kernel_rfl, h _ fd F⟩
theorem kf_LeapTree (S : Sit P w K mg base) {CX : CXT} {k : Nat} {sp : Sp} (h : ∀ (f : Addr) (fd : FuncData), FunD K "__init__" "LeapTree.__init__" (defArgs (inClass (top 29) 0)) (defBody (inClass (top 29) 0)) (defScope (inClass (top 29) 0)) [] [] f fd → FnOk P w K mg base CX k f fd ["self"] sp) : KF P w K mg base CX "LeapTree" (He.ga K "LeapTree") ["self"] k sp := by
  obtain ⟨fd, F⟩ := S.c.def_ 53 (d := d_LeapTree____init__) rfl
  exact ⟨gl_LeapTree S, _, fd, mk_LeapTree S, F.bindsN (ps := ["self"]) fun _ _ _ _ _ _ us hl => match us, hl with | [_], _ => by kernel_rfl, h _ fd F⟩
theorem mf_LeapTree_many (S : Sit P w K mg base) {CX : CXT} {k : Nat} {sp : Sp} (h : ∀ (f : Addr) (fd : FuncData), FunD K "many" "MakeTree.many" (defArgs (inClass (top 27) 1)) (defBody (inClass (top 27) 1)) (defScope (inClass (top 27) 1)) [] [] f fd → FnOk P w K mg base CX k f fd ["self"] sp) : MF P w K mg base CX (He.ga K "LeapTree") "many" ["self"] k sp := by
  obtain ⟨fd, F⟩ := S.c.def_ 54 (d := d_LeapTree__many) rfl
  exact ⟨cls_LeapTree S, _, fd, mt_LeapTree_many S, F.bindsN (ps := ["self"]) fun _ _ _ _ _ _ us hl => match us, hl with | [_], _ => by kernel_rfl, h _ fd F⟩
theorem mf_LeapTree_need_make (S : Sit P w K mg base) {CX : CXT} {k : Nat} {sp : Sp} (h : ∀ (f : Addr) (fd : FuncData), FunD K "need_make" "MakeTree.need_make" (defArgs (inClass (top 27) 2)) (defBody (inClass (top 27) 2)) (defScope (inClass (top 27) 2)) [] [] f fd → FnOk P w K mg base CX k f fd ["self", "make"] sp) : MF P w K mg base CX (He.ga K "LeapTree") "need_make" ["self", "make"] k sp := by
  obtain ⟨fd, F⟩ := S.c.def_ 55 (d := d_LeapTree__need_make) rfl
  exact ⟨cls_LeapTree S, _, fd, mt_LeapTree_need_make S, F.bindsN (ps := ["self", "make"]) fun _ _ _ _ _ _ us hl => match us, hl with | [_, _], _ => by kernel_rfl, h _ fd F⟩
theorem mf_LeapTree_need_steps (S : Sit P w K mg base) {CX : CXT} {k : Nat} {sp : Sp} (h : ∀ (f : Addr) (fd : FuncData), FunD K "need_steps" "MakeTree.need_steps" (defArgs (inClass (top 27) 3)) (defBody (inClass (top 27) 3)) (defScope (inClass (top 27) 3)) [] [] f fd → FnOk P w K mg base CX k f fd ["self", "make", "steps"] sp) : MF P w K mg base CX (He.ga K "LeapTree") "need_steps" ["self", "make", "steps"] k sp := by
  obtain ⟨fd, F⟩ := S.c.def_ 56 (d := d_LeapTree__need_steps) rfl
  exact ⟨cls_LeapTree S, _, fd, mt_LeapTree_need_steps S, F.bindsN (ps := ["self", "make", "steps"]) fun _ _ _ _ _ _ us hl => match us, hl with | [_, _, _], _ => by kernel_rfl, h _ fd F⟩
theorem mf_LeapTree_grow (S : Sit P w K mg base) {CX : CXT} {k : Nat} {sp : Sp} (h : ∀ (f : Addr) (fd : FuncData), FunD K "grow" "MakeTree.grow" (defArgs (inClass (top 27) 4)) (defBody (inClass (top 27) 4)) (defScope (inClass (top 27) 4)) [] [] f fd → FnOk P w K mg base CX k f fd ["self", "make"] sp) : MF P w K mg base CX (He.ga K "LeapTree") "grow" ["self", "make"] k sp := by
  obtain ⟨fd, F⟩ := S.c.def_ 57 (d := d_LeapTree__grow) rfl
  exact ⟨cls_LeapTree S, _, fd, mt_LeapTree_grow S, F.bindsN (ps := ["self", "make"]) fun _ _ _ _ _ _ us hl => match us, hl with | [_, _], _ => by kernel_rfl, h _ fd F⟩
theorem mf_LeapTree_lay (S : Sit P w K mg base) {CX : CXT} {k : Nat} {sp : Sp} (h : ∀ (f : Addr) (fd : FuncData), FunD K "lay" "LeapTree.lay" (defArgs (inClass (top 29) 1)) (defBody (inClass (top 29) 1)) (defScope (inClass (top 29) 1)) [] [] f fd → FnOk P w K mg base CX k f fd ["self", "make"] sp) : MF P w K mg base CX (He.ga K "LeapTree") "lay" ["self", "make"] k sp := by
  obtain ⟨fd, F⟩ := S.c.def_ 58 (d := d_LeapTree__lay) rfl
  exact ⟨cls_LeapTree S, _, fd, mt_LeapTree_lay S, F.bindsN (ps := ["self", "make"]) fun _ _ _ _ _ _ us hl => match us, hl with | [_, _], _ => by kernel_rfl, h _ fd F⟩
theorem mf_LeapTree_own (S : Sit P w K mg base) {CX : CXT} {k : Nat} {sp : Sp} (h : ∀ (f : Addr) (fd : FuncData), FunD K "own" "MakeTree.own" (defArgs (inClass (top 27) 6)) (defBody (inClass (top 27) 6)) (defScope (inClass (top 27) 6)) [] [] f fd → FnOk P w K mg base CX k f fd ["self", "make"] sp) : MF P w K mg base CX (He.ga K "LeapTree") "own" ["self", "make"] k sp := by
  obtain ⟨fd, F⟩ := S.c.def_ 59 (d := d_LeapTree__own) rfl
  exact ⟨cls_LeapTree S, _, fd, mt_LeapTree_own S, F.bindsN (ps := ["self", "make"]) fun _ _ _ _ _ _ us hl => match us, hl with | [_, _], _ => by kernel_rfl, h _ fd F⟩
theorem mf_LeapTree_depth (S : Sit P w K mg base) {CX : CXT} {k : Nat} {sp : Sp} (h : ∀ (f : Addr) (fd : FuncData), FunD K "depth" "MakeTree.depth" (defArgs (inClass (top 27) 7)) (defBody (inClass (top 27) 7)) (defScope (inClass (top 27) 7)) [] [] f fd → FnOk P w K mg base CX k f fd ["self", "make"] sp) : MF P w K mg base CX (He.ga K "LeapTree") "depth" ["self", "make"] k sp := by
  obtain ⟨fd, F⟩ := S.c.def_ 60 (d := d_LeapTree__depth) rfl
  exact ⟨cls_LeapTree S, _, fd, mt_LeapTree_depth S, F.bindsN (ps := ["self", "make"]) fun _ _ _ _ _ _ us hl => match us, hl with | [_, _], _ => by kernel_rfl, h _ fd F⟩
theorem mf_LeapTree_on (S : Sit P w K mg base) {CX : CXT} {k : Nat} {sp : Sp} (h : ∀ (f : Addr) (fd : FuncData), FunD K "on" "MakeTree.on" (defArgs (inClass (top 27) 8)) (defBody (inClass (top 27) 8)) (defScope (inClass (top 27) 8)) [] [] f fd → FnOk P w K mg base CX k f fd ["self", "make"] sp) : MF P w K mg base CX (He.ga K "LeapTree") "on" ["self", "make"] k sp := by
  obtain ⟨fd, F⟩ := S.c.def_ 61 (d := d_LeapTree__on) rfl
  exact ⟨cls_LeapTree S, _, fd, mt_LeapTree_on S, F.bindsN (ps := ["self", "make"]) fun _ _ _ _ _ _ us hl => match us, hl with | [_, _], _ => by kernel_rfl, h _ fd F⟩
theorem mf_LeapTree_line (S : Sit P w K mg base) {CX : CXT} {k : Nat} {sp : Sp} (h : ∀ (f : Addr) (fd : FuncData), FunD K "line" "MakeTree.line" (defArgs (inClass (top 27) 9)) (defBody (inClass (top 27) 9)) (defScope (inClass (top 27) 9)) [] [] f fd → FnOk P w K mg base CX k f fd ["self", "make"] sp) : MF P w K mg base CX (He.ga K "LeapTree") "line" ["self", "make"] k sp := by
  obtain ⟨fd, F⟩ := S.c.def_ 62 (d := d_LeapTree__line) rfl
  exact ⟨cls_LeapTree S, _, fd, mt_LeapTree_line S, F.bindsN (ps := ["self", "make"]) fun _ _ _ _ _ _ us hl => match us, hl with | [_, _], _ => by kernel_rfl, h _ fd F⟩
theorem mf_LeapTree_up (S : Sit P w K mg base) {CX : CXT} {k : Nat} {sp : Sp} (h : ∀ (f : Addr) (fd : FuncData), FunD K "up" "LeapTree.up" (defArgs (inClass (top 29) 4)) (defBody (inClass (top 29) 4)) (defScope (inClass (top 29) 4)) [] [] f fd → FnOk P w K mg base CX k f fd ["self", "make", "steps"] sp) : MF P w K mg base CX (He.ga K "LeapTree") "up" ["self", "make", "steps"] k sp := by
  obtain ⟨fd, F⟩ := S.c.def_ 63 (d := d_LeapTree__up) rfl
  exact ⟨cls_LeapTree S, _, fd, mt_LeapTree_up S, F.bindsN (ps := ["self", "make", "steps"]) fun _ _ _ _ _ _ us hl => match us, hl with | [_, _, _], _ => by kernel_rfl, h _ fd F⟩
theorem mf_LeapTree_nearest (S : Sit P w K mg base) {CX : CXT} {k : Nat} {sp : Sp} (h : ∀ (f : Addr) (fd : FuncData), FunD K "nearest" "LeapTree.nearest" (defArgs (inClass (top 29) 5)) (defBody (inClass (top 29) 5)) (defScope (inClass (top 29) 5)) [] [] f fd → FnOk P w K mg base CX k f fd ["self", "one", "other"] sp) : MF P w K mg base CX (He.ga K "LeapTree") "nearest" ["self", "one", "other"] k sp := by
  obtain ⟨fd, F⟩ := S.c.def_ 64 (d := d_LeapTree__nearest) rfl
  exact ⟨cls_LeapTree S, _, fd, mt_LeapTree_nearest S, F.bindsN (ps := ["self", "one", "other"]) fun _ _ _ _ _ _ us hl => match us, hl with | [_, _, _], _ => by kernel_rfl, h _ fd F⟩
theorem mf_LeapTree_way (S : Sit P w K mg base) {CX : CXT} {k : Nat} {sp : Sp} (h : ∀ (f : Addr) (fd : FuncData), FunD K "way" "MakeTree.way" (defArgs (inClass (top 27) 12)) (defBody (inClass (top 27) 12)) (defScope (inClass (top 27) 12)) [] [] f fd → FnOk P w K mg base CX k f fd ["self", "one", "other"] sp) : MF P w K mg base CX (He.ga K "LeapTree") "way" ["self", "one", "other"] k sp := by
  obtain ⟨fd, F⟩ := S.c.def_ 65 (d := d_LeapTree__way) rfl
  exact ⟨cls_LeapTree S, _, fd, mt_LeapTree_way S, F.bindsN (ps := ["self", "one", "other"]) fun _ _ _ _ _ _ us hl => match us, hl with | [_, _, _], _ => by kernel_rfl, h _ fd F⟩
theorem mf_LeapTree_copied (S : Sit P w K mg base) {CX : CXT} {k : Nat} {sp : Sp} (h : ∀ (f : Addr) (fd : FuncData), FunD K "copied" "LeapTree.copied" (defArgs (inClass (top 29) 6)) (defBody (inClass (top 29) 6)) (defScope (inClass (top 29) 6)) [] [] f fd → FnOk P w K mg base CX k f fd ["self"] sp) : MF P w K mg base CX (He.ga K "LeapTree") "copied" ["self"] k sp := by
  obtain ⟨fd, F⟩ := S.c.def_ 66 (d := d_LeapTree__copied) rfl
  exact ⟨cls_LeapTree S, _, fd, mt_LeapTree_copied S, F.bindsN (ps := ["self"]) fun _ _ _ _ _ _ us hl => match us, hl with | [_], _ => by kernel_rfl, h _ fd F⟩
theorem mf_LeapTree_leaps (S : Sit P w K mg base) {CX : CXT} {k : Nat} {sp : Sp} (h : ∀ (f : Addr) (fd : FuncData), FunD K "leaps" "LeapTree.leaps" (defArgs (inClass (top 29) 2)) (defBody (inClass (top 29) 2)) (defScope (inClass (top 29) 2)) [] [] f fd → FnOk P w K mg base CX k f fd ["self", "make"] sp) : MF P w K mg base CX (He.ga K "LeapTree") "leaps" ["self", "make"] k sp := by
  obtain ⟨fd, F⟩ := S.c.def_ 67 (d := d_LeapTree__leaps) rfl
  exact ⟨cls_LeapTree S, _, fd, mt_LeapTree_leaps S, F.bindsN (ps := ["self", "make"]) fun _ _ _ _ _ _ us hl => match us, hl with | [_, _], _ => by kernel_rfl, h _ fd F⟩
theorem mf_LeapTree_leap_way (S : Sit P w K mg base) {CX : CXT} {k : Nat} {sp : Sp} (h : ∀ (f : Addr) (fd : FuncData), FunD K "leap_way" "LeapTree.leap_way" (defArgs (inClass (top 29) 3)) (defBody (inClass (top 29) 3)) (defScope (inClass (top 29) 3)) [] [] f fd → FnOk P w K mg base CX k f fd ["self", "make", "steps"] sp) : MF P w K mg base CX (He.ga K "LeapTree") "leap_way" ["self", "make", "steps"] k sp := by
  obtain ⟨fd, F⟩ := S.c.def_ 68 (d := d_LeapTree__leap_way) rfl
  exact ⟨cls_LeapTree S, _, fd, mt_LeapTree_leap_way S, F.bindsN (ps := ["self", "make", "steps"]) fun _ _ _ _ _ _ us hl => match us, hl with | [_, _, _], _ => by kernel_rfl, h _ fd F⟩
theorem kf_Copied (S : Sit P w K mg base) {CX : CXT} {k : Nat} {sp : Sp} (h : ∀ (f : Addr) (fd : FuncData), FunD K "__init__" "Rows.__init__" (defArgs (inClass (top 31) 0)) (defBody (inClass (top 31) 0)) (defScope (inClass (top 31) 0)) [] [] f fd → FnOk P w K mg base CX k f fd ["self", "worths"] sp) : KF P w K mg base CX "Copied" (He.ga K "Copied") ["self", "worths"] k sp := by
  obtain ⟨fd, F⟩ := S.c.def_ 69 (d := d_Copied____init__) rfl
  exact ⟨gl_Copied S, _, fd, mk_Copied S, F.bindsN (ps := ["self", "worths"]) fun _ _ _ _ _ _ us hl => match us, hl with | [_, _], _ => by kernel_rfl, h _ fd F⟩
theorem mf_Copied_begin (S : Sit P w K mg base) {CX : CXT} {k : Nat} {sp : Sp} (h : ∀ (f : Addr) (fd : FuncData), FunD K "begin" "Copied.begin" (defArgs (inClass (top 33) 0)) (defBody (inClass (top 33) 0)) (defScope (inClass (top 33) 0)) [] [] f fd → FnOk P w K mg base CX k f fd ["self", "worths"] sp) : MF P w K mg base CX (He.ga K "Copied") "begin" ["self", "worths"] k sp := by
  obtain ⟨fd, F⟩ := S.c.def_ 70 (d := d_Copied__begin) rfl
  exact ⟨cls_Copied S, _, fd, mt_Copied_begin S, F.bindsN (ps := ["self", "worths"]) fun _ _ _ _ _ _ us hl => match us, hl with | [_, _], _ => by kernel_rfl, h _ fd F⟩
theorem mf_Copied_way (S : Sit P w K mg base) {CX : CXT} {k : Nat} {sp : Sp} (h : ∀ (f : Addr) (fd : FuncData), FunD K "way" "Copied.way" (defArgs (inClass (top 33) 1)) (defBody (inClass (top 33) 1)) (defScope (inClass (top 33) 1)) [] [] f fd → FnOk P w K mg base CX k f fd ["self"] sp) : MF P w K mg base CX (He.ga K "Copied") "way" ["self"] k sp := by
  obtain ⟨fd, F⟩ := S.c.def_ 71 (d := d_Copied__way) rfl
  exact ⟨cls_Copied S, _, fd, mt_Copied_way S, F.bindsN (ps := ["self"]) fun _ _ _ _ _ _ us hl => match us, hl with | [_], _ => by kernel_rfl, h _ fd F⟩
theorem mf_Copied_add_steps (S : Sit P w K mg base) {CX : CXT} {k : Nat} {sp : Sp} (h : ∀ (f : Addr) (fd : FuncData), FunD K "add_steps" "Rows.add_steps" (defArgs (inClass (top 31) 4)) (defBody (inClass (top 31) 4)) (defScope (inClass (top 31) 4)) [] [] f fd → FnOk P w K mg base CX k f fd ["self", "many"] sp) : MF P w K mg base CX (He.ga K "Copied") "add_steps" ["self", "many"] k sp := by
  obtain ⟨fd, F⟩ := S.c.def_ 72 (d := d_Copied__add_steps) rfl
  exact ⟨cls_Copied S, _, fd, mt_Copied_add_steps S, F.bindsN (ps := ["self", "many"]) fun _ _ _ _ _ _ us hl => match us, hl with | [_, _], _ => by kernel_rfl, h _ fd F⟩
theorem mf_Copied_store (S : Sit P w K mg base) {CX : CXT} {k : Nat} {sp : Sp} (h : ∀ (f : Addr) (fd : FuncData), FunD K "store" "Copied.store" (defArgs (inClass (top 33) 3)) (defBody (inClass (top 33) 3)) (defScope (inClass (top 33) 3)) [] [] f fd → FnOk P w K mg base CX k f fd ["self", "make", "number", "place", "worth"] sp) : MF P w K mg base CX (He.ga K "Copied") "store" ["self", "make", "number", "place", "worth"] k sp := by
  obtain ⟨fd, F⟩ := S.c.def_ 73 (d := d_Copied__store) rfl
  exact ⟨cls_Copied S, _, fd, mt_Copied_store S, F.bindsN (ps := ["self", "make", "number", "place", "worth"]) fun _ _ _ _ _ _ us hl => match us, hl with | [_, _, _, _, _], _ => by kernel_rfl, h _ fd F⟩
theorem mf_Copied_looked (S : Sit P w K mg base) {CX : CXT} {k : Nat} {sp : Sp} (h : ∀ (f : Addr) (fd : FuncData), FunD K "looked" "Rows.looked" (defArgs (inClass (top 31) 6)) (defBody (inClass (top 31) 6)) (defScope (inClass (top 31) 6)) [] [] f fd → FnOk P w K mg base CX k f fd ["self", "make", "place"] sp) : MF P w K mg base CX (He.ga K "Copied") "looked" ["self", "make", "place"] k sp := by
  obtain ⟨fd, F⟩ := S.c.def_ 74 (d := d_Copied__looked) rfl
  exact ⟨cls_Copied S, _, fd, mt_Copied_looked S, F.bindsN (ps := ["self", "make", "place"]) fun _ _ _ _ _ _ us hl => match us, hl with | [_, _, _], _ => by kernel_rfl, h _ fd F⟩
theorem mf_Copied_freed (S : Sit P w K mg base) {CX : CXT} {k : Nat} {sp : Sp} (h : ∀ (f : Addr) (fd : FuncData), FunD K "freed" "Copied.freed" (defArgs (inClass (top 33) 6)) (defBody (inClass (top 33) 6)) (defScope (inClass (top 33) 6)) [] [] f fd → FnOk P w K mg base CX k f fd ["self", "make"] sp) : MF P w K mg base CX (He.ga K "Copied") "freed" ["self", "make"] k sp := by
  obtain ⟨fd, F⟩ := S.c.def_ 75 (d := d_Copied__freed) rfl
  exact ⟨cls_Copied S, _, fd, mt_Copied_freed S, F.bindsN (ps := ["self", "make"]) fun _ _ _ _ _ _ us hl => match us, hl with | [_, _], _ => by kernel_rfl, h _ fd F⟩
theorem mf_Copied_copied (S : Sit P w K mg base) {CX : CXT} {k : Nat} {sp : Sp} (h : ∀ (f : Addr) (fd : FuncData), FunD K "copied" "Copied.copied" (defArgs (inClass (top 33) 13)) (defBody (inClass (top 33) 13)) (defScope (inClass (top 33) 13)) [] [] f fd → FnOk P w K mg base CX k f fd ["self"] sp) : MF P w K mg base CX (He.ga K "Copied") "copied" ["self"] k sp := by
  obtain ⟨fd, F⟩ := S.c.def_ 76 (d := d_Copied__copied) rfl
  exact ⟨cls_Copied S, _, fd, mt_Copied_copied S, F.bindsN (ps := ["self"]) fun _ _ _ _ _ _ us hl => match us, hl with | [_], _ => by kernel_rfl, h _ fd F⟩
theorem mf_Copied_size (S : Sit P w K mg base) {CX : CXT} {k : Nat} {sp : Sp} (h : ∀ (f : Addr) (fd : FuncData), FunD K "size" "Rows.size" (defArgs (inClass (top 31) 9)) (defBody (inClass (top 31) 9)) (defScope (inClass (top 31) 9)) [] [] f fd → FnOk P w K mg base CX k f fd ["self"] sp) : MF P w K mg base CX (He.ga K "Copied") "size" ["self"] k sp := by
  obtain ⟨fd, F⟩ := S.c.def_ 77 (d := d_Copied__size) rfl
  exact ⟨cls_Copied S, _, fd, mt_Copied_size S, F.bindsN (ps := ["self"]) fun _ _ _ _ _ _ us hl => match us, hl with | [_], _ => by kernel_rfl, h _ fd F⟩
theorem mf_Copied_many (S : Sit P w K mg base) {CX : CXT} {k : Nat} {sp : Sp} (h : ∀ (f : Addr) (fd : FuncData), FunD K "many" "Rows.many" (defArgs (inClass (top 31) 10)) (defBody (inClass (top 31) 10)) (defScope (inClass (top 31) 10)) [] [] f fd → FnOk P w K mg base CX k f fd ["self"] sp) : MF P w K mg base CX (He.ga K "Copied") "many" ["self"] k sp := by
  obtain ⟨fd, F⟩ := S.c.def_ 78 (d := d_Copied__many) rfl
  exact ⟨cls_Copied S, _, fd, mt_Copied_many S, F.bindsN (ps := ["self"]) fun _ _ _ _ _ _ us hl => match us, hl with | [_], _ => by kernel_rfl, h _ fd F⟩
theorem mf_Copied_makes (S : Sit P w K mg base) {CX : CXT} {k : Nat} {sp : Sp} (h : ∀ (f : Addr) (fd : FuncData), FunD K "makes" "Rows.makes" (defArgs (inClass (top 31) 11)) (defBody (inClass (top 31) 11)) (defScope (inClass (top 31) 11)) [] [] f fd → FnOk P w K mg base CX k f fd ["self"] sp) : MF P w K mg base CX (He.ga K "Copied") "makes" ["self"] k sp := by
  obtain ⟨fd, F⟩ := S.c.def_ 79 (d := d_Copied__makes) rfl
  exact ⟨cls_Copied S, _, fd, mt_Copied_makes S, F.bindsN (ps := ["self"]) fun _ _ _ _ _ _ us hl => match us, hl with | [_], _ => by kernel_rfl, h _ fd F⟩
theorem mf_Copied_tree (S : Sit P w K mg base) {CX : CXT} {k : Nat} {sp : Sp} (h : ∀ (f : Addr) (fd : FuncData), FunD K "tree" "Rows.tree" (defArgs (inClass (top 31) 12)) (defBody (inClass (top 31) 12)) (defScope (inClass (top 31) 12)) [] [] f fd → FnOk P w K mg base CX k f fd ["self"] sp) : MF P w K mg base CX (He.ga K "Copied") "tree" ["self"] k sp := by
  obtain ⟨fd, F⟩ := S.c.def_ 80 (d := d_Copied__tree) rfl
  exact ⟨cls_Copied S, _, fd, mt_Copied_tree S, F.bindsN (ps := ["self"]) fun _ _ _ _ _ _ us hl => match us, hl with | [_], _ => by kernel_rfl, h _ fd F⟩
theorem mf_Copied_steps (S : Sit P w K mg base) {CX : CXT} {k : Nat} {sp : Sp} (h : ∀ (f : Addr) (fd : FuncData), FunD K "steps" "Rows.steps" (defArgs (inClass (top 31) 13)) (defBody (inClass (top 31) 13)) (defScope (inClass (top 31) 13)) [] [] f fd → FnOk P w K mg base CX k f fd ["self"] sp) : MF P w K mg base CX (He.ga K "Copied") "steps" ["self"] k sp := by
  obtain ⟨fd, F⟩ := S.c.def_ 81 (d := d_Copied__steps) rfl
  exact ⟨cls_Copied S, _, fd, mt_Copied_steps S, F.bindsN (ps := ["self"]) fun _ _ _ _ _ _ us hl => match us, hl with | [_], _ => by kernel_rfl, h _ fd F⟩
theorem mf_Copied_place_of (S : Sit P w K mg base) {CX : CXT} {k : Nat} {sp : Sp} (h : ∀ (f : Addr) (fd : FuncData), FunD K "place_of" "Rows.place_of" (defArgs (inClass (top 31) 14)) (defBody (inClass (top 31) 14)) (defScope (inClass (top 31) 14)) [] [] f fd → FnOk P w K mg base CX k f fd ["self", "make"] sp) : MF P w K mg base CX (He.ga K "Copied") "place_of" ["self", "make"] k sp := by
  obtain ⟨fd, F⟩ := S.c.def_ 82 (d := d_Copied__place_of) rfl
  exact ⟨cls_Copied S, _, fd, mt_Copied_place_of S, F.bindsN (ps := ["self", "make"]) fun _ _ _ _ _ _ us hl => match us, hl with | [_, _], _ => by kernel_rfl, h _ fd F⟩
theorem mf_Copied_writer (S : Sit P w K mg base) {CX : CXT} {k : Nat} {sp : Sp} (h : ∀ (f : Addr) (fd : FuncData), FunD K "writer" "Rows.writer" (defArgs (inClass (top 31) 15)) (defBody (inClass (top 31) 15)) (defScope (inClass (top 31) 15)) [] [] f fd → FnOk P w K mg base CX k f fd ["self", "make", "place"] sp) : MF P w K mg base CX (He.ga K "Copied") "writer" ["self", "make", "place"] k sp := by
  obtain ⟨fd, F⟩ := S.c.def_ 83 (d := d_Copied__writer) rfl
  exact ⟨cls_Copied S, _, fd, mt_Copied_writer S, F.bindsN (ps := ["self", "make", "place"]) fun _ _ _ _ _ _ us hl => match us, hl with | [_, _, _], _ => by kernel_rfl, h _ fd F⟩
theorem mf_Copied_writer_of (S : Sit P w K mg base) {CX : CXT} {k : Nat} {sp : Sp} (h : ∀ (f : Addr) (fd : FuncData), FunD K "writer_of" "Rows.writer_of" (defArgs (inClass (top 31) 16)) (defBody (inClass (top 31) 16)) (defScope (inClass (top 31) 16)) [] [] f fd → FnOk P w K mg base CX k f fd ["self", "make", "place"] sp) : MF P w K mg base CX (He.ga K "Copied") "writer_of" ["self", "make", "place"] k sp := by
  obtain ⟨fd, F⟩ := S.c.def_ 84 (d := d_Copied__writer_of) rfl
  exact ⟨cls_Copied S, _, fd, mt_Copied_writer_of S, F.bindsN (ps := ["self", "make", "place"]) fun _ _ _ _ _ _ us hl => match us, hl with | [_, _, _], _ => by kernel_rfl, h _ fd F⟩
theorem mf_Copied_need_make (S : Sit P w K mg base) {CX : CXT} {k : Nat} {sp : Sp} (h : ∀ (f : Addr) (fd : FuncData), FunD K "need_make" "Rows.need_make" (defArgs (inClass (top 31) 17)) (defBody (inClass (top 31) 17)) (defScope (inClass (top 31) 17)) [] [] f fd → FnOk P w K mg base CX k f fd ["self", "make"] sp) : MF P w K mg base CX (He.ga K "Copied") "need_make" ["self", "make"] k sp := by
  obtain ⟨fd, F⟩ := S.c.def_ 85 (d := d_Copied__need_make) rfl
  exact ⟨cls_Copied S, _, fd, mt_Copied_need_make S, F.bindsN (ps := ["self", "make"]) fun _ _ _ _ _ _ us hl => match us, hl with | [_, _], _ => by kernel_rfl, h _ fd F⟩
theorem mf_Copied_need_place (S : Sit P w K mg base) {CX : CXT} {k : Nat} {sp : Sp} (h : ∀ (f : Addr) (fd : FuncData), FunD K "need_place" "Rows.need_place" (defArgs (inClass (top 31) 18)) (defBody (inClass (top 31) 18)) (defScope (inClass (top 31) 18)) [] [] f fd → FnOk P w K mg base CX k f fd ["self", "place"] sp) : MF P w K mg base CX (He.ga K "Copied") "need_place" ["self", "place"] k sp := by
  obtain ⟨fd, F⟩ := S.c.def_ 86 (d := d_Copied__need_place) rfl
  exact ⟨cls_Copied S, _, fd, mt_Copied_need_place S, F.bindsN (ps := ["self", "place"]) fun _ _ _ _ _ _ us hl => match us, hl with | [_, _], _ => by kernel_rfl, h _ fd F⟩
theorem mf_Copied_need_stretch (S : Sit P w K mg base) {CX : CXT} {k : Nat} {sp : Sp} (h : ∀ (f : Addr) (fd : FuncData), FunD K "need_stretch" "Rows.need_stretch" (defArgs (inClass (top 31) 19)) (defBody (inClass (top 31) 19)) (defScope (inClass (top 31) 19)) [] [] f fd → FnOk P w K mg base CX k f fd ["self", "low", "high"] sp) : MF P w K mg base CX (He.ga K "Copied") "need_stretch" ["self", "low", "high"] k sp := by
  obtain ⟨fd, F⟩ := S.c.def_ 87 (d := d_Copied__need_stretch) rfl
  exact ⟨cls_Copied S, _, fd, mt_Copied_need_stretch S, F.bindsN (ps := ["self", "low", "high"]) fun _ _ _ _ _ _ us hl => match us, hl with | [_, _, _], _ => by kernel_rfl, h _ fd F⟩
theorem mf_Copied_need_new (S : Sit P w K mg base) {CX : CXT} {k : Nat} {sp : Sp} (h : ∀ (f : Addr) (fd : FuncData), FunD K "need_new" "Rows.need_new" (defArgs (inClass (top 31) 20)) (defBody (inClass (top 31) 20)) (defScope (inClass (top 31) 20)) [] [] f fd → FnOk P w K mg base CX k f fd ["self", "make"] sp) : MF P w K mg base CX (He.ga K "Copied") "need_new" ["self", "make"] k sp := by
  obtain ⟨fd, F⟩ := S.c.def_ 88 (d := d_Copied__need_new) rfl
  exact ⟨cls_Copied S, _, fd, mt_Copied_need_new S, F.bindsN (ps := ["self", "make"]) fun _ _ _ _ _ _ us hl => match us, hl with | [_, _], _ => by kernel_rfl, h _ fd F⟩
theorem mf_Copied_need_room (S : Sit P w K mg base) {CX : CXT} {k : Nat} {sp : Sp} (h : ∀ (f : Addr) (fd : FuncData), FunD K "need_room" "Rows.need_room" (defArgs (inClass (top 31) 21)) (defBody (inClass (top 31) 21)) (defScope (inClass (top 31) 21)) [] [] f fd → FnOk P w K mg base CX k f fd ["self", "many"] sp) : MF P w K mg base CX (He.ga K "Copied") "need_room" ["self", "many"] k sp := by
  obtain ⟨fd, F⟩ := S.c.def_ 89 (d := d_Copied__need_room) rfl
  exact ⟨cls_Copied S, _, fd, mt_Copied_need_room S, F.bindsN (ps := ["self", "many"]) fun _ _ _ _ _ _ us hl => match us, hl with | [_, _], _ => by kernel_rfl, h _ fd F⟩
theorem mf_Copied_put (S : Sit P w K mg base) {CX : CXT} {k : Nat} {sp : Sp} (h : ∀ (f : Addr) (fd : FuncData), FunD K "put" "Rows.put" (defArgs (inClass (top 31) 22)) (defBody (inClass (top 31) 22)) (defScope (inClass (top 31) 22)) [] [] f fd → FnOk P w K mg base CX k f fd ["self", "make", "place", "worth"] sp) : MF P w K mg base CX (He.ga K "Copied") "put" ["self", "make", "place", "worth"] k sp := by
  obtain ⟨fd, F⟩ := S.c.def_ 90 (d := d_Copied__put) rfl
  exact ⟨cls_Copied S, _, fd, mt_Copied_put S, F.bindsN (ps := ["self", "make", "place", "worth"]) fun _ _ _ _ _ _ us hl => match us, hl with | [_, _, _, _], _ => by kernel_rfl, h _ fd F⟩
theorem mf_Copied_written (S : Sit P w K mg base) {CX : CXT} {k : Nat} {sp : Sp} (h : ∀ (f : Addr) (fd : FuncData), FunD K "written" "Rows.written" (defArgs (inClass (top 31) 24)) (defBody (inClass (top 31) 24)) (defScope (inClass (top 31) 24)) [] [] f fd → FnOk P w K mg base CX k f fd ["self", "make", "place", "worth"] sp) : MF P w K mg base CX (He.ga K "Copied") "written" ["self", "make", "place", "worth"] k sp := by
  obtain ⟨fd, F⟩ := S.c.def_ 91 (d := d_Copied__written) rfl
  exact ⟨cls_Copied S, _, fd, mt_Copied_written S, F.bindsN (ps := ["self", "make", "place", "worth"]) fun _ _ _ _ _ _ us hl => match us, hl with | [_, _, _, _], _ => by kernel_rfl, h _ fd F⟩
theorem mf_Copied_at (S : Sit P w K mg base) {CX : CXT} {k : Nat} {sp : Sp} (h : ∀ (f : Addr) (fd : FuncData), FunD K "at" "Rows.at" (defArgs (inClass (top 31) 25)) (defBody (inClass (top 31) 25)) (defScope (inClass (top 31) 25)) [] [] f fd → FnOk P w K mg base CX k f fd ["self", "make", "place"] sp) : MF P w K mg base CX (He.ga K "Copied") "at" ["self", "make", "place"] k sp := by
  obtain ⟨fd, F⟩ := S.c.def_ 92 (d := d_Copied__at) rfl
  exact ⟨cls_Copied S, _, fd, mt_Copied_at S, F.bindsN (ps := ["self", "make", "place"]) fun _ _ _ _ _ _ us hl => match us, hl with | [_, _, _], _ => by kernel_rfl, h _ fd F⟩
theorem mf_Copied_row (S : Sit P w K mg base) {CX : CXT} {k : Nat} {sp : Sp} (h : ∀ (f : Addr) (fd : FuncData), FunD K "row" "Rows.row" (defArgs (inClass (top 31) 26)) (defBody (inClass (top 31) 26)) (defScope (inClass (top 31) 26)) [] [] f fd → FnOk P w K mg base CX k f fd ["self", "make"] sp) : MF P w K mg base CX (He.ga K "Copied") "row" ["self", "make"] k sp := by
  obtain ⟨fd, F⟩ := S.c.def_ 93 (d := d_Copied__row) rfl
  exact ⟨cls_Copied S, _, fd, mt_Copied_row S, F.bindsN (ps := ["self", "make"]) fun _ _ _ _ _ _ us hl => match us, hl with | [_, _], _ => by kernel_rfl, h _ fd F⟩
theorem mf_Copied_stretch (S : Sit P w K mg base) {CX : CXT} {k : Nat} {sp : Sp} (h : ∀ (f : Addr) (fd : FuncData), FunD K "stretch" "Rows.stretch" (defArgs (inClass (top 31) 27)) (defBody (inClass (top 31) 27)) (defScope (inClass (top 31) 27)) [] [] f fd → FnOk P w K mg base CX k f fd ["self", "make", "low", "high"] sp) : MF P w K mg base CX (He.ga K "Copied") "stretch" ["self", "make", "low", "high"] k sp := by
  obtain ⟨fd, F⟩ := S.c.def_ 94 (d := d_Copied__stretch) rfl
  exact ⟨cls_Copied S, _, fd, mt_Copied_stretch S, F.bindsN (ps := ["self", "make", "low", "high"]) fun _ _ _ _ _ _ us hl => match us, hl with | [_, _, _, _], _ => by kernel_rfl, h _ fd F⟩
theorem mf_Copied_worths_in (S : Sit P w K mg base) {CX : CXT} {k : Nat} {sp : Sp} (h : ∀ (f : Addr) (fd : FuncData), FunD K "worths_in" "Copied.worths_in" (defArgs (inClass (top 33) 5)) (defBody (inClass (top 33) 5)) (defScope (inClass (top 33) 5)) [] [] f fd → FnOk P w K mg base CX k f fd ["self", "make", "low", "high"] sp) : MF P w K mg base CX (He.ga K "Copied") "worths_in" ["self", "make", "low", "high"] k sp := by
  obtain ⟨fd, F⟩ := S.c.def_ 95 (d := d_Copied__worths_in) rfl
  exact ⟨cls_Copied S, _, fd, mt_Copied_worths_in S, F.bindsN (ps := ["self", "make", "low", "high"]) fun _ _ _ _ _ _ us hl => match us, hl with | [_, _, _, _], _ => by kernel_rfl, h _ fd F⟩
theorem mf_Copied_let_go (S : Sit P w K mg base) {CX : CXT} {k : Nat} {sp : Sp} (h : ∀ (f : Addr) (fd : FuncData), FunD K "let_go" "Rows.let_go" (defArgs (inClass (top 31) 29)) (defBody (inClass (top 31) 29)) (defScope (inClass (top 31) 29)) [] [] f fd → FnOk P w K mg base CX k f fd ["self", "make"] sp) : MF P w K mg base CX (He.ga K "Copied") "let_go" ["self", "make"] k sp := by
  obtain ⟨fd, F⟩ := S.c.def_ 96 (d := d_Copied__let_go) rfl
  exact ⟨cls_Copied S, _, fd, mt_Copied_let_go S, F.bindsN (ps := ["self", "make"]) fun _ _ _ _ _ _ us hl => match us, hl with | [_, _], _ => by kernel_rfl, h _ fd F⟩
theorem mf_Copied_same_makes (S : Sit P w K mg base) {CX : CXT} {k : Nat} {sp : Sp} (h : ∀ (f : Addr) (fd : FuncData), FunD K "same_makes" "Rows.same_makes" (defArgs (inClass (top 31) 30)) (defBody (inClass (top 31) 30)) (defScope (inClass (top 31) 30)) [] [] f fd → FnOk P w K mg base CX k f fd ["self", "other"] sp) : MF P w K mg base CX (He.ga K "Copied") "same_makes" ["self", "other"] k sp := by
  obtain ⟨fd, F⟩ := S.c.def_ 97 (d := d_Copied__same_makes) rfl
  exact ⟨cls_Copied S, _, fd, mt_Copied_same_makes S, F.bindsN (ps := ["self", "other"]) fun _ _ _ _ _ _ us hl => match us, hl with | [_, _], _ => by kernel_rfl, h _ fd F⟩
theorem mf_Copied_met (S : Sit P w K mg base) {CX : CXT} {k : Nat} {sp : Sp} (h : ∀ (f : Addr) (fd : FuncData), FunD K "met" "Copied.met" (defArgs (inClass (top 33) 4)) (defBody (inClass (top 33) 4)) (defScope (inClass (top 33) 4)) [] [] f fd → FnOk P w K mg base CX k f fd ["self", "number", "low", "high"] sp) : MF P w K mg base CX (He.ga K "Copied") "met" ["self", "number", "low", "high"] k sp := by
  obtain ⟨fd, F⟩ := S.c.def_ 98 (d := d_Copied__met) rfl
  exact ⟨cls_Copied S, _, fd, mt_Copied_met S, F.bindsN (ps := ["self", "number", "low", "high"]) fun _ _ _ _ _ _ us hl => match us, hl with | [_, _, _, _], _ => by kernel_rfl, h _ fd F⟩
theorem mf_Copied_root (S : Sit P w K mg base) {CX : CXT} {k : Nat} {sp : Sp} (h : ∀ (f : Addr) (fd : FuncData), FunD K "root" "Copied.root" (defArgs (inClass (top 33) 7)) (defBody (inClass (top 33) 7)) (defScope (inClass (top 33) 7)) [] [] f fd → FnOk P w K mg base CX k f fd ["self", "make"] sp) : MF P w K mg base CX (He.ga K "Copied") "root" ["self", "make"] k sp := by
  obtain ⟨fd, F⟩ := S.c.def_ 99 (d := d_Copied__root) rfl
  exact ⟨cls_Copied S, _, fd, mt_Copied_root S, F.bindsN (ps := ["self", "make"]) fun _ _ _ _ _ _ us hl => match us, hl with | [_, _], _ => by kernel_rfl, h _ fd F⟩
theorem mf_Copied_part (S : Sit P w K mg base) {CX : CXT} {k : Nat} {sp : Sp} (h : ∀ (f : Addr) (fd : FuncData), FunD K "part" "Copied.part" (defArgs (inClass (top 33) 8)) (defBody (inClass (top 33) 8)) (defScope (inClass (top 33) 8)) [] [] f fd → FnOk P w K mg base CX k f fd ["self", "number"] sp) : MF P w K mg base CX (He.ga K "Copied") "part" ["self", "number"] k sp := by
  obtain ⟨fd, F⟩ := S.c.def_ 100 (d := d_Copied__part) rfl
  exact ⟨cls_Copied S, _, fd, mt_Copied_part S, F.bindsN (ps := ["self", "number"]) fun _ _ _ _ _ _ us hl => match us, hl with | [_, _], _ => by kernel_rfl, h _ fd F⟩
theorem bf_MakeTree___init__ (S : Sit P w K mg base) {CX : CXT} {k : Nat} {sp : Sp} (h : ∀ (f : Addr) (fd : FuncData), FunD K "__init__" "MakeTree.__init__" (defArgs (inClass (top 27) 0)) (defBody (inClass (top 27) 0)) (defScope (inClass (top 27) 0)) [] [] f fd → FnOk P w K mg base CX k f fd ["self"] sp) : BF P w K mg base CX "MakeTree" (He.ga K "MakeTree") "__init__" ["self"] k sp := by
  obtain ⟨fd, F⟩ := S.c.def_ 101 (d := d_MakeTree____init__) rfl
  exact ⟨gl_MakeTree S, _, fd, bas_ok (List.all_eq_true.mp S.b ("MakeTree", "__init__") (List.mem_of_getElem? (i := 0) rfl)), F.bindsN (ps := ["self"]) fun _ _ _ _ _ _ us hl => match us, hl with | [_], _ => by kernel_rfl, h _ fd F⟩
end

end Mk
namespace Mk
open L2 PySem PySem.Spec PyProof.Rows
abbrev R : PySem.W.OpenRow := PySem.W.OpenLaw.row PySem.Challenge.rw_makeskept_k53_parted_by_parts
/-- the addresses that the facts look at -/
def adr : List Nat := [3, 2, 365, 578, 920, 517, 810, 364, 577, 919, 516, 809, 21, 238, 245, 250, 376, 383, 390, 397, 404, 929, 936, 941, 948, 955, 962, 969, 976, 983, 990, 997, 1002, 1009, 1016, 1023, 1028, 1033, 1040, 1047, 1054, 1061, 1068, 1075, 1082, 1089, 1096, 1103, 1110, 1117, 1124, 264, 271, 278, 285, 292, 299, 306, 313, 320, 327, 341, 348, 355, 362, 535, 425, 432, 439, 446, 542, 460, 467, 472, 479, 563, 570, 500, 575, 549, 556, 594, 828, 835, 622, 849, 636, 868, 917, 657, 664, 669, 676, 683, 690, 697, 704, 711, 718, 725, 732, 739, 746, 760, 767, 774, 781, 861, 793, 800, 856, 875, 882, 418, 20, 237, 244, 249, 375, 382, 389, 396, 403, 928, 935, 940, 947, 954, 961, 968, 975, 982, 989, 996, 1001, 1008, 1015, 1022, 1027, 1032, 1039, 1046, 1053, 1060, 1067, 1074, 1081, 1088, 1095, 1102, 1109, 1116, 1123, 263, 270, 277, 284, 291, 298, 305, 312, 319, 326, 340, 347, 354, 361, 534, 424, 431, 438, 445, 541, 459, 466, 471, 478, 562, 569, 499, 574, 548, 555, 593, 827, 834, 621, 848, 635, 867, 916, 656, 663, 668, 675, 682, 689, 696, 703, 710, 717, 724, 731, 738, 745, 759, 766, 773, 780, 860, 792, 799, 855, 874, 881, 417]
def kOk (K : PySem.W.Frag) : Bool := bas.all (basOk K) && kitL.all (kitOk K)
/-- the facts of the defs, of what is called by its class, and of the classes asked -/
def hk : PySem.W.Hook where
  α := He.AlD × Bool
  obs := fun s => (He.obsD fa fn (He.frG s.heap.get? adr), kOk (He.frG s.heap.get? adr))
  val := fun _ => (He.valD fn, true)
  says := fun _ h => ∃ K : PySem.W.Frag, K.In h ∧ He.SaysD fa fn K ∧ kOk K = true
  of := fun _ _ e => ⟨_, He.frG_in, congrArg Prod.fst e, congrArg Prod.snd e⟩
  keeps := fun _ _ _ ⟨K, hK, c⟩ k => ⟨K, PySem.W.Frag.In.keeps hK k, c⟩
def ob (s : PySem.W.SharedT) : He.AlD × Bool := (He.obsD fa fn (He.frG (HandSHeadRun.getT s) adr), kOk (He.frG (HandSHeadRun.getT s) adr))
theorem ob_eq (s : PySem.W.SharedT) : ob s = hk.obs s.abs := by
  have e : HandSHeadRun.getT s = s.abs.heap.get? := funext (HandSHeadRun.getT_eq s)
  unfold ob
  rw [e] <;> rfl
theorem join3 {α β γ δ : Type} {x : Option α} {f : α → β} {g : α → γ} {h : α → δ} {b : β} {c : γ} {d : δ} (h1 : x.map f = some b) (h2 : x.map g = some c) (h3 : x.map h = some d) : x.map (fun s => (f s, g s, h s)) = some (b, c, d) := by
  cases x with
  | none => cases h1
  | some s =>
    have h1 := Option.some.inj h1
    have h2 := Option.some.inj h2
    have h3 := Option.some.inj h3
    show some (f s, g s, h s) = _
    rw [h1, h2, h3]
def loose0 : List PySem.Str := ["MakesError", "NoRow", "NoWorth", "NoPlace", "NoStretch", "NoMake", "NoPart", "NoNumber", "NoWay", "TooMany", "Alone", "Parts", "MakeTree", "LeapTree", "Rows", "Copied", "_wall", "is_whole", "is_worth", "is_worths", "laid_down", "built", "half_of", "way_down", "put_down", "need_rows", "need_makes", "touched", "unlike_places", "parted"]
def loose1 : List PySem.Str := ["halves_pairs", "parted_by_parts", "_law_cell", "_law_box", "_law_take", "_law_worth", "_law_worths", "_law_model", "_law_writer", "_law_value", "_law_line_of", "_law_kept", "_law_picked", "_law_grown", "_law_line", "_law_path", "_law_drawn", "_law_gone", "_law_put", "_law_nearest", "_law_due", "_law_last", "_law_pairs", "_law_right", "MOST_PLACES", "MOST_MAKES"]
def loose : List PySem.Str := loose0 ++ loose1
noncomputable abbrev endS (w : World) (os : OsState) : Option PySem.W.SharedT := HandSHeadRun.endF (HandSHeadRun.stepQ (HandSHeadRun.denQ HandSHeadRun.tabQ) R.prog w) 9500 R.prog w os
open PySem.W PySem.Calls HandSHeadRun
theorem run_a (w : World) (os : OsState) : (endS w os).map (fun s => looksF R.prog (boot_heap w.params) s.abs) = some true := by
  kernel_rfl
theorem run_b (w : World) (os : OsState) : (endS w os).map (fun s => seenQ (PySem.W.view R.prog [65]) loose (importedModules R.prog.main.body) (fun s => xlAt (PySem.W.view R.prog [65]) [] s && recOk R.toRowW.records s) s.abs) = some (openGood (PySem.W.view R.prog [65]) loose) := by
  kernel_rfl
theorem run_c (w : World) (os : OsState) : (endS w os).map ob = some (hk.val w) := by
  kernel_rfl
theorem run (w : World) : HandSHeadRun.RunEq R (PySem.W.view R.prog [65]) hk ob 9500 loose w := fun os => join3 (run_a w os) (run_b w os) (run_c w os)

end Mk
namespace Mk
open L2 PySem PySem.Spec PyProof.Rows
local macro_rules | `(tactic| walk_at "hz.cn") => `(tactic| first | (exact Or.inl ⟨by decide, by decide⟩) | (exact Or.inr ⟨by decide, by decide⟩) | (exact ⟨by decide, by decide, by decide⟩) | ((try dsimp only); omega) | (exact Or.inl ⟨by omega, by omega⟩) | (exact Or.inr ⟨by omega, by omega⟩) | (exact ⟨by decide, by decide, by omega⟩))
local macro_rules | `(tactic| walk_at "hz.lm") => `(tactic| first | (with_reducible exact lm_f) | (with_reducible exact lm_o) | (with_reducible exact lm_wr) | (with_reducible exact lm_wo) | (with_reducible exact lm_gn))
local macro_rules | `(tactic| walk_at "hz.at") => `(tactic| first | assumption | (with_reducible exact At.here) | ((with_reducible refine At.next ?_); walk_at "hz.at"))
local macro_rules | `(tactic| walk_at "hz.put") => `(tactic| first | (with_reducible exact Put.here) | ((with_reducible apply Put.next); (· (walk_at "hz.put"))))
local macro_rules | `(tactic| walk_at "hz.take") => `(tactic| first | (with_reducible exact Take.here) | ((with_reducible apply Take.next); (· (walk_at "hz.take"))))
local macro_rules | `(tactic| walk_at "hz.hp") => `(tactic| first | assumption | (apply HB.at; (· assumption); (· (walk_at "hz.at"))))
local macro_rules | `(tactic| walk_at "hz.sub") => `(tactic| first | (with_reducible exact Sub.refl) | ((with_reducible apply Sub.cons); (· (walk_at "hz.take")); (· (walk_at "hz.sub"))) | ((with_reducible apply Sub.drop); (· (walk_at "hz.sub"))))
local macro_rules | `(tactic| walk_at "hz.mem") => `(tactic| first | (with_reducible exact List.mem_cons_self) | ((with_reducible refine List.mem_cons_of_mem _ ?_); walk_at "hz.mem"))
local macro_rules | `(tactic| walk_at "hz.pf") => `(tactic| first | (with_reducible exact putF_nil) | (with_reducible exact putF_hit) | ((with_reducible apply putF_skip); (· exact rfl); (· (walk_at "hz.pf"))))
local macro_rules | `(tactic| walk_at "hz.ix") => `(tactic| first | (with_reducible exact atI_c0) | (with_reducible exact atI_c1) | (with_reducible exact atI_c2) | (with_reducible exact atI_c3) | (with_reducible exact atI_c4) | ((with_reducible apply atI_dv); (· omega)) | ((with_reducible apply atI_lv); (· omega)) | (with_reducible exact fdl_last) | (with_reducible exact upl_last) | (with_reducible exact atI_last _ _) | assumption | ((with_reducible apply atI_wv); (· omega); (· omega)) | ((with_reducible apply atI_ovp); (· omega); (· omega)) | ((with_reducible apply atI_vv); (· omega); (· omega)) | ((with_reducible apply atI_nat); (· exact rfl)))
local macro_rules | `(tactic| walk_at "hz.st") => `(tactic| ((try dsimp only [cxOf, Cx.nox, Cx.wish]); apply r_start; · (simp only [L2.start, List.map_cons, List.map_nil, List.length_cons, List.length_nil, Nat.reduceAdd, Nat.reduceSub, List.replicate_succ, List.replicate_zero, List.cons_append, List.nil_append, List.append_nil]; exact rfl)))
local macro_rules | `(tactic| walk_at "hz.s") => `(tactic| first
  | ((with_reducible apply r_var); (· exact rfl))
  | (with_reducible refine r_c ?_)
  | (with_reducible refine r_seq ?_)
  | ((with_reducible apply r_aug); (· exact rfl))
  | (with_reducible refine r_ipI ?_)
  | (with_reducible refine r_asg ?_)
  | ((with_reducible apply r_name); (· ((try simp only [List.map_cons, List.map_nil, L2.wipe, List.set_cons_zero, List.set_cons_succ]); exact rfl)))
  | (with_reducible refine r_op ?_)
  | (with_reducible refine r_I0 ?_)
  | (with_reducible refine r_cons ?_)
  | (with_reducible refine r_nil ?_)
  | (with_reducible refine r_call ?_)
  | (with_reducible refine r_fld ?_)
  | ((with_reducible apply r_fld1); (· (walk_at "hz.hp")); (· exact rfl))
  | (with_reducible refine r_meth ?_)
  | ((with_reducible apply r_meth1); (· (walk_at "hz.hp")); (· exact rfl))
  | ((with_reducible apply r_meth1e); (· (walk_at "hz.hp")); (· assumption); (· exact rfl))
  | ((with_reducible apply row_rcv); (· assumption); (· assumption); (· (walk_at "hz.mem")); (· exact rfl))
  | ((with_reducible apply parts_rcv); (· assumption); (· assumption); (· (walk_at "hz.mem")); (· exact rfl))
  | ((with_reducible apply tree_rcv); (· assumption); (· assumption); (· (walk_at "hz.mem")); (· exact rfl))
  | (with_reducible refine r_drop ?_)
  | (with_reducible refine r_ret ?_)
  | (with_reducible refine r_ifS ?_)
  | (with_reducible refine r_test ?_)
  | (with_reducible refine r_B ?_)
  | (with_reducible refine r_bl ?_)
  | (with_reducible refine r_eqI ?_)
  | (with_reducible refine r_neI ?_)
  | (with_reducible refine r_not ?_)
  | (with_reducible refine r_and ?_)
  | (with_reducible refine r_or ?_)
  | (with_reducible refine r_cb ?_)
  | (with_reducible refine r_next ?_)
  | ((with_reducible apply r_ixL); (· (apply SqL.of; walk_at "hz.hp")); (· (walk_at "hz.ix")))
  | ((with_reducible apply r_ixL); (· (apply SqL.of; walk_at "hz.hp")))
  | (with_reducible refine r_int ?_)
  | (with_reducible refine r_tup ?_)
  | (with_reducible refine r_lst ?_)
  | (with_reducible refine r_sl ?_)
  | (with_reducible refine r_noP ?_)
  | (with_reducible refine r_part ?_)
  | (with_reducible refine r_bm ?_)
  | (with_reducible refine r_bm0 ?_)
  | ((with_reducible apply r_tyL); (· (apply SqL.of; walk_at "hz.hp")))
  | (with_reducible refine r_shr ?_)
  | (with_reducible refine r_odd ?_)
  | (with_reducible refine r_isN1 ?_)
  | (with_reducible refine r_notN1 ?_)
  | (with_reducible refine r_par ?_)
  | (with_reducible refine r_par1 ?_)
  | (with_reducible refine r_nn ?_)
  | ((with_reducible apply r_I); (· exact ⟨by decide, by decide⟩))
  | ((with_reducible apply r_I); (· (walk_at "hz.cn")))
  | (with_reducible refine r_eqS ?_)
  | (with_reducible refine r_dget ?_)
  | ((with_reducible apply r_dget1); (· (walk_at "hz.hp")))
  | ((with_reducible apply r_dget1i); (· (walk_at "hz.hp")))
  | ((with_reducible apply r_dget1s); (· (walk_at "hz.hp")); (· (walk_at "hz.lm")))
  | ((with_reducible apply r_popL); (· assumption); (· (walk_at "hz.put")); intro _ _)
  | (with_reducible refine r_din ?_)
  | (with_reducible refine r_dnotin ?_)
  | ((with_reducible apply r_din1); (· (walk_at "hz.hp")))
  | (with_reducible refine r_dput ?_)
  | ((with_reducible apply r_dput1); (· assumption); (· (walk_at "hz.put")))
  | (with_reducible refine r_daug ?_)
  | ((with_reducible apply r_daug1); (· (walk_at "hz.hp")))
  | ((with_reducible apply r_daug2); (· assumption); (· (walk_at "hz.put")))
  | (with_reducible refine r_dpop ?_)
  | ((with_reducible apply r_dpop1); (· (walk_at "hz.hp")))
  | ((with_reducible apply r_dpop2); (· assumption); (· (walk_at "hz.put")))
  | (with_reducible refine r_dnew ?_)
  | (with_reducible refine r_gsub ?_)
  | ((with_reducible apply r_set0); (· assumption); (· (walk_at "hz.put")); intro _ _)
  | ((with_reducible apply r_set2); (· assumption); (· (walk_at "hz.put")); intro _ _)
  | ((with_reducible apply r_setLst); (· assumption); (· (walk_at "hz.put")))
  | (with_reducible refine r_disp ?_)
  | (with_reducible refine r_pnil ?_)
  | (with_reducible refine r_pcons ?_)
  | ((with_reducible apply r_inIv); (· (apply SqL.of; walk_at "hz.hp")))
  | (with_reducible refine r_un ?_)
  | (with_reducible refine r_rU ?_)
  | ((with_reducible apply r_append); (· assumption); (· (walk_at "hz.put")))
  | (with_reducible refine r_ifE ?_)
  | (with_reducible refine r_chain ?_)
  | (with_reducible refine r_retN ?_)
  | (with_reducible refine r_sfld ?_)
  | ((with_reducible apply r_sfld1); (· assumption); (· (walk_at "hz.put")); (· (walk_at "hz.pf")); (· (show _ < 1000; first | (simp; done) | (simp only [List.length_cons]; omega))); intro _ _)
  | (with_reducible refine r_saug ?_)
  | (with_reducible refine r_make ?_)
  | (with_reducible refine r_andV ?_)
  | (with_reducible refine r_orV ?_)
  | (with_reducible refine r_notV ?_)
  | ((with_reducible apply r_saug1); (· (walk_at "hz.hp")); (· exact rfl))
  | ((with_reducible apply r_saug2); (· assumption); (· (walk_at "hz.put")); (· (walk_at "hz.pf")); (· (show _ < 1000; first | (simp; done) | (simp only [List.length_cons]; omega))); intro _ _)
  | ((with_reducible apply r_new); (· assumption); intro _ _ _)
  | ((with_reducible apply r_mkR); (· assumption); intro _ _ _ _)
  | ((with_reducible apply r_mk); (· (exact sz100 (by simp))); (· assumption); intro _ _ _)
  | (with_reducible refine r_isII ?_)
  | (with_reducible refine r_for ?_)
  | ((with_reducible apply r_isLLT); (· (walk_at "hz.hp")); (· (walk_at "hz.hp")))
  | ((with_reducible apply r_lenRm); (· (apply SqL.of; walk_at "hz.hp")))
  | ((with_reducible apply r_lenIv); (· (apply SqL.of; walk_at "hz.hp")))
  | ((with_reducible apply r_lenL); (· (apply SqL.of; walk_at "hz.hp")))
  | ((with_reducible apply r_lenT); (· (apply SqT.of; walk_at "hz.hp")))
  | ((with_reducible apply r_lenD); (· (walk_at "hz.hp")))
  | ((with_reducible apply r_listL); (· (apply SqL.of; walk_at "hz.hp")); (· assumption); intro _ _ _)
  | ((with_reducible apply r_dictD); (· (walk_at "hz.hp")); (· assumption); intro _ _ _)
  | (with_reducible refine r_max2 ?_)
  | (with_reducible refine r_min2 ?_)
  | (with_reducible refine r_int1 ?_)
  | (with_reducible refine r_int1b ?_)
  | ((with_reducible apply r_slL); (· (apply SqL.of; walk_at "hz.hp")); (· assumption); intro _ _ _)
  | ((with_reducible apply r_reverse); (· assumption); (· (walk_at "hz.put")); intro _ _)
  | (with_reducible refine r_lc ?_)
  | (with_reducible refine r_iList ?_)
  | ((with_reducible apply r_iL1); (· (apply SqL.of; walk_at "hz.hp")))
  | (with_reducible refine r_iTup ?_)
  | ((with_reducible apply r_iT1); (· (apply SqT.of; walk_at "hz.hp")))
  | (with_reducible refine r_iEnum ?_)
  | ((with_reducible apply r_iE1); (· (apply SqL.of; walk_at "hz.hp")))
  | (with_reducible refine r_iR1 ?_)
  | (with_reducible refine r_iR2 ?_)
  | (with_reducible refine r_iRev ?_)
  | (with_reducible refine r_iRevA ?_)
  | ((with_reducible apply r_revL); (· (apply SqL.of; walk_at "hz.hp")))
  | (with_reducible refine r_rg1 ?_)
  | ((with_reducible apply r_gtup1); (· (apply SqT.of; walk_at "hz.hp")); (· exact rfl))
  | (with_reducible refine r_gcons ?_)
  | (with_reducible refine r_gnil ?_)
  | (with_reducible refine r_tYes ?_)
  | ((with_reducible refine r_wipe ?_ ?_); (· exact rfl))
  | ((with_reducible apply r_ixT); (· (apply SqT.of; walk_at "hz.hp")); (· exact rfl))
  | (with_reducible refine r_isIB ?_)
  | (with_reducible refine r_addI ?_)
  | (with_reducible refine r_subI ?_)
  | ((with_reducible refine r_yes ?_ ?_); (· exact rfl))
  | ((with_reducible refine r_no ?_ ?_); (· exact rfl)))
local macro_rules | `(tactic| walk_at "hz.g") => `(tactic| repeat (walk_at "hz.s"))

section
variable {P : Program} {w : World} {K : PySem.W.Frag} {mg : Str → Option Value} {base : Heap}
/-! D1: whole numbers, worths -/
def spWhole : Sp := fun vs H Q _ => ∃ i lo hi : Int, vs = [.int i, .int lo, .int hi] ∧ Q (.bl (decide (lo ≤ i ∧ i ≤ hi))) H
theorem r_whole {i lo hi : Int} {H : Hp} {Q : VK} {E : XK} (e : lo ≤ i ∧ i ≤ hi) (h : Q (.bl true) H) : spWhole [.int i, .int lo, .int hi] H Q E := ⟨i, lo, hi, rfl, by rw [decide_eq_true e]; exact h⟩
theorem r_wholeN {i lo hi : Int} {H : Hp} {Q : VK} {E : XK} (e : ¬ (lo ≤ i ∧ i ≤ hi)) (h : Q (.bl false) H) : spWhole [.int i, .int lo, .int hi] H Q E := ⟨i, lo, hi, rfl, by rw [decide_eq_false e]; exact h⟩
theorem maxW_eq : (10 : Int) ^ Int.toNat 30 - 1 = maxW := by decide +kernel
def spWorth : Sp := fun vs H Q _ => ∃ i : Int, vs = [.int i] ∧ Q (.bl (isW i)) H
theorem r_worth {i : Int} {H : Hp} {Q : VK} {E : XK} (e : isW i = true) (h : Q (.bl true) H) : spWorth [.int i] H Q E := ⟨i, rfl, by rw [e]; exact h⟩
/-- worths of a row, handed in as a list -/
def spWorths : Sp := fun vs H Q _ => ∃ (a : Addr) (ns : List Int) (Bs : List Blk), vs = [.ref a] ∧ HB H Bs ∧ At Bs a (.lst (ns.map V.int)) ∧ (1 ≤ ns.length ∧ ns.length ≤ 16 ∧ ∀ i ∈ ns, isW i = true) ∧ ∀ H', HB H' Bs → Q (.bl true) H'
theorem sc_is_whole : FnScope ["thing", "low", "high"] ["thing", "low", "high"] (defScope (top 15)) := ⟨rfl, rfl, rfl, by decide +kernel, rfl, by decide +kernel, by decide +kernel⟩
-- slots of is_whole: thing 0, low 1, high 2
theorem ok_is_whole (S : Sit P w K mg base) : CF P w K mg base CX0 "is_whole" ["thing", "low", "high"] 1 (spWhole) := by
  refine cf_is_whole S fun f fd F => F.ok sc_is_whole (fun vs H Q E h => ?_) (fun cdv A outer s H vs Q E hr h => ?_)
  · first | (obtain ⟨_, rfl, _⟩ := h; rfl) | (obtain ⟨_, _, rfl, _⟩ := h; rfl) | (obtain ⟨_, _, _, rfl, _⟩ := h; rfl) | (obtain ⟨_, _, _, _, rfl, _⟩ := h; rfl) | (obtain ⟨_, _, _, _, _, rfl, _⟩ := h; rfl) | (obtain ⟨_, _, _, _, _, _, rfl, _⟩ := h; rfl) | (obtain ⟨_, _, _, _, _, _, _, rfl, _⟩ := h; rfl) | (obtain ⟨_, _, _, _, _, _, _, _, rfl, _⟩ := h; rfl) | (obtain ⟨_, _, _, _, _, _, _, _, _, rfl, _⟩ := h; rfl) | (obtain ⟨_, _, _, _, _, _, _, _, _, _, rfl, _⟩ := h; rfl) | (obtain ⟨_, _, _, _, _, _, _, _, _, _, _, rfl, _⟩ := h; rfl) | (obtain ⟨_, _, _, _, _, _, _, _, _, _, _, _, rfl, _⟩ := h; rfl) | (obtain ⟨_, _, _, _, _, _, _, _, _, _, _, _, _, rfl, _⟩ := h; rfl) | (obtain ⟨_, _, _, _, _, _, _, _, _, _, _, _, _, _, rfl, _⟩ := h; rfl) | (obtain ⟨_, _, _, _, _, _, _, _, _, _, _, _, _, _, _, rfl, _⟩ := h; rfl) | (obtain ⟨_, _, _, _, _, _, _, _, _, _, _, _, _, _, _, _, rfl, _⟩ := h; rfl) | (obtain ⟨_, _, _, _, _, _, _, _, _, _, _, _, _, _, _, _, _, rfl, _⟩ := h; rfl) | (obtain ⟨_, _, _, _, _, _, _, _, _, _, _, _, _, _, _, _, _, _, rfl, _⟩ := h; rfl) | (obtain ⟨_, _, _, _, _, _, _, _, _, _, _, _, _, _, _, _, _, _, _, rfl, _⟩ := h; rfl) | (obtain ⟨_, _, _, _, _, _, _, _, _, _, _, _, _, _, _, _, _, _, _, _, rfl, _⟩ := h; rfl) | (obtain ⟨_, _, _, _, _, _, _, _, _, _, _, _, _, _, _, _, _, _, _, _, _, rfl, _⟩ := h; rfl)
  obtain ⟨i, lo, hi, rfl, k⟩ := h
  refine ⟨_, PSs.nox (pss_one (ps_ret (pe_and (pe_callB (call_isiK (K := K) rfl) (by rfl) (fr_isinstance S) bt_isinstance (pa_cons (pv 0) (pa_cons (pe_bltn (v := .ty "int") (u := .type "int") rfl (fr_int S) bt_int rfl) pa_nil))) (pe_and (pe_not (pe_callB (call_isiK (K := K) rfl) (by rfl) (fr_isinstance S) bt_isinstance (pa_cons (pv 0) (pa_cons (pe_bltn (v := .ty "bool") (u := .type "bool") rfl (fr_bool S) bt_bool rfl) pa_nil)))) (pe_one (pe_chain op_le op_le (pv 1) (pv 0) (pv 2))))))), ?_⟩
  walk_at "hz.st"
  walk_at "hz.g"
  refine r_two (fun h1 => ?_) (fun h1 => ?_)
  · walk_at "hz.g"
    have e : decide (lo ≤ i ∧ i ≤ hi) = decide (i ≤ hi) := by
      have := of_decide_eq_true h1
      simp [this]
    rw [e] at k
    exact k
  · have e : decide (lo ≤ i ∧ i ≤ hi) = false := by
      have := of_decide_eq_false h1
      simp [this]
    rw [e] at k
    exact k
theorem sc_is_worth : FnScope ["thing", "most"] ["thing"] (defScope (top 16)) := ⟨rfl, rfl, rfl, by decide +kernel, rfl, by decide +kernel, by decide +kernel⟩
-- slots of is_worth: thing 0, most 1
theorem ok_is_worth (S : Sit P w K mg base) : CF P w K mg base CX0 "is_worth" ["thing"] 2 (spWorth) := by
  refine cf_is_worth S fun f fd F => F.ok sc_is_worth (fun vs H Q E h => ?_) (fun cdv A outer s H vs Q E hr h => ?_)
  · first | (obtain ⟨_, rfl, _⟩ := h; rfl) | (obtain ⟨_, _, rfl, _⟩ := h; rfl) | (obtain ⟨_, _, _, rfl, _⟩ := h; rfl) | (obtain ⟨_, _, _, _, rfl, _⟩ := h; rfl) | (obtain ⟨_, _, _, _, _, rfl, _⟩ := h; rfl) | (obtain ⟨_, _, _, _, _, _, rfl, _⟩ := h; rfl) | (obtain ⟨_, _, _, _, _, _, _, rfl, _⟩ := h; rfl) | (obtain ⟨_, _, _, _, _, _, _, _, rfl, _⟩ := h; rfl) | (obtain ⟨_, _, _, _, _, _, _, _, _, rfl, _⟩ := h; rfl) | (obtain ⟨_, _, _, _, _, _, _, _, _, _, rfl, _⟩ := h; rfl) | (obtain ⟨_, _, _, _, _, _, _, _, _, _, _, rfl, _⟩ := h; rfl) | (obtain ⟨_, _, _, _, _, _, _, _, _, _, _, _, rfl, _⟩ := h; rfl) | (obtain ⟨_, _, _, _, _, _, _, _, _, _, _, _, _, rfl, _⟩ := h; rfl) | (obtain ⟨_, _, _, _, _, _, _, _, _, _, _, _, _, _, rfl, _⟩ := h; rfl) | (obtain ⟨_, _, _, _, _, _, _, _, _, _, _, _, _, _, _, rfl, _⟩ := h; rfl) | (obtain ⟨_, _, _, _, _, _, _, _, _, _, _, _, _, _, _, _, rfl, _⟩ := h; rfl) | (obtain ⟨_, _, _, _, _, _, _, _, _, _, _, _, _, _, _, _, _, rfl, _⟩ := h; rfl) | (obtain ⟨_, _, _, _, _, _, _, _, _, _, _, _, _, _, _, _, _, _, rfl, _⟩ := h; rfl) | (obtain ⟨_, _, _, _, _, _, _, _, _, _, _, _, _, _, _, _, _, _, _, rfl, _⟩ := h; rfl) | (obtain ⟨_, _, _, _, _, _, _, _, _, _, _, _, _, _, _, _, _, _, _, _, rfl, _⟩ := h; rfl) | (obtain ⟨_, _, _, _, _, _, _, _, _, _, _, _, _, _, _, _, _, _, _, _, _, rfl, _⟩ := h; rfl)
  obtain ⟨i, rfl, k⟩ := h
  refine ⟨_, PSs.nox (pss_cons (ps_set (i := 1) sc_is_worth.nd rfl (Or.inl rfl) (pe_op op_sub (pe_op op_pow pe_int pe_int) pe_int))
      (pss_one (ps_ret (pe_callC (ok_is_whole S) (hr.mono (by decide)) (by rfl) pass0 (pa_cons (pv 0) (pa_cons (pe_op op_sub pe_int (pv 1)) (pa_cons (pv 1) pa_nil))))))), ?_⟩
  walk_at "hz.st"
  walk_at "hz.g"
  simp only [maxW_eq]
  exact ⟨_, _, _, rfl, k⟩
theorem sc_is_worths : FnScope ["thing", "worth"] ["thing"] (defScope (top 17)) := ⟨rfl, rfl, rfl, by decide +kernel, rfl, by decide +kernel, by decide +kernel⟩
-- slots of is_worths: thing 0, worth 1
theorem ok_is_worths (S : Sit P w K mg base) : CF P w K mg base CX0 "is_worths" ["thing"] 3 (spWorths) := by
  refine cf_is_worths S fun f fd F => F.ok sc_is_worths (fun vs H Q E h => ?_) (fun cdv A outer s H vs Q E hr h => ?_)
  · first | (obtain ⟨_, rfl, _⟩ := h; rfl) | (obtain ⟨_, _, rfl, _⟩ := h; rfl) | (obtain ⟨_, _, _, rfl, _⟩ := h; rfl) | (obtain ⟨_, _, _, _, rfl, _⟩ := h; rfl) | (obtain ⟨_, _, _, _, _, rfl, _⟩ := h; rfl) | (obtain ⟨_, _, _, _, _, _, rfl, _⟩ := h; rfl) | (obtain ⟨_, _, _, _, _, _, _, rfl, _⟩ := h; rfl) | (obtain ⟨_, _, _, _, _, _, _, _, rfl, _⟩ := h; rfl) | (obtain ⟨_, _, _, _, _, _, _, _, _, rfl, _⟩ := h; rfl) | (obtain ⟨_, _, _, _, _, _, _, _, _, _, rfl, _⟩ := h; rfl) | (obtain ⟨_, _, _, _, _, _, _, _, _, _, _, rfl, _⟩ := h; rfl) | (obtain ⟨_, _, _, _, _, _, _, _, _, _, _, _, rfl, _⟩ := h; rfl) | (obtain ⟨_, _, _, _, _, _, _, _, _, _, _, _, _, rfl, _⟩ := h; rfl) | (obtain ⟨_, _, _, _, _, _, _, _, _, _, _, _, _, _, rfl, _⟩ := h; rfl) | (obtain ⟨_, _, _, _, _, _, _, _, _, _, _, _, _, _, _, rfl, _⟩ := h; rfl) | (obtain ⟨_, _, _, _, _, _, _, _, _, _, _, _, _, _, _, _, rfl, _⟩ := h; rfl) | (obtain ⟨_, _, _, _, _, _, _, _, _, _, _, _, _, _, _, _, _, rfl, _⟩ := h; rfl) | (obtain ⟨_, _, _, _, _, _, _, _, _, _, _, _, _, _, _, _, _, _, rfl, _⟩ := h; rfl) | (obtain ⟨_, _, _, _, _, _, _, _, _, _, _, _, _, _, _, _, _, _, _, rfl, _⟩ := h; rfl) | (obtain ⟨_, _, _, _, _, _, _, _, _, _, _, _, _, _, _, _, _, _, _, _, rfl, _⟩ := h; rfl) | (obtain ⟨_, _, _, _, _, _, _, _, _, _, _, _, _, _, _, _, _, _, _, _, _, rfl, _⟩ := h; rfl)
  obtain ⟨a, ns, Bs, rfl, hb, ha, ⟨h1, h2, h3⟩, k⟩ := h
  refine ⟨_, PSs.nox (pss_cons (ps_if (PW.pt (pw_or (pt_not (pt_val (pe_callB (call_isiTK (K := K) rfl) (by rfl) (fr_isinstance S) bt_isinstance (pa_cons (pv 0) (pa_cons (pe_tup (pa_cons (pe_bltn (v := .ty "list") (u := .type "list") rfl (fr_list S) bt_list rfl) (pa_cons (pe_bltn (v := .ty "tuple") (u := .type "tuple") rfl (fr_tuple S) bt_tuple rfl) pa_nil))) pa_nil))))) (pw_or1 (pt_not (pt_chain op_le op_le pe_int (pe_callB (call_lenK (K := K) rfl) (by rfl) (fr_len S) bt_len (pa_cons (pv 0) pa_nil)) (pe_ci (ci_MOST_PLACES S))))))) (pss_one (ps_ret pe_bl)) pss_nil)
      (pss_one (ps_ret (pe_callB (cr_allK (K := K) rfl rfl) (by rfl) (fr_all S) bt_all (pa_cons (pe_lc (own := [("worth", 1)]) rfl sc_is_worths.nd (pi_list (pv 0)) (blkOk_by (N := ["thing", "worth"]) (by kernel_rfl)) (fun _ _ _ _ _ => (pg_name (i := 1) sc_is_worths.nd rfl (Or.inl rfl))) (fun _ _ _ _ _ => pts_nil) (fun _ _ _ _ _ => (pe_callC (ok_is_worth S) (hr.mono (by decide)) (by rfl) pass0 (pa_cons (pv 1) pa_nil)))) pa_nil))))), ?_⟩
  walk_at "hz.st"
  walk_at "hz.g"
  refine r_yes (by simp; omega) ?_
  walk_at "hz.g"
  refine r_no (by simp; omega) ?_
  walk_at "hz.g"
  rename_i p H2 hb2
  refine lc_w walk_list hb2 (fun i D H => HB H ([(D, .lst ((List.replicate i true).map V.bl))] :: [(p, .tup [V.ty "list", V.ty "tuple"])] :: Bs)) (fun D H h => h) (fun i D H _ h => SqL.of (h.at (.next (.next ha)))) (fun i x D H H' hi h y => ?_) (fun D H h => ?_)
  · obtain ⟨rfl, hx⟩ := y
    rw [List.getElem?_map] at hx
    cases e : ns[i]? with
    | none => rw [e] at hx; cases hx
    | some z =>
      rw [e] at hx
      cases hx
      have hz := h3 z (List.mem_of_getElem? e)
      walk_at "hz.g"
      refine ⟨z, rfl, ?_⟩
      rw [hz]
      refine lc_put h .here (sz100' (by simp at hi; simp; omega)) fun H' h' => ?_
      rw [List.replicate_succ', List.map_append]
      exact h'
  · walk_at "hz.g"
    refine r_all (SqL.of (h.at .here)) ?_
    have e : (List.replicate (List.map V.int ns).length true).all id = true := by simp
    rw [e]
    exact k _ h.tail.tail

/-! D2: trees by leaps -/
abbrev CT (K : PySem.W.Frag) : Addr := He.ga K "LeapTree"
def spTreeInit0 (C : Addr) : Sp := fun vs H Q _ => ∃ (a dx : Addr) (Bs : List Blk), vs = [.ref a] ∧ HB H ([(a, .ins C dx [])] :: Bs) ∧
  ∀ o d H', HB H' ([(a, .ins C dx [("owners", .ref o), ("depths", .ref d)])] :: [(o, .lst [.non])] :: [(d, .lst [.int 0])] :: Bs) → Q .non H'
def spTreeInit (C : Addr) : Sp := fun vs H Q _ => ∃ (a dx : Addr) (Bs : List Blk), vs = [.ref a] ∧ HB H ([(a, .ins C dx [])] :: Bs) ∧
  ∀ b H', Tree C a [] b → HB H' (b :: Bs) → Q .non H'
def spNeedMake (C : Addr) : Sp := fun vs H Q _ => ∃ (a : Addr) (T : Tre) (b : Blk) (m : Nat) (L : List Blk), vs = [.ref a, .int m] ∧ HB H (b :: L) ∧ Tree C a T b ∧ m ≤ T.length ∧ ∀ H', HB H' (b :: L) → Q .non H'
def spNeedSteps (C : Addr) : Sp := fun vs H Q _ => ∃ (a : Addr) (T : Tre) (b : Blk) (m k : Nat) (L : List Blk), vs = [.ref a, .int m, .int k] ∧ HB H (b :: L) ∧ Tree C a T b ∧ m ≤ T.length ∧ k ≤ dep T m ∧ ∀ H', HB H' (b :: L) → Q .non H'
def spMany (C : Addr) : Sp := fun vs H Q _ => ∃ (a : Addr) (T : Tre) (b : Blk) (L : List Blk), vs = [.ref a] ∧ HB H (b :: L) ∧ Tree C a T b ∧ ∀ H', HB H' (b :: L) → Q (.int ((T.length : Int) + 1)) H'
def spLay (C : Addr) : Sp := fun vs H Q _ => ∃ (a dx o d l : Addr) (g : Nat → Addr) (T : Tre) (x : Nat) (L : List Blk), vs = [.ref a, .int x] ∧ HB H ([(a, .ins C dx (treeF o d l))] :: [(d, .lst (rm (T.length + 1) (dv T)))] :: [(l, .lst (rm (T.length + 1) (lv g)))] :: rc (T.length + 1) g (lo T) :: L) ∧
  TreG T ∧ x ≤ T.length ∧ ∀ p H', HB H' ([(a, .ins C dx (treeF o d l))] :: [(d, .lst (rm ((T ++ [x]).length + 1) (dv (T ++ [x]))))] :: [(l, .lst (rm ((T ++ [x]).length + 1) (lv (fset g (T.length + 1) p))))] :: rc ((T ++ [x]).length + 1) (fset g (T.length + 1) p) (lo (T ++ [x])) :: L) → Q .non H'
def spGrow (C : Addr) : Sp := fun vs H Q _ => ∃ (a : Addr) (T : Tre) (b : Blk) (x : Nat) (L : List Blk), vs = [.ref a, .int x] ∧ HB H (b :: L) ∧ Tree C a T b ∧ x ≤ T.length ∧ T.length < 63 ∧ ∀ b' H', Tree C a (T ++ [x]) b' → HB H' (b' :: L) → Q (.int ((T.length : Int) + 1)) H'
def spOwn (C : Addr) : Sp := fun vs H Q _ => ∃ (a : Addr) (T : Tre) (b : Blk) (m : Nat) (L : List Blk), vs = [.ref a, .int m] ∧ HB H (b :: L) ∧ Tree C a T b ∧ m ≤ T.length ∧ ∀ H', HB H' (b :: L) → Q (ov T m) H'
theorem sc_MakeTree___init__ : FnScope ["self"] ["self"] (defScope (inClass (top 27) 0)) := ⟨rfl, rfl, rfl, by decide +kernel, rfl, by decide +kernel, by decide +kernel⟩
-- slots of MakeTree.__init__: self 0
theorem ok_b_MakeTree___init__ (S : Sit P w K mg base) : BF P w K mg base CX0 "MakeTree" (He.ga K "MakeTree") "__init__" ["self"] 1 (spTreeInit0 (CT K)) := by
  refine bf_MakeTree___init__ S fun f fd F => F.ok sc_MakeTree___init__ (fun vs H Q E h => ?_) (fun cdv A outer s H vs Q E hr h => ?_)
  · first | (obtain ⟨_, rfl, _⟩ := h; rfl) | (obtain ⟨_, _, rfl, _⟩ := h; rfl) | (obtain ⟨_, _, _, rfl, _⟩ := h; rfl) | (obtain ⟨_, _, _, _, rfl, _⟩ := h; rfl) | (obtain ⟨_, _, _, _, _, rfl, _⟩ := h; rfl) | (obtain ⟨_, _, _, _, _, _, rfl, _⟩ := h; rfl) | (obtain ⟨_, _, _, _, _, _, _, rfl, _⟩ := h; rfl) | (obtain ⟨_, _, _, _, _, _, _, _, rfl, _⟩ := h; rfl) | (obtain ⟨_, _, _, _, _, _, _, _, _, rfl, _⟩ := h; rfl) | (obtain ⟨_, _, _, _, _, _, _, _, _, _, rfl, _⟩ := h; rfl) | (obtain ⟨_, _, _, _, _, _, _, _, _, _, _, rfl, _⟩ := h; rfl) | (obtain ⟨_, _, _, _, _, _, _, _, _, _, _, _, rfl, _⟩ := h; rfl) | (obtain ⟨_, _, _, _, _, _, _, _, _, _, _, _, _, rfl, _⟩ := h; rfl) | (obtain ⟨_, _, _, _, _, _, _, _, _, _, _, _, _, _, rfl, _⟩ := h; rfl) | (obtain ⟨_, _, _, _, _, _, _, _, _, _, _, _, _, _, _, rfl, _⟩ := h; rfl) | (obtain ⟨_, _, _, _, _, _, _, _, _, _, _, _, _, _, _, _, rfl, _⟩ := h; rfl) | (obtain ⟨_, _, _, _, _, _, _, _, _, _, _, _, _, _, _, _, _, rfl, _⟩ := h; rfl) | (obtain ⟨_, _, _, _, _, _, _, _, _, _, _, _, _, _, _, _, _, _, rfl, _⟩ := h; rfl) | (obtain ⟨_, _, _, _, _, _, _, _, _, _, _, _, _, _, _, _, _, _, _, rfl, _⟩ := h; rfl) | (obtain ⟨_, _, _, _, _, _, _, _, _, _, _, _, _, _, _, _, _, _, _, _, rfl, _⟩ := h; rfl) | (obtain ⟨_, _, _, _, _, _, _, _, _, _, _, _, _, _, _, _, _, _, _, _, _, rfl, _⟩ := h; rfl)
  obtain ⟨a, dx, Bs, rfl, hb, k⟩ := h
  refine ⟨_, PSs.nox (pss_cons (ps_fldC (cls_LeapTree S) (na_LeapTree_owners S) (pv 0) (pe_lst (pa_cons pe_non pa_nil)))
      (pss_one (ps_fldC (cls_LeapTree S) (na_LeapTree_depths S) (pv 0) (pe_lst (pa_cons pe_int pa_nil))))), ?_⟩
  walk_at "hz.st"
  walk_at "hz.g"
  rename_i H' h'
  exact k _ _ _ (h'.sub_of (by walk_at "hz.sub"))
theorem sc_LeapTree___init__ : FnScope ["self"] ["self"] (defScope (inClass (top 29) 0)) := ⟨rfl, rfl, rfl, by decide +kernel, rfl, by decide +kernel, by decide +kernel⟩
-- slots of LeapTree.__init__: self 0
theorem ok_LeapTree (S : Sit P w K mg base) : KF P w K mg base CX0 "LeapTree" (He.ga K "LeapTree") ["self"] 2 (spTreeInit (CT K)) := by
  refine kf_LeapTree S fun f fd F => F.ok sc_LeapTree___init__ (fun vs H Q E h => ?_) (fun cdv A outer s H vs Q E hr h => ?_)
  · first | (obtain ⟨_, rfl, _⟩ := h; rfl) | (obtain ⟨_, _, rfl, _⟩ := h; rfl) | (obtain ⟨_, _, _, rfl, _⟩ := h; rfl) | (obtain ⟨_, _, _, _, rfl, _⟩ := h; rfl) | (obtain ⟨_, _, _, _, _, rfl, _⟩ := h; rfl) | (obtain ⟨_, _, _, _, _, _, rfl, _⟩ := h; rfl) | (obtain ⟨_, _, _, _, _, _, _, rfl, _⟩ := h; rfl) | (obtain ⟨_, _, _, _, _, _, _, _, rfl, _⟩ := h; rfl) | (obtain ⟨_, _, _, _, _, _, _, _, _, rfl, _⟩ := h; rfl) | (obtain ⟨_, _, _, _, _, _, _, _, _, _, rfl, _⟩ := h; rfl) | (obtain ⟨_, _, _, _, _, _, _, _, _, _, _, rfl, _⟩ := h; rfl) | (obtain ⟨_, _, _, _, _, _, _, _, _, _, _, _, rfl, _⟩ := h; rfl) | (obtain ⟨_, _, _, _, _, _, _, _, _, _, _, _, _, rfl, _⟩ := h; rfl) | (obtain ⟨_, _, _, _, _, _, _, _, _, _, _, _, _, _, rfl, _⟩ := h; rfl) | (obtain ⟨_, _, _, _, _, _, _, _, _, _, _, _, _, _, _, rfl, _⟩ := h; rfl) | (obtain ⟨_, _, _, _, _, _, _, _, _, _, _, _, _, _, _, _, rfl, _⟩ := h; rfl) | (obtain ⟨_, _, _, _, _, _, _, _, _, _, _, _, _, _, _, _, _, rfl, _⟩ := h; rfl) | (obtain ⟨_, _, _, _, _, _, _, _, _, _, _, _, _, _, _, _, _, _, rfl, _⟩ := h; rfl) | (obtain ⟨_, _, _, _, _, _, _, _, _, _, _, _, _, _, _, _, _, _, _, rfl, _⟩ := h; rfl) | (obtain ⟨_, _, _, _, _, _, _, _, _, _, _, _, _, _, _, _, _, _, _, _, rfl, _⟩ := h; rfl) | (obtain ⟨_, _, _, _, _, _, _, _, _, _, _, _, _, _, _, _, _, _, _, _, _, rfl, _⟩ := h; rfl)
  obtain ⟨a, dx, Bs, rfl, hb, k⟩ := h
  refine ⟨_, PSs.nox (pss_cons (ps_expr (pe_base (ok_b_MakeTree___init__ S) (hr.mono (by decide)) (by rfl) pass0 (pa_cons (pv 0) pa_nil)))
      (pss_one (ps_fldC (cls_LeapTree S) (na_LeapTree_leaping S) (pv 0) (pe_lst (pa_cons (pe_lst pa_nil) pa_nil))))), ?_⟩
  walk_at "hz.st"
  walk_at "hz.g"
  refine ⟨_, _, _, rfl, hb, fun o d H1 h1 => ?_⟩
  walk_at "hz.g"
  rename_i p2 H2 h2 p3 H3 h3 H' h'
  refine k _ _ ⟨⟨fun i hi => by simp at hi, by decide⟩, dx, o, d, p3, fun _ => p2, rfl⟩ ?_
  exact tree_new (h'.sub_of (by walk_at "hz.sub"))
theorem sc_MakeTree_need_make : FnScope ["self", "make"] ["self", "make"] (defScope (inClass (top 27) 2)) := ⟨rfl, rfl, rfl, by decide +kernel, rfl, by decide +kernel, by decide +kernel⟩
-- slots of MakeTree.need_make: self 0, make 1
theorem ok_LeapTree_need_make (S : Sit P w K mg base) : MF P w K mg base CX0 (He.ga K "LeapTree") "need_make" ["self", "make"] 2 (spNeedMake (CT K)) := by
  refine mf_LeapTree_need_make S fun f fd F => F.ok sc_MakeTree_need_make (fun vs H Q E h => ?_) (fun cdv A outer s H vs Q E hr h => ?_)
  · first | (obtain ⟨_, rfl, _⟩ := h; rfl) | (obtain ⟨_, _, rfl, _⟩ := h; rfl) | (obtain ⟨_, _, _, rfl, _⟩ := h; rfl) | (obtain ⟨_, _, _, _, rfl, _⟩ := h; rfl) | (obtain ⟨_, _, _, _, _, rfl, _⟩ := h; rfl) | (obtain ⟨_, _, _, _, _, _, rfl, _⟩ := h; rfl) | (obtain ⟨_, _, _, _, _, _, _, rfl, _⟩ := h; rfl) | (obtain ⟨_, _, _, _, _, _, _, _, rfl, _⟩ := h; rfl) | (obtain ⟨_, _, _, _, _, _, _, _, _, rfl, _⟩ := h; rfl) | (obtain ⟨_, _, _, _, _, _, _, _, _, _, rfl, _⟩ := h; rfl) | (obtain ⟨_, _, _, _, _, _, _, _, _, _, _, rfl, _⟩ := h; rfl) | (obtain ⟨_, _, _, _, _, _, _, _, _, _, _, _, rfl, _⟩ := h; rfl) | (obtain ⟨_, _, _, _, _, _, _, _, _, _, _, _, _, rfl, _⟩ := h; rfl) | (obtain ⟨_, _, _, _, _, _, _, _, _, _, _, _, _, _, rfl, _⟩ := h; rfl) | (obtain ⟨_, _, _, _, _, _, _, _, _, _, _, _, _, _, _, rfl, _⟩ := h; rfl) | (obtain ⟨_, _, _, _, _, _, _, _, _, _, _, _, _, _, _, _, rfl, _⟩ := h; rfl) | (obtain ⟨_, _, _, _, _, _, _, _, _, _, _, _, _, _, _, _, _, rfl, _⟩ := h; rfl) | (obtain ⟨_, _, _, _, _, _, _, _, _, _, _, _, _, _, _, _, _, _, rfl, _⟩ := h; rfl) | (obtain ⟨_, _, _, _, _, _, _, _, _, _, _, _, _, _, _, _, _, _, _, rfl, _⟩ := h; rfl) | (obtain ⟨_, _, _, _, _, _, _, _, _, _, _, _, _, _, _, _, _, _, _, _, rfl, _⟩ := h; rfl) | (obtain ⟨_, _, _, _, _, _, _, _, _, _, _, _, _, _, _, _, _, _, _, _, _, rfl, _⟩ := h; rfl)
  obtain ⟨a, T, b, m, L, rfl, hb, ⟨hT, dx, o, d, l, g, rfl⟩, hm, k⟩ := h
  replace hb := tree_open hb
  refine ⟨_, PSs.nox (pss_one (ps_if (pt_not (pt_val (pe_callC (ok_is_whole S) (hr.mono (by decide)) (by rfl) pass0 (pa_cons (pv 1) (pa_cons pe_int (pa_cons (pe_op op_sub (pe_callB (call_lenK (K := K) rfl) (by rfl) (fr_len S) bt_len (pa_cons (pe_fldC (cls_LeapTree S) (na_LeapTree_owners S) (pv 0)) pa_nil)) pe_int) pa_nil)))))) (pss_one ps_never) pss_nil)), ?_⟩
  walk_at "hz.st"
  walk_at "hz.g"
  refine r_whole (by omega) ?_
  walk_at "hz.g"
  exact k _ hb
theorem sc_MakeTree_need_steps : FnScope ["self", "make", "steps"] ["self", "make", "steps"] (defScope (inClass (top 27) 3)) := ⟨rfl, rfl, rfl, by decide +kernel, rfl, by decide +kernel, by decide +kernel⟩
-- slots of MakeTree.need_steps: self 0, make 1, steps 2
theorem ok_LeapTree_need_steps (S : Sit P w K mg base) : MF P w K mg base CX0 (He.ga K "LeapTree") "need_steps" ["self", "make", "steps"] 2 (spNeedSteps (CT K)) := by
  refine mf_LeapTree_need_steps S fun f fd F => F.ok sc_MakeTree_need_steps (fun vs H Q E h => ?_) (fun cdv A outer s H vs Q E hr h => ?_)
  · first | (obtain ⟨_, rfl, _⟩ := h; rfl) | (obtain ⟨_, _, rfl, _⟩ := h; rfl) | (obtain ⟨_, _, _, rfl, _⟩ := h; rfl) | (obtain ⟨_, _, _, _, rfl, _⟩ := h; rfl) | (obtain ⟨_, _, _, _, _, rfl, _⟩ := h; rfl) | (obtain ⟨_, _, _, _, _, _, rfl, _⟩ := h; rfl) | (obtain ⟨_, _, _, _, _, _, _, rfl, _⟩ := h; rfl) | (obtain ⟨_, _, _, _, _, _, _, _, rfl, _⟩ := h; rfl) | (obtain ⟨_, _, _, _, _, _, _, _, _, rfl, _⟩ := h; rfl) | (obtain ⟨_, _, _, _, _, _, _, _, _, _, rfl, _⟩ := h; rfl) | (obtain ⟨_, _, _, _, _, _, _, _, _, _, _, rfl, _⟩ := h; rfl) | (obtain ⟨_, _, _, _, _, _, _, _, _, _, _, _, rfl, _⟩ := h; rfl) | (obtain ⟨_, _, _, _, _, _, _, _, _, _, _, _, _, rfl, _⟩ := h; rfl) | (obtain ⟨_, _, _, _, _, _, _, _, _, _, _, _, _, _, rfl, _⟩ := h; rfl) | (obtain ⟨_, _, _, _, _, _, _, _, _, _, _, _, _, _, _, rfl, _⟩ := h; rfl) | (obtain ⟨_, _, _, _, _, _, _, _, _, _, _, _, _, _, _, _, rfl, _⟩ := h; rfl) | (obtain ⟨_, _, _, _, _, _, _, _, _, _, _, _, _, _, _, _, _, rfl, _⟩ := h; rfl) | (obtain ⟨_, _, _, _, _, _, _, _, _, _, _, _, _, _, _, _, _, _, rfl, _⟩ := h; rfl) | (obtain ⟨_, _, _, _, _, _, _, _, _, _, _, _, _, _, _, _, _, _, _, rfl, _⟩ := h; rfl) | (obtain ⟨_, _, _, _, _, _, _, _, _, _, _, _, _, _, _, _, _, _, _, _, rfl, _⟩ := h; rfl) | (obtain ⟨_, _, _, _, _, _, _, _, _, _, _, _, _, _, _, _, _, _, _, _, _, rfl, _⟩ := h; rfl)
  obtain ⟨a, T, b, m, j, L, rfl, hb, ⟨hT, dx, o, d, l, g, rfl⟩, hm, hj, k⟩ := h
  replace hb := tree_open hb
  refine ⟨_, PSs.nox (pss_one (ps_if (pt_not (pt_val (pe_callC (ok_is_whole S) (hr.mono (by decide)) (by rfl) pass0 (pa_cons (pv 2) (pa_cons pe_int (pa_cons (pe_ix (ix_listK (K := K) rfl) (pe_fldC (cls_LeapTree S) (na_LeapTree_depths S) (pv 0)) (pv 1) (fun _ _ => rfl)) pa_nil)))))) (pss_one ps_never) pss_nil)), ?_⟩
  walk_at "hz.st"
  walk_at "hz.g"
  refine r_whole (by omega) ?_
  walk_at "hz.g"
  exact k _ hb
theorem sc_MakeTree_many : FnScope ["self"] ["self"] (defScope (inClass (top 27) 1)) := ⟨rfl, rfl, rfl, by decide +kernel, rfl, by decide +kernel, by decide +kernel⟩
-- slots of MakeTree.many: self 0
theorem ok_LeapTree_many (S : Sit P w K mg base) : MF P w K mg base CX0 (He.ga K "LeapTree") "many" ["self"] 1 (spMany (CT K)) := by
  refine mf_LeapTree_many S fun f fd F => F.ok sc_MakeTree_many (fun vs H Q E h => ?_) (fun cdv A outer s H vs Q E hr h => ?_)
  · first | (obtain ⟨_, rfl, _⟩ := h; rfl) | (obtain ⟨_, _, rfl, _⟩ := h; rfl) | (obtain ⟨_, _, _, rfl, _⟩ := h; rfl) | (obtain ⟨_, _, _, _, rfl, _⟩ := h; rfl) | (obtain ⟨_, _, _, _, _, rfl, _⟩ := h; rfl) | (obtain ⟨_, _, _, _, _, _, rfl, _⟩ := h; rfl) | (obtain ⟨_, _, _, _, _, _, _, rfl, _⟩ := h; rfl) | (obtain ⟨_, _, _, _, _, _, _, _, rfl, _⟩ := h; rfl) | (obtain ⟨_, _, _, _, _, _, _, _, _, rfl, _⟩ := h; rfl) | (obtain ⟨_, _, _, _, _, _, _, _, _, _, rfl, _⟩ := h; rfl) | (obtain ⟨_, _, _, _, _, _, _, _, _, _, _, rfl, _⟩ := h; rfl) | (obtain ⟨_, _, _, _, _, _, _, _, _, _, _, _, rfl, _⟩ := h; rfl) | (obtain ⟨_, _, _, _, _, _, _, _, _, _, _, _, _, rfl, _⟩ := h; rfl) | (obtain ⟨_, _, _, _, _, _, _, _, _, _, _, _, _, _, rfl, _⟩ := h; rfl) | (obtain ⟨_, _, _, _, _, _, _, _, _, _, _, _, _, _, _, rfl, _⟩ := h; rfl) | (obtain ⟨_, _, _, _, _, _, _, _, _, _, _, _, _, _, _, _, rfl, _⟩ := h; rfl) | (obtain ⟨_, _, _, _, _, _, _, _, _, _, _, _, _, _, _, _, _, rfl, _⟩ := h; rfl) | (obtain ⟨_, _, _, _, _, _, _, _, _, _, _, _, _, _, _, _, _, _, rfl, _⟩ := h; rfl) | (obtain ⟨_, _, _, _, _, _, _, _, _, _, _, _, _, _, _, _, _, _, _, rfl, _⟩ := h; rfl) | (obtain ⟨_, _, _, _, _, _, _, _, _, _, _, _, _, _, _, _, _, _, _, _, rfl, _⟩ := h; rfl) | (obtain ⟨_, _, _, _, _, _, _, _, _, _, _, _, _, _, _, _, _, _, _, _, _, rfl, _⟩ := h; rfl)
  obtain ⟨a, T, b, L, rfl, hb, ⟨hT, dx, o, d, l, g, rfl⟩, k⟩ := h
  replace hb := tree_open hb
  refine ⟨_, PSs.nox (pss_one (ps_ret (pe_callB (call_lenK (K := K) rfl) (by rfl) (fr_len S) bt_len (pa_cons (pe_fldC (cls_LeapTree S) (na_LeapTree_owners S) (pv 0)) pa_nil)))), ?_⟩
  walk_at "hz.st"
  walk_at "hz.g"
  exact k _ hb
theorem sc_LeapTree_lay : FnScope ["self", "make", "found"] ["self", "make"] (defScope (inClass (top 29) 1)) := ⟨rfl, rfl, rfl, by decide +kernel, rfl, by decide +kernel, by decide +kernel⟩
-- slots of LeapTree.lay: self 0, make 1, found 2
theorem ok_LeapTree_lay (S : Sit P w K mg base) : MF P w K mg base CX0 (He.ga K "LeapTree") "lay" ["self", "make"] 1 (spLay (CT K)) := by
  refine mf_LeapTree_lay S fun f fd F => F.ok sc_LeapTree_lay (fun vs H Q E h => ?_) (fun cdv A outer s H vs Q E hr h => ?_)
  · first | (obtain ⟨_, rfl, _⟩ := h; rfl) | (obtain ⟨_, _, rfl, _⟩ := h; rfl) | (obtain ⟨_, _, _, rfl, _⟩ := h; rfl) | (obtain ⟨_, _, _, _, rfl, _⟩ := h; rfl) | (obtain ⟨_, _, _, _, _, rfl, _⟩ := h; rfl) | (obtain ⟨_, _, _, _, _, _, rfl, _⟩ := h; rfl) | (obtain ⟨_, _, _, _, _, _, _, rfl, _⟩ := h; rfl) | (obtain ⟨_, _, _, _, _, _, _, _, rfl, _⟩ := h; rfl) | (obtain ⟨_, _, _, _, _, _, _, _, _, rfl, _⟩ := h; rfl) | (obtain ⟨_, _, _, _, _, _, _, _, _, _, rfl, _⟩ := h; rfl) | (obtain ⟨_, _, _, _, _, _, _, _, _, _, _, rfl, _⟩ := h; rfl) | (obtain ⟨_, _, _, _, _, _, _, _, _, _, _, _, rfl, _⟩ := h; rfl) | (obtain ⟨_, _, _, _, _, _, _, _, _, _, _, _, _, rfl, _⟩ := h; rfl) | (obtain ⟨_, _, _, _, _, _, _, _, _, _, _, _, _, _, rfl, _⟩ := h; rfl) | (obtain ⟨_, _, _, _, _, _, _, _, _, _, _, _, _, _, _, rfl, _⟩ := h; rfl) | (obtain ⟨_, _, _, _, _, _, _, _, _, _, _, _, _, _, _, _, rfl, _⟩ := h; rfl) | (obtain ⟨_, _, _, _, _, _, _, _, _, _, _, _, _, _, _, _, _, rfl, _⟩ := h; rfl) | (obtain ⟨_, _, _, _, _, _, _, _, _, _, _, _, _, _, _, _, _, _, rfl, _⟩ := h; rfl) | (obtain ⟨_, _, _, _, _, _, _, _, _, _, _, _, _, _, _, _, _, _, _, rfl, _⟩ := h; rfl) | (obtain ⟨_, _, _, _, _, _, _, _, _, _, _, _, _, _, _, _, _, _, _, _, rfl, _⟩ := h; rfl) | (obtain ⟨_, _, _, _, _, _, _, _, _, _, _, _, _, _, _, _, _, _, _, _, _, rfl, _⟩ := h; rfl)
  obtain ⟨a, dx, o, d, l, g, T, x, L, rfl, hb, hT, hx, k⟩ := h
  have hd := dep_le (T := T) x
  have hl := hT.le
  refine ⟨_, PSs.nox (pss_cons (ps_expr (pe_bm PySem.F.plainAttrs_list PySem.F.slot_list_append PySem.F.type_list_append mt_append (pe_fldC (cls_LeapTree S) (na_LeapTree_depths S) (pv 0)) (pa_cons (pe_op op_add (pe_ix (ix_listK (K := K) rfl) (pe_fldC (cls_LeapTree S) (na_LeapTree_depths S) (pv 0)) (pv 1) (fun _ _ => rfl)) pe_int) pa_nil)))
      (pss_cons (ps_set (i := 2) sc_LeapTree_lay.nd rfl (Or.inl rfl) (pe_lst (pa_cons (pv 1) pa_nil)))
      (pss_cons (ps_while PassesOwn.never (pt_cmpR op_ge (pe_callB (call_lenK (K := K) rfl) (by rfl) (fr_len S) bt_len (pa_cons (pe_ix (ix_listK (K := K) rfl) (pe_fldC (cls_LeapTree S) (na_LeapTree_leaping S) (pv 0)) (pe_ix (ix_listK (K := K) rfl) (pv 2) (pe_un un_neg pe_int) (fun _ _ => rfl)) (fun _ _ => rfl)) pa_nil)) (pe_callB (call_lenK (K := K) rfl) (by rfl) (fr_len S) bt_len (pa_cons (pv 2) pa_nil)) (nomark _)) (pss_one (ps_expr (pe_bm PySem.F.plainAttrs_list PySem.F.slot_list_append PySem.F.type_list_append mt_append (pv 2) (pa_cons (pe_ix (ix_listK (K := K) rfl) (pe_ix (ix_listK (K := K) rfl) (pe_fldC (cls_LeapTree S) (na_LeapTree_leaping S) (pv 0)) (pe_ix (ix_listK (K := K) rfl) (pv 2) (pe_un un_neg pe_int) (fun _ _ => rfl)) (fun _ _ => rfl)) (pe_op op_sub (pe_callB (call_lenK (K := K) rfl) (by rfl) (fr_len S) bt_len (pa_cons (pv 2) pa_nil)) pe_int) (fun _ _ => rfl)) pa_nil)))))
      (pss_one (ps_expr (pe_bm PySem.F.plainAttrs_list PySem.F.slot_list_append PySem.F.type_list_append mt_append (pe_fldC (cls_LeapTree S) (na_LeapTree_leaping S) (pv 0)) (pa_cons (pv 2) pa_nil))))))), ?_⟩
  walk_at "hz.st"
  walk_at "hz.g"
  walk_at "hz.g"
  · rw [rm_len]; exact sz100' (by omega)
  intro H2 h2
  rw [de_snoc hx] at h2
  walk_at "hz.g"
  rename_i p H3 h3
  refine while_w (fun n σ H => ∃ j, n = 64 - j ∧ 2 ^ j ≤ dep T x + 1 ∧ σ = [some (.ref a), some (.int x), some (.ref p)] ∧ HB H ([(p, .lst (iv (fdl T x j)))] :: [(d, .lst (rm ((T ++ [x]).length + 1) (dv (T ++ [x]))))] :: [(a, .ins (CT K) dx (treeF o d l))] :: [(l, .lst (rm (T.length + 1) (lv g)))] :: rc (T.length + 1) g (lo T) :: L)) 64 ⟨0, rfl, by simp, rfl, ?_⟩ ?_
  · rw [show iv (fdl T x 0) = [.int x] from rfl]
    exact h3.sub_of (by walk_at "hz.sub")
  rintro n σ H4 ⟨j, rfl, hj, rfl, h4⟩
  have hy : anc T (2 ^ j - 1) x ≤ x := anc_le _ _
  have hjl : j < 64 := by
    have := Nat.lt_two_pow_self (n := j)
    omega
  walk_at "hz.g"
  refine r_lenL (.of (tree_lp h4 (n := T.length + 1) (by walk_at "hz.mem") (by omega))) ?_
  rw [iv_len, lp_length]
  walk_at "hz.g"
  rw [fdl_len]
  refine r_two (fun h1 => ?_) (fun h1 => ?_)
  · have h1 := of_decide_eq_true h1
    have h1' : 2 ^ j ≤ dep T (anc T (2 ^ j - 1) x) := lt_nlp.mp (by omega)
    have h1'' := h1'
    rw [dep_anc] at h1''
    refine r_wh ?_
    walk_at "hz.g"
    rw [fdl_len, show ((j + 1 : Nat) : Int) - 1 = (j : Nat) by omega]
    refine r_ixL (.of (tree_lp h4 (n := T.length + 1) (by walk_at "hz.mem") (by omega))) (atI_lp h1') ?_
    walk_at "hz.g"
    · rw [iv_len, fdl_len]; exact sz100' (by omega)
    intro H5 h5
    walk_at "hz.g"
    refine ⟨64 - (j + 1), by omega, j + 1, rfl, by omega, rfl, ?_⟩
    rw [fd_succ, iv_append, ← fd_step]
    exact h5
  · have h1 := of_decide_eq_false h1
    walk_at "hz.g"
    · rw [rm_len]; exact sz100' (by omega)
    intro H5 h5
    walk_at "hz.g"
    rw [le_snoc (x := x)] at h5
    rw [← lo_new (j := j) hx hj (by omega)] at h5
    refine k p _ ?_
    rw [show (T ++ [x]).length + 1 = T.length + 1 + 1 by simp] at *
    have h6 : HB H5 ([(p, lo (T ++ [x]) (T.length + 1))] :: rc (T.length + 1) g (lo T) :: [(a, .ins (CT K) dx (treeF o d l))] :: [(d, .lst (rm (T.length + 1 + 1) (dv (T ++ [x]))))] :: [(l, .lst (rm (T.length + 1 + 1) (lv (fset g (T.length + 1) p))))] :: L) := h5.sub_of (by walk_at "hz.sub")
    have h7 := HB.rc_new (o' := lo (T ++ [x])) h6 (fun i hi => (lo_snoc (by omega)).symm) rfl
    exact h7.sub_of (by walk_at "hz.sub")
theorem sc_MakeTree_grow : FnScope ["self", "make"] ["self", "make"] (defScope (inClass (top 27) 4)) := ⟨rfl, rfl, rfl, by decide +kernel, rfl, by decide +kernel, by decide +kernel⟩
-- slots of MakeTree.grow: self 0, make 1
theorem ok_LeapTree_grow (S : Sit P w K mg base) : MF P w K mg base CX0 (He.ga K "LeapTree") "grow" ["self", "make"] 3 (spGrow (CT K)) := by
  refine mf_LeapTree_grow S fun f fd F => F.ok sc_MakeTree_grow (fun vs H Q E h => ?_) (fun cdv A outer s H vs Q E hr h => ?_)
  · first | (obtain ⟨_, rfl, _⟩ := h; rfl) | (obtain ⟨_, _, rfl, _⟩ := h; rfl) | (obtain ⟨_, _, _, rfl, _⟩ := h; rfl) | (obtain ⟨_, _, _, _, rfl, _⟩ := h; rfl) | (obtain ⟨_, _, _, _, _, rfl, _⟩ := h; rfl) | (obtain ⟨_, _, _, _, _, _, rfl, _⟩ := h; rfl) | (obtain ⟨_, _, _, _, _, _, _, rfl, _⟩ := h; rfl) | (obtain ⟨_, _, _, _, _, _, _, _, rfl, _⟩ := h; rfl) | (obtain ⟨_, _, _, _, _, _, _, _, _, rfl, _⟩ := h; rfl) | (obtain ⟨_, _, _, _, _, _, _, _, _, _, rfl, _⟩ := h; rfl) | (obtain ⟨_, _, _, _, _, _, _, _, _, _, _, rfl, _⟩ := h; rfl) | (obtain ⟨_, _, _, _, _, _, _, _, _, _, _, _, rfl, _⟩ := h; rfl) | (obtain ⟨_, _, _, _, _, _, _, _, _, _, _, _, _, rfl, _⟩ := h; rfl) | (obtain ⟨_, _, _, _, _, _, _, _, _, _, _, _, _, _, rfl, _⟩ := h; rfl) | (obtain ⟨_, _, _, _, _, _, _, _, _, _, _, _, _, _, _, rfl, _⟩ := h; rfl) | (obtain ⟨_, _, _, _, _, _, _, _, _, _, _, _, _, _, _, _, rfl, _⟩ := h; rfl) | (obtain ⟨_, _, _, _, _, _, _, _, _, _, _, _, _, _, _, _, _, rfl, _⟩ := h; rfl) | (obtain ⟨_, _, _, _, _, _, _, _, _, _, _, _, _, _, _, _, _, _, rfl, _⟩ := h; rfl) | (obtain ⟨_, _, _, _, _, _, _, _, _, _, _, _, _, _, _, _, _, _, _, rfl, _⟩ := h; rfl) | (obtain ⟨_, _, _, _, _, _, _, _, _, _, _, _, _, _, _, _, _, _, _, _, rfl, _⟩ := h; rfl) | (obtain ⟨_, _, _, _, _, _, _, _, _, _, _, _, _, _, _, _, _, _, _, _, _, rfl, _⟩ := h; rfl)
  obtain ⟨a, T, b, x, L, rfl, hb, ⟨hT, dx, o, d, l, g, rfl⟩, hx, hl, k⟩ := h
  replace hb := tree_open hb
  refine ⟨_, PSs.nox (pss_cons (ps_expr (pe_methC (pv 0) (ok_LeapTree_need_make S) (hr.mono (by decide)) pass0 (pa_cons (pv 1) pa_nil)))
      (pss_cons (ps_if (pt_cmpR op_eq (pe_callB (call_lenK (K := K) rfl) (by rfl) (fr_len S) bt_len (pa_cons (pe_fldC (cls_LeapTree S) (na_LeapTree_owners S) (pv 0)) pa_nil)) (pe_ci (ci_MOST_MAKES S)) (nomark _)) (pss_one ps_never) pss_nil)
      (pss_cons (ps_expr (pe_bm PySem.F.plainAttrs_list PySem.F.slot_list_append PySem.F.type_list_append mt_append (pe_fldC (cls_LeapTree S) (na_LeapTree_owners S) (pv 0)) (pa_cons (pv 1) pa_nil)))
      (pss_cons (ps_expr (pe_methC (pv 0) (ok_LeapTree_lay S) (hr.mono (by decide)) pass0 (pa_cons (pv 1) pa_nil)))
      (pss_one (ps_ret (pe_op op_sub (pe_callB (call_lenK (K := K) rfl) (by rfl) (fr_len S) bt_len (pa_cons (pe_fldC (cls_LeapTree S) (na_LeapTree_owners S) (pv 0)) pa_nil)) pe_int))))))), ?_⟩
  walk_at "hz.st"
  walk_at "hz.g"
  refine ⟨a, T, _, x, L, rfl, tree_close hb, ⟨hT, dx, o, d, l, g, rfl⟩, hx, fun H1 h1 => ?_⟩
  replace h1 := tree_open h1
  walk_at "hz.g"
  refine r_no (by simp; omega) ?_
  walk_at "hz.g"
  · rw [rm_len]; exact sz100' (by omega)
  intro H2 h2
  rw [ow_snoc hx] at h2
  walk_at "hz.g"
  refine ⟨a, dx, o, d, l, g, T, x, _, rfl, h2.sub_of (Ts := [(a, .ins (CT K) dx (treeF o d l))] :: [(d, .lst (rm (T.length + 1) (dv T)))] :: [(l, .lst (rm (T.length + 1) (lv g)))] :: rc (T.length + 1) g (lo T) :: [(o, .lst (rm ((T ++ [x]).length + 1) (ov (T ++ [x]))))] :: L) (by walk_at "hz.sub"), hT, hx, fun p H3 h3 => ?_⟩
  walk_at "hz.g"
  rw [show (((T ++ [x]).length + 1 : Nat) : Int) - 1 = (T.length : Int) + 1 by simp]
  exact k _ _ ⟨hT.snoc hx hl, dx, o, d, l, _, rfl⟩ (tree_close (h3.sub_of (by walk_at "hz.sub")))
theorem sc_MakeTree_own : FnScope ["self", "make"] ["self", "make"] (defScope (inClass (top 27) 6)) := ⟨rfl, rfl, rfl, by decide +kernel, rfl, by decide +kernel, by decide +kernel⟩
-- slots of MakeTree.own: self 0, make 1
theorem ok_LeapTree_own (S : Sit P w K mg base) : MF P w K mg base CX0 (He.ga K "LeapTree") "own" ["self", "make"] 3 (spOwn (CT K)) := by
  refine mf_LeapTree_own S fun f fd F => F.ok sc_MakeTree_own (fun vs H Q E h => ?_) (fun cdv A outer s H vs Q E hr h => ?_)
  · first | (obtain ⟨_, rfl, _⟩ := h; rfl) | (obtain ⟨_, _, rfl, _⟩ := h; rfl) | (obtain ⟨_, _, _, rfl, _⟩ := h; rfl) | (obtain ⟨_, _, _, _, rfl, _⟩ := h; rfl) | (obtain ⟨_, _, _, _, _, rfl, _⟩ := h; rfl) | (obtain ⟨_, _, _, _, _, _, rfl, _⟩ := h; rfl) | (obtain ⟨_, _, _, _, _, _, _, rfl, _⟩ := h; rfl) | (obtain ⟨_, _, _, _, _, _, _, _, rfl, _⟩ := h; rfl) | (obtain ⟨_, _, _, _, _, _, _, _, _, rfl, _⟩ := h; rfl) | (obtain ⟨_, _, _, _, _, _, _, _, _, _, rfl, _⟩ := h; rfl) | (obtain ⟨_, _, _, _, _, _, _, _, _, _, _, rfl, _⟩ := h; rfl) | (obtain ⟨_, _, _, _, _, _, _, _, _, _, _, _, rfl, _⟩ := h; rfl) | (obtain ⟨_, _, _, _, _, _, _, _, _, _, _, _, _, rfl, _⟩ := h; rfl) | (obtain ⟨_, _, _, _, _, _, _, _, _, _, _, _, _, _, rfl, _⟩ := h; rfl) | (obtain ⟨_, _, _, _, _, _, _, _, _, _, _, _, _, _, _, rfl, _⟩ := h; rfl) | (obtain ⟨_, _, _, _, _, _, _, _, _, _, _, _, _, _, _, _, rfl, _⟩ := h; rfl) | (obtain ⟨_, _, _, _, _, _, _, _, _, _, _, _, _, _, _, _, _, rfl, _⟩ := h; rfl) | (obtain ⟨_, _, _, _, _, _, _, _, _, _, _, _, _, _, _, _, _, _, rfl, _⟩ := h; rfl) | (obtain ⟨_, _, _, _, _, _, _, _, _, _, _, _, _, _, _, _, _, _, _, rfl, _⟩ := h; rfl) | (obtain ⟨_, _, _, _, _, _, _, _, _, _, _, _, _, _, _, _, _, _, _, _, rfl, _⟩ := h; rfl) | (obtain ⟨_, _, _, _, _, _, _, _, _, _, _, _, _, _, _, _, _, _, _, _, _, rfl, _⟩ := h; rfl)
  obtain ⟨a, T, b, m, L, rfl, hb, ⟨hT, dx, o, d, l, g, rfl⟩, hm, k⟩ := h
  replace hb := tree_open hb
  refine ⟨_, PSs.nox (pss_cons (ps_expr (pe_methC (pv 0) (ok_LeapTree_need_make S) (hr.mono (by decide)) pass0 (pa_cons (pv 1) pa_nil)))
      (pss_one (ps_ret (pe_ix (ix_listK (K := K) rfl) (pe_fldC (cls_LeapTree S) (na_LeapTree_owners S) (pv 0)) (pv 1) (fun _ _ => rfl))))), ?_⟩
  walk_at "hz.st"
  walk_at "hz.g"
  refine ⟨a, T, _, m, L, rfl, tree_close hb, ⟨hT, dx, o, d, l, g, rfl⟩, hm, fun H1 h1 => ?_⟩
  replace h1 := tree_open h1
  walk_at "hz.g"
  · exact atI_rm (by omega)
  walk_at "hz.g"
  exact k _ h1

/-! D3: trees by leaps, gone up -/
def spLine (C : Addr) : Sp := fun vs H Q _ => ∃ (a : Addr) (T : Tre) (b : Blk) (m : Nat) (L : List Blk), vs = [.ref a, .int m] ∧ HB H (b :: L) ∧ Tree C a T b ∧ m ≤ T.length ∧ ∀ p H', HB H' ([(p, .lst (iv (lineT T m)))] :: b :: L) → Q (.ref p) H'
def spLeapWay (C : Addr) : Sp := fun vs H Q _ => ∃ (a : Addr) (T : Tre) (b : Blk) (m k : Nat) (L : List Blk), vs = [.ref a, .int m, .int k] ∧ HB H (b :: L) ∧ Tree C a T b ∧ m ≤ T.length ∧ k ≤ dep T m ∧
  ∀ p xs H', (m :: xs).getLast? = some (anc T k m) → xs.length ≤ 64 → HB H' ([(p, .lst (iv xs))] :: b :: L) → Q (.ref p) H'
def spUp (C : Addr) : Sp := fun vs H Q _ => ∃ (a : Addr) (T : Tre) (b : Blk) (m k : Nat) (L : List Blk), vs = [.ref a, .int m, .int k] ∧ HB H (b :: L) ∧ Tree C a T b ∧ m ≤ T.length ∧ k ≤ dep T m ∧ ∀ H', HB H' (b :: L) → Q (.int (anc T k m : Nat)) H'
def spNearest (C : Addr) : Sp := fun vs H Q _ => ∃ (a : Addr) (T : Tre) (b : Blk) (m n : Nat) (L : List Blk), vs = [.ref a, .int m, .int n] ∧ HB H (b :: L) ∧ Tree C a T b ∧ m ≤ T.length ∧ n ≤ T.length ∧ ∀ H', HB H' (b :: L) → Q (.int (lca T m n : Nat)) H'
def spWay (C : Addr) : Sp := fun vs H Q _ => ∃ (a : Addr) (T : Tre) (b : Blk) (m n : Nat) (L : List Blk), vs = [.ref a, .int m, .int n] ∧ HB H (b :: L) ∧ Tree C a T b ∧ m ≤ T.length ∧ n ≤ T.length ∧ ∀ p H', HB H' ([(p, .lst (iv (wayT T m n)))] :: b :: L) → Q (.ref p) H'
def spTreeCopied (C : Addr) : Sp := fun vs H Q _ => ∃ (a : Addr) (T : Tre) (b : Blk) (L : List Blk), vs = [.ref a] ∧ HB H (b :: L) ∧ Tree C a T b ∧ ∀ p c H', Tree C p T c → HB H' (c :: b :: L) → Q (.ref p) H'
theorem sc_MakeTree_line : FnScope ["self", "make", "found"] ["self", "make"] (defScope (inClass (top 27) 9)) := ⟨rfl, rfl, rfl, by decide +kernel, rfl, by decide +kernel, by decide +kernel⟩
-- slots of MakeTree.line: self 0, make 1, found 2
theorem ok_LeapTree_line (S : Sit P w K mg base) : MF P w K mg base CX0 (He.ga K "LeapTree") "line" ["self", "make"] 3 (spLine (CT K)) := by
  refine mf_LeapTree_line S fun f fd F => F.ok sc_MakeTree_line (fun vs H Q E h => ?_) (fun cdv A outer s H vs Q E hr h => ?_)
  · first | (obtain ⟨_, rfl, _⟩ := h; rfl) | (obtain ⟨_, _, rfl, _⟩ := h; rfl) | (obtain ⟨_, _, _, rfl, _⟩ := h; rfl) | (obtain ⟨_, _, _, _, rfl, _⟩ := h; rfl) | (obtain ⟨_, _, _, _, _, rfl, _⟩ := h; rfl) | (obtain ⟨_, _, _, _, _, _, rfl, _⟩ := h; rfl) | (obtain ⟨_, _, _, _, _, _, _, rfl, _⟩ := h; rfl) | (obtain ⟨_, _, _, _, _, _, _, _, rfl, _⟩ := h; rfl) | (obtain ⟨_, _, _, _, _, _, _, _, _, rfl, _⟩ := h; rfl) | (obtain ⟨_, _, _, _, _, _, _, _, _, _, rfl, _⟩ := h; rfl) | (obtain ⟨_, _, _, _, _, _, _, _, _, _, _, rfl, _⟩ := h; rfl) | (obtain ⟨_, _, _, _, _, _, _, _, _, _, _, _, rfl, _⟩ := h; rfl) | (obtain ⟨_, _, _, _, _, _, _, _, _, _, _, _, _, rfl, _⟩ := h; rfl) | (obtain ⟨_, _, _, _, _, _, _, _, _, _, _, _, _, _, rfl, _⟩ := h; rfl) | (obtain ⟨_, _, _, _, _, _, _, _, _, _, _, _, _, _, _, rfl, _⟩ := h; rfl) | (obtain ⟨_, _, _, _, _, _, _, _, _, _, _, _, _, _, _, _, rfl, _⟩ := h; rfl) | (obtain ⟨_, _, _, _, _, _, _, _, _, _, _, _, _, _, _, _, _, rfl, _⟩ := h; rfl) | (obtain ⟨_, _, _, _, _, _, _, _, _, _, _, _, _, _, _, _, _, _, rfl, _⟩ := h; rfl) | (obtain ⟨_, _, _, _, _, _, _, _, _, _, _, _, _, _, _, _, _, _, _, rfl, _⟩ := h; rfl) | (obtain ⟨_, _, _, _, _, _, _, _, _, _, _, _, _, _, _, _, _, _, _, _, rfl, _⟩ := h; rfl) | (obtain ⟨_, _, _, _, _, _, _, _, _, _, _, _, _, _, _, _, _, _, _, _, _, rfl, _⟩ := h; rfl)
  obtain ⟨a, T, b, m, L, rfl, hb, ⟨hT, dx, o, d, l, g, rfl⟩, hm, k⟩ := h
  replace hb := tree_open hb
  have hl := hT.le
  refine ⟨_, PSs.nox (pss_cons (ps_expr (pe_methC (pv 0) (ok_LeapTree_need_make S) (hr.mono (by decide)) pass0 (pa_cons (pv 1) pa_nil)))
      (pss_cons (ps_set (i := 2) sc_MakeTree_line.nd rfl (Or.inl rfl) (pe_lst (pa_cons (pv 1) pa_nil)))
      (pss_cons (ps_while PassesOwn.never (pt_cmpR op_notN1 (pe_ix (ix_listK (K := K) rfl) (pe_fldC (cls_LeapTree S) (na_LeapTree_owners S) (pv 0)) (pe_ix (ix_listK (K := K) rfl) (pv 2) (pe_un un_neg pe_int) (fun _ _ => rfl)) (fun _ _ => rfl)) pe_non (nomark _)) (pss_one (ps_expr (pe_bm PySem.F.plainAttrs_list PySem.F.slot_list_append PySem.F.type_list_append mt_append (pv 2) (pa_cons (pe_ix (ix_listK (K := K) rfl) (pe_fldC (cls_LeapTree S) (na_LeapTree_owners S) (pv 0)) (pe_ix (ix_listK (K := K) rfl) (pv 2) (pe_un un_neg pe_int) (fun _ _ => rfl)) (fun _ _ => rfl)) pa_nil)))))
      (pss_cons (ps_expr (pe_bm0 PySem.F.plainAttrs_list PySem.F.slot_list_reverse PySem.F.type_list_reverse mt_reverse (pv 2)))
      (pss_one (ps_ret (pv 2))))))), ?_⟩
  walk_at "hz.st"
  walk_at "hz.g"
  refine ⟨a, T, _, m, L, rfl, tree_close hb, ⟨hT, dx, o, d, l, g, rfl⟩, hm, fun H1 h1 => ?_⟩
  replace h1 := tree_open h1
  walk_at "hz.g"
  rename_i p H2 h2
  refine while_w (fun n σ H => ∃ j, n = 64 - j ∧ j ≤ dep T m ∧ σ = [some (.ref a), some (.int m), some (.ref p)] ∧ HB H ([(p, .lst (iv (upl T m j)))] :: [(a, .ins (CT K) dx (treeF o d l))] :: [(o, .lst (rm (T.length + 1) (ov T)))] :: [(d, .lst (rm (T.length + 1) (dv T)))] :: [(l, .lst (rm (T.length + 1) (lv g)))] :: rc (T.length + 1) g (lo T) :: L)) 64 ⟨0, rfl, by simp, rfl, ?_⟩ ?_
  · rw [show iv (upl T m 0) = [.int m] from rfl]
    exact h2.sub_of (by walk_at "hz.sub")
  rintro n σ H3 ⟨j, rfl, hj, rfl, h3⟩
  have hy : anc T j m ≤ m := anc_le _ _
  have hd := dep_le (T := T) m
  walk_at "hz.g"
  · exact atI_rm (by omega)
  walk_at "hz.g"
  rw [ov_non]
  refine r_two (fun e => ?_) (fun e => ?_)
  · have e : ¬ anc T j m = 0 := by simpa using e
    have hjd : j < dep T m := by
      refine Nat.lt_of_not_le fun z => e ?_
      exact anc_far z
    refine r_wh ?_
    walk_at "hz.g"
    · rw [iv_len, upl_len]; exact sz100' (by omega)
    intro H4 h4
    walk_at "hz.g"
    refine ⟨64 - (j + 1), by omega, j + 1, rfl, by omega, rfl, ?_⟩
    have e2 : anc T (j + 1) m = par T (anc T j m) := by rw [anc_succ, anc_par]
    rw [upl_succ, iv_append, e2]
    exact h4
  · have e : anc T j m = 0 := by simpa using e
    have e2 : j = dep T m := by
      have z := dep_anc (T := T) j m
      rw [e, dep_zero] at z
      omega
    subst e2
    walk_at "hz.g"
    rename_i H4 h4
    rw [upl_line] at h4
    exact k _ _ (tree_close1 (h4.sub_of (by walk_at "hz.sub")))
theorem sc_LeapTree_leap_way : FnScope ["self", "make", "steps", "found", "power"] ["self", "make", "steps"] (defScope (inClass (top 29) 3)) := ⟨rfl, rfl, rfl, by decide +kernel, rfl, by decide +kernel, by decide +kernel⟩
-- slots of LeapTree.leap_way: self 0, make 1, steps 2, found 3, power 4
theorem ok_LeapTree_leap_way (S : Sit P w K mg base) : MF P w K mg base CX0 (He.ga K "LeapTree") "leap_way" ["self", "make", "steps"] 3 (spLeapWay (CT K)) := by
  refine mf_LeapTree_leap_way S fun f fd F => F.ok sc_LeapTree_leap_way (fun vs H Q E h => ?_) (fun cdv A outer s H vs Q E hr h => ?_)
  · first | (obtain ⟨_, rfl, _⟩ := h; rfl) | (obtain ⟨_, _, rfl, _⟩ := h; rfl) | (obtain ⟨_, _, _, rfl, _⟩ := h; rfl) | (obtain ⟨_, _, _, _, rfl, _⟩ := h; rfl) | (obtain ⟨_, _, _, _, _, rfl, _⟩ := h; rfl) | (obtain ⟨_, _, _, _, _, _, rfl, _⟩ := h; rfl) | (obtain ⟨_, _, _, _, _, _, _, rfl, _⟩ := h; rfl) | (obtain ⟨_, _, _, _, _, _, _, _, rfl, _⟩ := h; rfl) | (obtain ⟨_, _, _, _, _, _, _, _, _, rfl, _⟩ := h; rfl) | (obtain ⟨_, _, _, _, _, _, _, _, _, _, rfl, _⟩ := h; rfl) | (obtain ⟨_, _, _, _, _, _, _, _, _, _, _, rfl, _⟩ := h; rfl) | (obtain ⟨_, _, _, _, _, _, _, _, _, _, _, _, rfl, _⟩ := h; rfl) | (obtain ⟨_, _, _, _, _, _, _, _, _, _, _, _, _, rfl, _⟩ := h; rfl) | (obtain ⟨_, _, _, _, _, _, _, _, _, _, _, _, _, _, rfl, _⟩ := h; rfl) | (obtain ⟨_, _, _, _, _, _, _, _, _, _, _, _, _, _, _, rfl, _⟩ := h; rfl) | (obtain ⟨_, _, _, _, _, _, _, _, _, _, _, _, _, _, _, _, rfl, _⟩ := h; rfl) | (obtain ⟨_, _, _, _, _, _, _, _, _, _, _, _, _, _, _, _, _, rfl, _⟩ := h; rfl) | (obtain ⟨_, _, _, _, _, _, _, _, _, _, _, _, _, _, _, _, _, _, rfl, _⟩ := h; rfl) | (obtain ⟨_, _, _, _, _, _, _, _, _, _, _, _, _, _, _, _, _, _, _, rfl, _⟩ := h; rfl) | (obtain ⟨_, _, _, _, _, _, _, _, _, _, _, _, _, _, _, _, _, _, _, _, rfl, _⟩ := h; rfl) | (obtain ⟨_, _, _, _, _, _, _, _, _, _, _, _, _, _, _, _, _, _, _, _, _, rfl, _⟩ := h; rfl)
  obtain ⟨a, T, b, m, s, L, rfl, hb, ⟨hT, dx, o, d, l, g, rfl⟩, hm, hs, k⟩ := h
  replace hb := tree_open hb
  have hl := hT.le
  refine ⟨_, PSs.nox (pss_cons (ps_expr (pe_methC (pv 0) (ok_LeapTree_need_make S) (hr.mono (by decide)) pass0 (pa_cons (pv 1) pa_nil)))
      (pss_cons (ps_expr (pe_methC (pv 0) (ok_LeapTree_need_steps S) (hr.mono (by decide)) pass0 (pa_cons (pv 1) (pa_cons (pv 2) pa_nil))))
      (pss_cons (ps_set (i := 3) sc_LeapTree_leap_way.nd rfl (Or.inl rfl) (pe_lst pa_nil))
      (pss_cons (ps_for PassesOwn.never rfl (pi_revR (by rfl) (fr_reversed S) (prg_1 (by rfl) (fr_range S) (pe_callB (call_lenK (K := K) rfl) (by rfl) (fr_len S) bt_len (pa_cons (pe_ix (ix_listK (K := K) rfl) (pe_fldC (cls_LeapTree S) (na_LeapTree_leaping S) (pv 0)) (pv 1) (fun _ _ => rfl)) pa_nil)))) (pg_name (i := 4) sc_LeapTree_leap_way.nd rfl (Or.inl rfl)) (pss_one (ps_if (pt_cmpR op_eq (pe_op op_oddC (pe_op op_shrC (pv 2) (pv 4)) pe_int) pe_int (nomark _)) (pss_cons (ps_set (i := 1) sc_LeapTree_leap_way.nd rfl (Or.inl rfl) (pe_ix (ix_listK (K := K) rfl) (pe_ix (ix_listK (K := K) rfl) (pe_fldC (cls_LeapTree S) (na_LeapTree_leaping S) (pv 0)) (pv 1) (fun _ _ => rfl)) (pv 4) (fun _ _ => rfl)))
      (pss_one (ps_expr (pe_bm PySem.F.plainAttrs_list PySem.F.slot_list_append PySem.F.type_list_append mt_append (pv 3) (pa_cons (pv 1) pa_nil))))) pss_nil)))
      (pss_one (ps_ret (pv 3))))))), ?_⟩
  walk_at "hz.st"
  walk_at "hz.g"
  refine ⟨a, T, _, m, L, rfl, tree_close hb, ⟨hT, dx, o, d, l, g, rfl⟩, hm, fun H1 h1 => ?_⟩
  replace h1 := tree_open h1
  walk_at "hz.g"
  refine ⟨a, T, _, m, s, L, rfl, tree_close h1, ⟨hT, dx, o, d, l, g, rfl⟩, hm, hs, fun H2 h2 => ?_⟩
  replace h2 := tree_open h2
  walk_at "hz.g"
  rename_i q H3 h3
  refine r_lenIv (.of (tree_lp h3 (n := T.length + 1) (by walk_at "hz.mem") (by omega))) ?_
  walk_at "hz.g"
  have hd := dep_le (T := T) m
  have hn := nlp_le (T := T) m
  rw [lp_length]
  refine ⟨by omega, by omega, by omega, by omega, ?_⟩
  rw [rev_it]
  refine for_w walk_dn (fun i σ H => ∃ xs z, σ = [some (.ref a), some (.int (upTo T m s (nlp T m - i) : Nat)), some (.int s), some (.ref q), z] ∧ (m :: xs).getLast? = some (upTo T m s (nlp T m - i)) ∧ xs.length ≤ i ∧
    HB H ([(q, .lst (iv xs))] :: [(a, .ins (CT K) dx (treeF o d l))] :: [(o, .lst (rm (T.length + 1) (ov T)))] :: [(d, .lst (rm (T.length + 1) (dv T)))] :: [(l, .lst (rm (T.length + 1) (lv g)))] :: rc (T.length + 1) g (lo T) :: L)) ?_ (fun i σ H hi h => trivial) (fun i x σ H H' hi h y => ?_) (fun σ H h => ?_)
  · have e : upTo T m s (nlp T m) = m := upTo_top (Nat.lt_of_le_of_lt hs (dep_lt_nlp m))
    refine ⟨[], none, ?_, ?_, Nat.le_refl _, h3⟩
    · rw [Nat.sub_zero, e]
    · rw [Nat.sub_zero, e]; rfl
  · obtain ⟨xs, z, rfl, hx, hxl, hb⟩ := h
    obtain ⟨rfl, rfl⟩ := y
    have hn2 : nlp T m - (i + 1) + 1 = nlp T m - i := by omega
    walk_at "hz.g"
    refine r_two (fun e => ?_) (fun e => ?_)
    · have e : s / 2 ^ (nlp T m - (i + 1)) % 2 = 1 := by have e := of_decide_eq_true e; omega
      have h2p := upTo_dep hs e
      rw [hn2] at h2p
      have hy : upTo T m s (nlp T m - i) ≤ m := anc_le _ _
      walk_at "hz.g"
      refine r_ixL (.of (tree_lp hb (n := T.length + 1) (by walk_at "hz.mem") (by omega))) (atI_lp h2p) ?_
      walk_at "hz.g"
      · rw [iv_len]; exact sz100' (by omega)
      intro H4 h4
      walk_at "hz.g"
      have e2 := upTo_yes (T := T) (m := m) e
      rw [hn2] at e2
      rw [← e2] at h4 ⊢
      refine ⟨xs ++ [upTo T m s (nlp T m - (i + 1))], _, rfl, ?_, by simp; omega, ?_⟩
      · rw [← List.cons_append, List.getLast?_append]; simp
      · rw [iv_append]
        exact h4
    · have e : s / 2 ^ (nlp T m - (i + 1)) % 2 ≠ 1 := by have e := of_decide_eq_false e; omega
      have e2 := upTo_no (T := T) (m := m) e
      rw [hn2] at e2
      walk_at "hz.g"
      rw [e2]
      exact ⟨xs, _, rfl, hx, by omega, hb⟩
  · obtain ⟨xs, z, rfl, hx, hxl, hb⟩ := h
    rw [Nat.sub_self] at *
    rw [upTo_zero] at *
    walk_at "hz.g"
    exact k _ _ _ hx (by omega) hb
theorem sc_LeapTree_up : FnScope ["self", "make", "steps"] ["self", "make", "steps"] (defScope (inClass (top 29) 4)) := ⟨rfl, rfl, rfl, by decide +kernel, rfl, by decide +kernel, by decide +kernel⟩
-- slots of LeapTree.up: self 0, make 1, steps 2
theorem ok_LeapTree_up (S : Sit P w K mg base) : MF P w K mg base CX0 (He.ga K "LeapTree") "up" ["self", "make", "steps"] 4 (spUp (CT K)) := by
  refine mf_LeapTree_up S fun f fd F => F.ok sc_LeapTree_up (fun vs H Q E h => ?_) (fun cdv A outer s H vs Q E hr h => ?_)
  · first | (obtain ⟨_, rfl, _⟩ := h; rfl) | (obtain ⟨_, _, rfl, _⟩ := h; rfl) | (obtain ⟨_, _, _, rfl, _⟩ := h; rfl) | (obtain ⟨_, _, _, _, rfl, _⟩ := h; rfl) | (obtain ⟨_, _, _, _, _, rfl, _⟩ := h; rfl) | (obtain ⟨_, _, _, _, _, _, rfl, _⟩ := h; rfl) | (obtain ⟨_, _, _, _, _, _, _, rfl, _⟩ := h; rfl) | (obtain ⟨_, _, _, _, _, _, _, _, rfl, _⟩ := h; rfl) | (obtain ⟨_, _, _, _, _, _, _, _, _, rfl, _⟩ := h; rfl) | (obtain ⟨_, _, _, _, _, _, _, _, _, _, rfl, _⟩ := h; rfl) | (obtain ⟨_, _, _, _, _, _, _, _, _, _, _, rfl, _⟩ := h; rfl) | (obtain ⟨_, _, _, _, _, _, _, _, _, _, _, _, rfl, _⟩ := h; rfl) | (obtain ⟨_, _, _, _, _, _, _, _, _, _, _, _, _, rfl, _⟩ := h; rfl) | (obtain ⟨_, _, _, _, _, _, _, _, _, _, _, _, _, _, rfl, _⟩ := h; rfl) | (obtain ⟨_, _, _, _, _, _, _, _, _, _, _, _, _, _, _, rfl, _⟩ := h; rfl) | (obtain ⟨_, _, _, _, _, _, _, _, _, _, _, _, _, _, _, _, rfl, _⟩ := h; rfl) | (obtain ⟨_, _, _, _, _, _, _, _, _, _, _, _, _, _, _, _, _, rfl, _⟩ := h; rfl) | (obtain ⟨_, _, _, _, _, _, _, _, _, _, _, _, _, _, _, _, _, _, rfl, _⟩ := h; rfl) | (obtain ⟨_, _, _, _, _, _, _, _, _, _, _, _, _, _, _, _, _, _, _, rfl, _⟩ := h; rfl) | (obtain ⟨_, _, _, _, _, _, _, _, _, _, _, _, _, _, _, _, _, _, _, _, rfl, _⟩ := h; rfl) | (obtain ⟨_, _, _, _, _, _, _, _, _, _, _, _, _, _, _, _, _, _, _, _, _, rfl, _⟩ := h; rfl)
  obtain ⟨a, T, b, m, s, L, rfl, hb, ⟨hT, dx, o, d, l, g, rfl⟩, hm, hs, k⟩ := h
  replace hb := tree_open hb
  refine ⟨_, PSs.nox (pss_one (ps_ret (pe_ix (ix_listK (K := K) rfl) (pe_op op_cat (pe_lst (pa_cons (pv 1) pa_nil)) (pe_methC (pv 0) (ok_LeapTree_leap_way S) (hr.mono (by decide)) pass0 (pa_cons (pv 1) (pa_cons (pv 2) pa_nil)))) (pe_un un_neg pe_int) (fun _ _ => rfl)))), ?_⟩
  walk_at "hz.st"
  walk_at "hz.g"
  rename_i p H1 h1
  refine ⟨a, T, _, m, s, [(p, .lst [.int m])] :: L, rfl, (tree_close (h1.sub_of (by walk_at "hz.sub"))), ⟨hT, dx, o, d, l, g, rfl⟩, hm, hs, fun q xs H2 hx hxl h2 => ?_⟩
  replace h2 := tree_open h2.swap
  refine r_cat h2 (h2.at (by walk_at "hz.at")) (h2.at (by walk_at "hz.at")) ?_ fun r H3 h3 => ?_
  · rw [iv_len]; exact sz100 (by show 1 + _ ≤ _; omega)
  rw [show [V.int (m : Int)] ++ iv xs = iv (m :: xs) from rfl] at h3
  walk_at "hz.g"
  · exact atI_lastOf hx
  walk_at "hz.g"
  exact k _ (tree_close (h3.sub_of (by walk_at "hz.sub")))

/-! D4: trees: nearest, way, copied -/
theorem sc_LeapTree_nearest : FnScope ["self", "one", "other", "power", "mine", "theirs"] ["self", "one", "other"] (defScope (inClass (top 29) 5)) := ⟨rfl, rfl, rfl, by decide +kernel, rfl, by decide +kernel, by decide +kernel⟩
-- slots of LeapTree.nearest: self 0, one 1, other 2, power 3, mine 4, theirs 5
theorem ok_LeapTree_nearest (S : Sit P w K mg base) : MF P w K mg base CX0 (He.ga K "LeapTree") "nearest" ["self", "one", "other"] 5 (spNearest (CT K)) := by
  refine mf_LeapTree_nearest S fun f fd F => F.ok sc_LeapTree_nearest (fun vs H Q E h => ?_) (fun cdv A outer s H vs Q E hr h => ?_)
  · first | (obtain ⟨_, rfl, _⟩ := h; rfl) | (obtain ⟨_, _, rfl, _⟩ := h; rfl) | (obtain ⟨_, _, _, rfl, _⟩ := h; rfl) | (obtain ⟨_, _, _, _, rfl, _⟩ := h; rfl) | (obtain ⟨_, _, _, _, _, rfl, _⟩ := h; rfl) | (obtain ⟨_, _, _, _, _, _, rfl, _⟩ := h; rfl) | (obtain ⟨_, _, _, _, _, _, _, rfl, _⟩ := h; rfl) | (obtain ⟨_, _, _, _, _, _, _, _, rfl, _⟩ := h; rfl) | (obtain ⟨_, _, _, _, _, _, _, _, _, rfl, _⟩ := h; rfl) | (obtain ⟨_, _, _, _, _, _, _, _, _, _, rfl, _⟩ := h; rfl) | (obtain ⟨_, _, _, _, _, _, _, _, _, _, _, rfl, _⟩ := h; rfl) | (obtain ⟨_, _, _, _, _, _, _, _, _, _, _, _, rfl, _⟩ := h; rfl) | (obtain ⟨_, _, _, _, _, _, _, _, _, _, _, _, _, rfl, _⟩ := h; rfl) | (obtain ⟨_, _, _, _, _, _, _, _, _, _, _, _, _, _, rfl, _⟩ := h; rfl) | (obtain ⟨_, _, _, _, _, _, _, _, _, _, _, _, _, _, _, rfl, _⟩ := h; rfl) | (obtain ⟨_, _, _, _, _, _, _, _, _, _, _, _, _, _, _, _, rfl, _⟩ := h; rfl) | (obtain ⟨_, _, _, _, _, _, _, _, _, _, _, _, _, _, _, _, _, rfl, _⟩ := h; rfl) | (obtain ⟨_, _, _, _, _, _, _, _, _, _, _, _, _, _, _, _, _, _, rfl, _⟩ := h; rfl) | (obtain ⟨_, _, _, _, _, _, _, _, _, _, _, _, _, _, _, _, _, _, _, rfl, _⟩ := h; rfl) | (obtain ⟨_, _, _, _, _, _, _, _, _, _, _, _, _, _, _, _, _, _, _, _, rfl, _⟩ := h; rfl) | (obtain ⟨_, _, _, _, _, _, _, _, _, _, _, _, _, _, _, _, _, _, _, _, _, rfl, _⟩ := h; rfl)
  obtain ⟨a, T, b, m, n, L, rfl, hb, ⟨hT, dx, o, d, l, g, rfl⟩, hm, hn, k⟩ := h
  replace hb := tree_open hb
  refine ⟨_, PSs.nox (pss_cons (ps_expr (pe_methC (pv 0) (ok_LeapTree_need_make S) (hr.mono (by decide)) pass0 (pa_cons (pv 1) pa_nil)))
      (pss_cons (ps_expr (pe_methC (pv 0) (ok_LeapTree_need_make S) (hr.mono (by decide)) pass0 (pa_cons (pv 2) pa_nil)))
      (pss_cons (ps_if (pt_cmpR op_gt (pe_ix (ix_listK (K := K) rfl) (pe_fldC (cls_LeapTree S) (na_LeapTree_depths S) (pv 0)) (pv 1) (fun _ _ => rfl)) (pe_ix (ix_listK (K := K) rfl) (pe_fldC (cls_LeapTree S) (na_LeapTree_depths S) (pv 0)) (pv 2) (fun _ _ => rfl)) (nomark _)) (pss_one (ps_par (i := 1) (j := 2) rfl sc_LeapTree_nearest.nd rfl rfl (by decide) rfl rfl (pa_cons (pv 2) (pa_cons (pv 1) pa_nil)) rfl)) pss_nil)
      (pss_cons (ps_set (i := 2) sc_LeapTree_nearest.nd rfl (Or.inl rfl) (pe_methC (pv 0) (ok_LeapTree_up S) (hr.mono (by decide)) pass0 (pa_cons (pv 2) (pa_cons (pe_op op_sub (pe_ix (ix_listK (K := K) rfl) (pe_fldC (cls_LeapTree S) (na_LeapTree_depths S) (pv 0)) (pv 2) (fun _ _ => rfl)) (pe_ix (ix_listK (K := K) rfl) (pe_fldC (cls_LeapTree S) (na_LeapTree_depths S) (pv 0)) (pv 1) (fun _ _ => rfl))) pa_nil))))
      (pss_cons (ps_if (pt_cmpR op_eq (pv 1) (pv 2) (nomark _)) (pss_one (ps_ret (pv 1))) pss_nil)
      (pss_cons (ps_for PassesOwn.never rfl (pi_revR (by rfl) (fr_reversed S) (prg_1 (by rfl) (fr_range S) (pe_callB (call_lenK (K := K) rfl) (by rfl) (fr_len S) bt_len (pa_cons (pe_ix (ix_listK (K := K) rfl) (pe_fldC (cls_LeapTree S) (na_LeapTree_leaping S) (pv 0)) (pv 1) (fun _ _ => rfl)) pa_nil)))) (pg_name (i := 3) sc_LeapTree_nearest.nd rfl (Or.inl rfl)) (pss_cons (ps_set (i := 4) sc_LeapTree_nearest.nd rfl (Or.inl rfl) (pe_ix (ix_listK (K := K) rfl) (pe_fldC (cls_LeapTree S) (na_LeapTree_leaping S) (pv 0)) (pv 1) (fun _ _ => rfl)))
      (pss_cons (ps_set (i := 5) sc_LeapTree_nearest.nd rfl (Or.inl rfl) (pe_ix (ix_listK (K := K) rfl) (pe_fldC (cls_LeapTree S) (na_LeapTree_leaping S) (pv 0)) (pv 2) (fun _ _ => rfl)))
      (pss_one (ps_if (PW.pt (pw_and (pt_cmpR op_lt (pv 3) (pe_callB (call_lenK (K := K) rfl) (by rfl) (fr_len S) bt_len (pa_cons (pv 4) pa_nil)) (nomark _)) (pw_and1 (pt_cmpR op_ne (pe_ix (ix_listK (K := K) rfl) (pv 4) (pv 3) (fun _ _ => rfl)) (pe_ix (ix_listK (K := K) rfl) (pv 5) (pv 3) (fun _ _ => rfl)) (nomark _))))) (pss_cons (ps_set (i := 1) sc_LeapTree_nearest.nd rfl (Or.inl rfl) (pe_ix (ix_listK (K := K) rfl) (pv 4) (pv 3) (fun _ _ => rfl)))
      (pss_one (ps_set (i := 2) sc_LeapTree_nearest.nd rfl (Or.inl rfl) (pe_ix (ix_listK (K := K) rfl) (pv 5) (pv 3) (fun _ _ => rfl))))) pss_nil)))))
      (pss_one (ps_ret (pe_ix (ix_listK (K := K) rfl) (pe_ix (ix_listK (K := K) rfl) (pe_fldC (cls_LeapTree S) (na_LeapTree_leaping S) (pv 0)) (pv 1) (fun _ _ => rfl)) pe_int (fun _ _ => rfl)))))))))), ?_⟩
  walk_at "hz.st"
  walk_at "hz.g"
  refine ⟨a, T, _, m, L, rfl, tree_close hb, ⟨hT, dx, o, d, l, g, rfl⟩, hm, fun H1 h1 => ?_⟩
  replace h1 := tree_open h1
  walk_at "hz.g"
  refine ⟨a, T, _, n, L, rfl, tree_close h1, ⟨hT, dx, o, d, l, g, rfl⟩, hn, fun H2 h2 => ?_⟩
  replace h2 := tree_open h2
  walk_at "hz.g"
  refine r_join (fun σ H => ∃ u v, σ = [some (.ref a), some (.int (u : Nat)), some (.int (v : Nat)), none, none, none] ∧ u ≤ T.length ∧ v ≤ T.length ∧ dep T u ≤ dep T v ∧ lca T u v = lca T m n ∧
    HB H ([(a, .ins (CT K) dx (treeF o d l))] :: [(o, .lst (rm (T.length + 1) (ov T)))] :: [(d, .lst (rm (T.length + 1) (dv T)))] :: [(l, .lst (rm (T.length + 1) (lv g)))] :: rc (T.length + 1) g (lo T) :: L)) ?_ ?_
  · rintro σ H3 ⟨u, v, rfl, hu, hv, huv, hR, h3⟩
    walk_at "hz.g"
    rw [show (dep T v : Int) - (dep T u : Int) = ((dep T v - dep T u : Nat) : Int) by omega]
    refine ⟨a, T, _, v, dep T v - dep T u, L, rfl, tree_close h3, ⟨hT, dx, o, d, l, g, rfl⟩, hv, by omega, fun H4 h4 => ?_⟩
    replace h4 := tree_open h4
    have hv2 : anc T (dep T v - dep T u) v ≤ T.length := Nat.le_trans (anc_le _ _) hv
    have hd2 : dep T (anc T (dep T v - dep T u) v) = dep T u := by rw [dep_anc]; omega
    have hR2 : lca T u (anc T (dep T v - dep T u) v) = lca T m n := by rw [← lca_level huv, hR]
    generalize anc T (dep T v - dep T u) v = v2 at hv2 hd2 hR2 ⊢
    walk_at "hz.g"
    refine r_two (fun e => ?_) (fun e => ?_)
    · have e : u = v2 := by have e := of_decide_eq_true e; omega
      subst e
      walk_at "hz.g"
      rw [← hR2, lca_self] at k
      exact k _ (tree_close h4)
    · have e : u ≠ v2 := by have e := of_decide_eq_false e; omega
      walk_at "hz.g"
      refine r_lenIv (.of (tree_lp h4 (n := T.length + 1) (by walk_at "hz.mem") (by omega))) ?_
      walk_at "hz.g"
      have hdl := dep_le (T := T) u
      have hnl := nlp_le (T := T) u
      have hl := hT.le
      rw [lp_length]
      refine ⟨by omega, by omega, by omega, by omega, ?_⟩
      rw [rev_it]
      refine for_w walk_dn (fun i σ H => ∃ (x y : Nat) (z3 z4 z5 : Option V), σ = [some (.ref a), some (.int (x : Nat)), some (.int (y : Nat)), z3, z4, z5] ∧ x ≤ T.length ∧ y ≤ T.length ∧ x ≠ y ∧ dep T x = dep T y ∧ lca T x y = lca T m n ∧ anc T (2 ^ (nlp T u - i)) x = anc T (2 ^ (nlp T u - i)) y ∧
        HB H ([(a, .ins (CT K) dx (treeF o d l))] :: [(o, .lst (rm (T.length + 1) (ov T)))] :: [(d, .lst (rm (T.length + 1) (dv T)))] :: [(l, .lst (rm (T.length + 1) (lv g)))] :: rc (T.length + 1) g (lo T) :: L)) ?_ (fun i σ H hi h => trivial) (fun i w3 σ H H' hi h yy => ?_) (fun σ H h => ?_)
      · have b1 := dep_lt_nlp (T := T) u
        exact ⟨u, v2, _, _, _, rfl, hu, hv2, e, hd2.symm, hR2, by rw [Nat.sub_zero, anc_far (by omega), anc_far (by omega)], h4⟩
      · obtain ⟨x, y, z3, z4, z5, rfl, hx, hy, ne, hxy, hRx, hanc, h5⟩ := h
        obtain ⟨rfl, rfl⟩ := yy
        have hq : nlp T u - i = nlp T u - (i + 1) + 1 := by omega
        rw [hq] at hanc
        generalize nlp T u - (i + 1) = q at *
        walk_at "hz.g"
        refine r_lenIv (.of (tree_lp h5 (n := T.length + 1) (by walk_at "hz.mem") (by omega))) ?_
        walk_at "hz.g"
        rw [lp_length]
        refine r_two (fun e1 => ?_) (fun e1 => ?_)
        · have e1 : q < nlp T x := by have e1 := of_decide_eq_true e1; omega
          have e2 := lt_nlp.mp e1
          walk_at "hz.g"
          refine r_ixL (.of (tree_lp h5 (n := T.length + 1) (by walk_at "hz.mem") (by omega))) (atI_lp e2) ?_
          walk_at "hz.g"
          refine r_ixL (.of (tree_lp h5 (n := T.length + 1) (by walk_at "hz.mem") (by omega))) (atI_lp (by omega)) ?_
          walk_at "hz.g"
          refine r_two (fun e3 => ?_) (fun e3 => ?_)
          · have e3 : anc T (2 ^ q) x ≠ anc T (2 ^ q) y := by
              intro z
              rw [z] at e3
              simp at e3
            walk_at "hz.g"
            refine r_ixL (.of (tree_lp h5 (n := T.length + 1) (by walk_at "hz.mem") (by omega))) (atI_lp e2) ?_
            walk_at "hz.g"
            refine r_ixL (.of (tree_lp h5 (n := T.length + 1) (by walk_at "hz.mem") (by omega))) (atI_lp (by omega)) ?_
            walk_at "hz.g"
            refine ⟨_, _, _, _, _, rfl, Nat.le_trans (anc_le _ _) hx, Nat.le_trans (anc_le _ _) hy, e3, by rw [dep_anc, dep_anc, hxy], by rw [lca_same hxy e3, hRx], ?_, h5⟩
            rw [← anc_add, ← anc_add, ← Nat.two_mul, Nat.mul_comm, ← Nat.pow_succ]
            exact hanc
          · have e3 : anc T (2 ^ q) x = anc T (2 ^ q) y := by
              have e4 : decide ((anc T (2 ^ q) x : Int) = (anc T (2 ^ q) y : Int)) = true := by simpa using e3
              have := of_decide_eq_true e4
              omega
            walk_at "hz.g"
            exact ⟨_, _, _, _, _, rfl, hx, hy, ne, hxy, hRx, e3, h5⟩
        · have e1 : ¬ q < nlp T x := by have e1 := of_decide_eq_false e1; omega
          rw [lt_nlp] at e1
          walk_at "hz.g"
          exact ⟨_, _, _, _, _, rfl, hx, hy, ne, hxy, hRx, by rw [anc_far (by omega), anc_far (by omega)], h5⟩
      · obtain ⟨x, y, z3, z4, z5, rfl, hx, hy, ne, hxy, hRx, hanc, h5⟩ := h
        rw [Nat.sub_self] at hanc
        have e1 := lca_one hxy ne hanc
        have e2 : 2 ^ 0 ≤ dep T x := by
          refine Nat.lt_of_not_le fun z => ne ?_
          have z1 : dep T x = 0 := by omega
          have z2 : dep T y = 0 := by omega
          rw [dep_eq_zero.mp z1, dep_eq_zero.mp z2]
        walk_at "hz.g"
        refine r_ixL (.of (tree_lp h5 (n := T.length + 1) (by walk_at "hz.mem") (by omega))) (atI_lp (j := 0) e2) ?_
        rw [← hRx, e1] at k
        exact k _ (tree_close h5)
  · intro nx hnx
    refine r_two (fun e => ?_) (fun e => ?_)
    · have e := of_decide_eq_true e
      walk_at "hz.g"
      exact hnx _ _ ⟨n, m, rfl, hn, hm, by omega, lca_comm _ _, h2⟩
    · have e := of_decide_eq_false e
      walk_at "hz.g"
      exact hnx _ _ ⟨m, n, rfl, hm, hn, by omega, rfl, h2⟩
theorem sc_MakeTree_way : FnScope ["self", "one", "other", "nearest", "up"] ["self", "one", "other"] (defScope (inClass (top 27) 12)) := ⟨rfl, rfl, rfl, by decide +kernel, rfl, by decide +kernel, by decide +kernel⟩
-- slots of MakeTree.way: self 0, one 1, other 2, nearest 3, up 4
theorem ok_LeapTree_way (S : Sit P w K mg base) : MF P w K mg base CX0 (He.ga K "LeapTree") "way" ["self", "one", "other"] 6 (spWay (CT K)) := by
  refine mf_LeapTree_way S fun f fd F => F.ok sc_MakeTree_way (fun vs H Q E h => ?_) (fun cdv A outer s H vs Q E hr h => ?_)
  · first | (obtain ⟨_, rfl, _⟩ := h; rfl) | (obtain ⟨_, _, rfl, _⟩ := h; rfl) | (obtain ⟨_, _, _, rfl, _⟩ := h; rfl) | (obtain ⟨_, _, _, _, rfl, _⟩ := h; rfl) | (obtain ⟨_, _, _, _, _, rfl, _⟩ := h; rfl) | (obtain ⟨_, _, _, _, _, _, rfl, _⟩ := h; rfl) | (obtain ⟨_, _, _, _, _, _, _, rfl, _⟩ := h; rfl) | (obtain ⟨_, _, _, _, _, _, _, _, rfl, _⟩ := h; rfl) | (obtain ⟨_, _, _, _, _, _, _, _, _, rfl, _⟩ := h; rfl) | (obtain ⟨_, _, _, _, _, _, _, _, _, _, rfl, _⟩ := h; rfl) | (obtain ⟨_, _, _, _, _, _, _, _, _, _, _, rfl, _⟩ := h; rfl) | (obtain ⟨_, _, _, _, _, _, _, _, _, _, _, _, rfl, _⟩ := h; rfl) | (obtain ⟨_, _, _, _, _, _, _, _, _, _, _, _, _, rfl, _⟩ := h; rfl) | (obtain ⟨_, _, _, _, _, _, _, _, _, _, _, _, _, _, rfl, _⟩ := h; rfl) | (obtain ⟨_, _, _, _, _, _, _, _, _, _, _, _, _, _, _, rfl, _⟩ := h; rfl) | (obtain ⟨_, _, _, _, _, _, _, _, _, _, _, _, _, _, _, _, rfl, _⟩ := h; rfl) | (obtain ⟨_, _, _, _, _, _, _, _, _, _, _, _, _, _, _, _, _, rfl, _⟩ := h; rfl) | (obtain ⟨_, _, _, _, _, _, _, _, _, _, _, _, _, _, _, _, _, _, rfl, _⟩ := h; rfl) | (obtain ⟨_, _, _, _, _, _, _, _, _, _, _, _, _, _, _, _, _, _, _, rfl, _⟩ := h; rfl) | (obtain ⟨_, _, _, _, _, _, _, _, _, _, _, _, _, _, _, _, _, _, _, _, rfl, _⟩ := h; rfl) | (obtain ⟨_, _, _, _, _, _, _, _, _, _, _, _, _, _, _, _, _, _, _, _, _, rfl, _⟩ := h; rfl)
  obtain ⟨a, T, b, m, n, L, rfl, hb, ⟨hT, dx, o, d, l, g, rfl⟩, hm, hn, k⟩ := h
  replace hb := tree_open hb
  refine ⟨_, PSs.nox (pss_cons (ps_set (i := 3) sc_MakeTree_way.nd rfl (Or.inl rfl) (pe_methC (pv 0) (ok_LeapTree_nearest S) (hr.mono (by decide)) pass0 (pa_cons (pv 1) (pa_cons (pv 2) pa_nil))))
      (pss_cons (ps_set (i := 4) sc_MakeTree_way.nd rfl (Or.inl rfl) (pe_slice (sl_listK (K := K) rfl) (pe_methC (pv 0) (ok_LeapTree_line S) (hr.mono (by decide)) pass0 (pa_cons (pv 1) pa_nil)) (po_some (pe_ix (ix_listK (K := K) rfl) (pe_fldC (cls_LeapTree S) (na_LeapTree_depths S) (pv 0)) (pv 3) (fun _ _ => rfl))) po_none))
      (pss_cons (ps_expr (pe_bm0 PySem.F.plainAttrs_list PySem.F.slot_list_reverse PySem.F.type_list_reverse mt_reverse (pv 4)))
      (pss_one (ps_ret (pe_op op_cat (pv 4) (pe_slice (sl_listK (K := K) rfl) (pe_methC (pv 0) (ok_LeapTree_line S) (hr.mono (by decide)) pass0 (pa_cons (pv 2) pa_nil)) (po_some (pe_op op_add (pe_ix (ix_listK (K := K) rfl) (pe_fldC (cls_LeapTree S) (na_LeapTree_depths S) (pv 0)) (pv 3) (fun _ _ => rfl)) pe_int)) po_none))))))), ?_⟩
  walk_at "hz.st"
  walk_at "hz.g"
  refine ⟨a, T, _, m, n, L, rfl, tree_close hb, ⟨hT, dx, o, d, l, g, rfl⟩, hm, hn, fun H1 h1 => ?_⟩
  replace h1 := tree_open h1
  walk_at "hz.g"
  refine ⟨a, T, _, m, L, rfl, tree_close h1, ⟨hT, dx, o, d, l, g, rfl⟩, hm, fun p H2 h2 => ?_⟩
  replace h2 := tree_open h2.swap
  have e1 : lca T m n ≤ m := lca_le_left m n
  have l1 := lineT_length (T := T) m
  have l2 := lineT_length (T := T) n
  have d1 := (lca_spec (T := T) m n).1.dep_le
  have d2 := (lca_spec (T := T) m n).2.1.dep_le
  have d3 := dep_le (T := T) m
  have d4 := dep_le (T := T) n
  have hl := hT.le
  walk_at "hz.g"
  rename_i q H3 h3 H4 h4
  rw [cut_iv (by omega), iv_rev] at h4
  refine ⟨a, T, _, n, [(q, .lst (iv ((lineT T m).drop (dep T (lca T m n))).reverse))] :: L, rfl, tree_close (h4.sub_of (by walk_at "hz.sub")), ⟨hT, dx, o, d, l, g, rfl⟩, hn, fun p2 H5 h5 => ?_⟩
  replace h5 := tree_open h5.swap
  walk_at "hz.g"
  rename_i q2 H6 h6
  rw [show (dep T (lca T m n) : Int) + 1 = ((dep T (lca T m n) + 1 : Nat) : Int) by omega, cut_iv (by omega)] at h6
  refine r_cat h6 (h6.at (by walk_at "hz.at")) (h6.at (by walk_at "hz.at")) ?_ fun r H7 h7 => ?_
  · simp only [iv_len, List.length_reverse, List.length_drop]
    exact sz100 (by omega)
  rw [← iv_append] at h7
  replace h7 : HB H7 ([(r, .lst (iv (wayT T m n)))] :: _) := h7
  exact k _ _ (tree_close1 (h7.sub_of (by walk_at "hz.sub")))
theorem sc_LeapTree_copied : FnScope ["self", "found", "leaps"] ["self"] (defScope (inClass (top 29) 6)) := ⟨rfl, rfl, rfl, by decide +kernel, rfl, by decide +kernel, by decide +kernel⟩
-- slots of LeapTree.copied: self 0, found 1, leaps 2
theorem ok_LeapTree_copied (S : Sit P w K mg base) : MF P w K mg base CX0 (He.ga K "LeapTree") "copied" ["self"] 4 (spTreeCopied (CT K)) := by
  refine mf_LeapTree_copied S fun f fd F => F.ok sc_LeapTree_copied (fun vs H Q E h => ?_) (fun cdv A outer s H vs Q E hr h => ?_)
  · first | (obtain ⟨_, rfl, _⟩ := h; rfl) | (obtain ⟨_, _, rfl, _⟩ := h; rfl) | (obtain ⟨_, _, _, rfl, _⟩ := h; rfl) | (obtain ⟨_, _, _, _, rfl, _⟩ := h; rfl) | (obtain ⟨_, _, _, _, _, rfl, _⟩ := h; rfl) | (obtain ⟨_, _, _, _, _, _, rfl, _⟩ := h; rfl) | (obtain ⟨_, _, _, _, _, _, _, rfl, _⟩ := h; rfl) | (obtain ⟨_, _, _, _, _, _, _, _, rfl, _⟩ := h; rfl) | (obtain ⟨_, _, _, _, _, _, _, _, _, rfl, _⟩ := h; rfl) | (obtain ⟨_, _, _, _, _, _, _, _, _, _, rfl, _⟩ := h; rfl) | (obtain ⟨_, _, _, _, _, _, _, _, _, _, _, rfl, _⟩ := h; rfl) | (obtain ⟨_, _, _, _, _, _, _, _, _, _, _, _, rfl, _⟩ := h; rfl) | (obtain ⟨_, _, _, _, _, _, _, _, _, _, _, _, _, rfl, _⟩ := h; rfl) | (obtain ⟨_, _, _, _, _, _, _, _, _, _, _, _, _, _, rfl, _⟩ := h; rfl) | (obtain ⟨_, _, _, _, _, _, _, _, _, _, _, _, _, _, _, rfl, _⟩ := h; rfl) | (obtain ⟨_, _, _, _, _, _, _, _, _, _, _, _, _, _, _, _, rfl, _⟩ := h; rfl) | (obtain ⟨_, _, _, _, _, _, _, _, _, _, _, _, _, _, _, _, _, rfl, _⟩ := h; rfl) | (obtain ⟨_, _, _, _, _, _, _, _, _, _, _, _, _, _, _, _, _, _, rfl, _⟩ := h; rfl) | (obtain ⟨_, _, _, _, _, _, _, _, _, _, _, _, _, _, _, _, _, _, _, rfl, _⟩ := h; rfl) | (obtain ⟨_, _, _, _, _, _, _, _, _, _, _, _, _, _, _, _, _, _, _, _, rfl, _⟩ := h; rfl) | (obtain ⟨_, _, _, _, _, _, _, _, _, _, _, _, _, _, _, _, _, _, _, _, _, rfl, _⟩ := h; rfl)
  obtain ⟨a, T, b, L, rfl, hb, ⟨hT, dx, o, d, l, g, rfl⟩, k⟩ := h
  replace hb := tree_open hb
  refine ⟨_, PSs.nox (pss_cons (ps_set (i := 1) sc_LeapTree_copied.nd rfl (Or.inl rfl) (pe_makeC0 (ok_LeapTree S) (hr.mono (by decide)) (by rfl) pass0))
      (pss_cons (ps_fldC (cls_LeapTree S) (na_LeapTree_owners S) (pv 1) (pe_callTy (call_listK (K := K) rfl) (by rfl) (fr_list S) bt_list (pa_cons (pe_fldC (cls_LeapTree S) (na_LeapTree_owners S) (pv 0)) pa_nil)))
      (pss_cons (ps_fldC (cls_LeapTree S) (na_LeapTree_depths S) (pv 1) (pe_callTy (call_listK (K := K) rfl) (by rfl) (fr_list S) bt_list (pa_cons (pe_fldC (cls_LeapTree S) (na_LeapTree_depths S) (pv 0)) pa_nil)))
      (pss_cons (ps_fldC (cls_LeapTree S) (na_LeapTree_leaping S) (pv 1) (pe_lc (own := [("leaps", 2)]) rfl sc_LeapTree_copied.nd (pi_list (pe_fldC (cls_LeapTree S) (na_LeapTree_leaping S) (pv 0))) (blkOk_by (N := ["self", "found", "leaps"]) (by kernel_rfl)) (fun _ _ _ _ _ => (pg_name (i := 2) sc_LeapTree_copied.nd rfl (Or.inl rfl))) (fun _ _ _ _ _ => pts_nil) (fun _ _ _ _ _ => (pe_callTy (call_listK (K := K) rfl) (by rfl) (fr_list S) bt_list (pa_cons (pv 2) pa_nil)))))
      (pss_one (ps_ret (pv 1))))))), ?_⟩
  walk_at "hz.st"
  walk_at "hz.g"
  rename_i x dx2 H1 h1
  refine ⟨x, dx2, _, rfl, h1, fun b2 H2 hb2 h2 => ?_⟩
  obtain ⟨_, dx3, o3, d3, l3, g3, rfl⟩ := hb2
  replace h2 := tree_open h2
  walk_at "hz.g"
  rename_i o4 H3 h3 H4 h4 d4 H5 h5 H6 h6
  refine lc_w (walk_rm (n := T.length + 1) (f := lv g)) h6 (fun i D H => ∃ g', HB H ([(D, .lst (rm i (lv g')))] :: rc i g' (lo T) :: [(d4, .lst (rm (T.length + 1) (dv T)))] :: [(o4, .lst (rm (T.length + 1) (ov T)))] :: [(x, .ins (CT K) dx3 [("owners", .ref o4), ("depths", .ref d4), ("leaping", .ref l3)])] ::
    [(a, .ins (CT K) dx (treeF o d l))] :: [(o, .lst (rm (T.length + 1) (ov T)))] :: [(d, .lst (rm (T.length + 1) (dv T)))] :: [(l, .lst (rm (T.length + 1) (lv g)))] :: rc (T.length + 1) g (lo T) :: L))
    (fun D H h => ?_) (fun i D H _ h => ?_) (fun i v D H H' hi h y => ?_) (fun D H h => ?_)
  · exact ⟨fun _ => 0, HB.rm0 (h.sub_of (by walk_at "hz.sub"))⟩
  · obtain ⟨g', h⟩ := h
    exact SqL.of (h.at (by walk_at "hz.at"))
  · obtain ⟨g', h⟩ := h
    obtain ⟨rfl, rfl⟩ := y
    walk_at "hz.g"
    refine r_listL (.of (tree_lp (T := T) h (n := T.length + 1) (by walk_at "hz.mem") hi)) h fun q H2 h2 => ?_
    walk_at "hz.g"
    have hl := hT.le
    refine lc_put h2 (.next .here) (by rw [rm_len]; exact sz100' (by omega)) fun H3 h3 => ?_
    rw [lv_snoc] at h3
    have h4 : HB H3 ([(q, lo T i)] :: rc i g' (lo T) :: _) := h3.sub_of (by apply Sub.cons; exact .here; apply Sub.cons; exact .next .here; exact .refl)
    exact ⟨fset g' i q, (h4.rc_new (o' := lo T) (fun _ _ => rfl) rfl).swap⟩
  · obtain ⟨g', h⟩ := h
    walk_at "hz.g"
    rename_i H7 h7
    have h8 : HB H7 (treeB (CT K) a dx o d l g T :: [(x, .ins (CT K) dx3 (treeF o4 d4 D))] :: [(o4, .lst (rm (T.length + 1) (ov T)))] :: [(d4, .lst (rm (T.length + 1) (dv T)))] :: [(D, .lst (rm (T.length + 1) (lv g')))] :: rc (T.length + 1) g' (lo T) :: L) := tree_close (h7.sub_of (by walk_at "hz.sub"))
    exact k x _ _ ⟨hT, dx3, o4, d4, D, g', rfl⟩ (tree_put (h8.sub_of (by walk_at "hz.sub")))

/-! D5: stores of parts -/
abbrev CP (K : PySem.W.Frag) : Addr := He.ga K "Parts"
def PS.nil : PS := ⟨0, fun _ => .leaf 0 0, fun _ => false, fun _ => 0, fun _ => 0⟩
def spPartsInit (C : Addr) : Sp := fun vs H Q _ => ∃ (a dx : Addr) (Bs : List Blk), vs = [.ref a] ∧ HB H ([(a, .ins C dx [])] :: Bs) ∧ ∀ b H', Parts C a PS.nil b → HB H' (b :: Bs) → Q .non H'
def spNeedPart (C : Addr) : Sp := fun vs H Q _ => ∃ (a : Addr) (S : PS) (b : Blk) (x : Nat) (L : List Blk), vs = [.ref a, .int x] ∧ HB H (b :: L) ∧ Parts C a S b ∧ S.al x = true ∧ ∀ H', HB H' (b :: L) → Q .non H'
def spEnds (C : Addr) : Sp := fun vs H Q _ => ∃ (a : Addr) (S : PS) (b : Blk) (x : Nat) (L : List Blk), vs = [.ref a, .int x] ∧ HB H (b :: L) ∧ Parts C a S b ∧ S.al x = true ∧
  ∀ p H', HB H' ([(p, .tup [.int ((S.ds x).lo : Nat), .int ((S.ds x).hi : Nat)])] :: b :: L) → Q (.ref p) H'
def spNeedHalf (C : Addr) : Sp := fun vs H Q _ => ∃ (a : Addr) (S : PS) (b : Blk) (x : Nat) (L : List Blk), vs = [.ref a, .int x, .int (S.ds x).lo, .int (S.ds x).hi] ∧ HB H (b :: L) ∧ Parts C a S b ∧ S.al x = true ∧ ∀ H', HB H' (b :: L) → Q .non H'
def spPLay (C : Addr) : Sp := fun vs H Q _ => ∃ (a t : Addr) (S : PS) (d : Prt) (b : Blk) (L : List Blk), vs = [.ref a, .ref t] ∧ HB H ([(t, .tup (descV d))] :: b :: L) ∧ Parts C a S b ∧ (∀ z ∈ d.halves, z < S.gv) ∧ S.gv < 5000 ∧
  ∀ b' H', Parts C a (S.lay d) b' → HB H' (b' :: L) → Q (.int S.gv) H'
def spPart (C : Addr) : Sp := fun vs H Q _ => ∃ (a : Addr) (S : PS) (b : Blk) (x : Nat) (L : List Blk), vs = [.ref a, .int x] ∧ HB H (b :: L) ∧ Parts C a S b ∧ S.al x = true ∧
  ∀ p H', HB H' ([(p, .tup (descV (S.ds x)))] :: b :: L) → Q (.ref p) H'
def spPMany (C : Addr) : Sp := fun vs H Q _ => ∃ (a : Addr) (S : PS) (b : Blk) (L : List Blk), vs = [.ref a] ∧ HB H (b :: L) ∧ Parts C a S b ∧ ∀ (n : Nat) H', HB H' (b :: L) → Q (.int n) H'
def spLeaf (C : Addr) : Sp := fun vs H Q _ => ∃ (a : Addr) (S : PS) (b : Blk) (p : Nat) (w : Int) (L : List Blk), vs = [.ref a, .int p, .int w] ∧ HB H (b :: L) ∧ Parts C a S b ∧ p < 16 ∧ isW w = true ∧ S.gv < 5000 ∧
  ∀ b' H', Parts C a (S.lay (.leaf p w)) b' → HB H' (b' :: L) → Q (.int S.gv) H'
def spFork (C : Addr) : Sp := fun vs H Q _ => ∃ (a : Addr) (S : PS) (b : Blk) (x y : Nat) (L : List Blk), vs = [.ref a, .int (S.ds x).lo, .int (S.ds y).hi, .int x, .int y] ∧ HB H (b :: L) ∧ Parts C a S b ∧ S.al x = true ∧ S.al y = true ∧
  ((S.ds x).lo + (S.ds y).hi) / 2 = (S.ds x).hi ∧ (S.ds x).hi = (S.ds y).lo ∧ (S.ds x).lo + 2 ≤ (S.ds y).hi ∧ (S.ds y).hi ≤ 16 ∧ S.gv < 5000 ∧
  ∀ b' H', Parts C a (S.lay (.fork (S.ds x).lo (S.ds y).hi x y)) b' → HB H' (b' :: L) → Q (.int S.gv) H'
def spHold (C : Addr) : Sp := fun vs H Q _ => ∃ (a : Addr) (S : PS) (b : Blk) (x : Nat) (L : List Blk), vs = [.ref a, .int x] ∧ HB H (b :: L) ∧ Parts C a S b ∧ S.al x = true ∧ ∀ b' H', Parts C a (S.hold x) b' → HB H' (b' :: L) → Q .non H'
theorem r_neT2 {K : PySem.W.Frag} {H : Hp} {Q : VK} {p q : Addr} {a b c d : Int} (e1 : H p = some (.tup [.int a, .int b])) (e2 : H q = some (.tup [.int c, .int d])) (h : Q (.bl (!(decide (a = c) && decide (b = d)))) H) : rNeD K (.ref p) (.ref q) H Q := by
  refine ⟨.tuple [.int a, .int b], .tuple [.int c, .int d], .tup (.of e1) (.cons (.int a) (.cons (.int b) .nil)), .tup (.of e2) (.cons (.int c) (.cons (.int d) .nil)), rfl, rfl, ?_⟩
  have e : PyData.eqv (.tuple [.int a, .int b]) (.tuple [.int c, .int d]) = (decide (a = c) && decide (b = d)) := by
    simp [PyData.eqv, PyData.eqvAll]
    try rfl
  rw [e]
  exact h
theorem sc_Parts___init__ : FnScope ["self"] ["self"] (defScope (inClass (top 19) 0)) := ⟨rfl, rfl, rfl, by decide +kernel, rfl, by decide +kernel, by decide +kernel⟩
-- slots of Parts.__init__: self 0
theorem ok_Parts (S : Sit P w K mg base) : KF P w K mg base CX0 "Parts" (He.ga K "Parts") ["self"] 1 (spPartsInit (CP K)) := by
  refine kf_Parts S fun f fd F => F.ok sc_Parts___init__ (fun vs H Q E h => ?_) (fun cdv A outer s H vs Q E hr h => ?_)
  · first | (obtain ⟨_, rfl, _⟩ := h; rfl) | (obtain ⟨_, _, rfl, _⟩ := h; rfl) | (obtain ⟨_, _, _, rfl, _⟩ := h; rfl) | (obtain ⟨_, _, _, _, rfl, _⟩ := h; rfl) | (obtain ⟨_, _, _, _, _, rfl, _⟩ := h; rfl) | (obtain ⟨_, _, _, _, _, _, rfl, _⟩ := h; rfl) | (obtain ⟨_, _, _, _, _, _, _, rfl, _⟩ := h; rfl) | (obtain ⟨_, _, _, _, _, _, _, _, rfl, _⟩ := h; rfl) | (obtain ⟨_, _, _, _, _, _, _, _, _, rfl, _⟩ := h; rfl) | (obtain ⟨_, _, _, _, _, _, _, _, _, _, rfl, _⟩ := h; rfl) | (obtain ⟨_, _, _, _, _, _, _, _, _, _, _, rfl, _⟩ := h; rfl) | (obtain ⟨_, _, _, _, _, _, _, _, _, _, _, _, rfl, _⟩ := h; rfl) | (obtain ⟨_, _, _, _, _, _, _, _, _, _, _, _, _, rfl, _⟩ := h; rfl) | (obtain ⟨_, _, _, _, _, _, _, _, _, _, _, _, _, _, rfl, _⟩ := h; rfl) | (obtain ⟨_, _, _, _, _, _, _, _, _, _, _, _, _, _, _, rfl, _⟩ := h; rfl) | (obtain ⟨_, _, _, _, _, _, _, _, _, _, _, _, _, _, _, _, rfl, _⟩ := h; rfl) | (obtain ⟨_, _, _, _, _, _, _, _, _, _, _, _, _, _, _, _, _, rfl, _⟩ := h; rfl) | (obtain ⟨_, _, _, _, _, _, _, _, _, _, _, _, _, _, _, _, _, _, rfl, _⟩ := h; rfl) | (obtain ⟨_, _, _, _, _, _, _, _, _, _, _, _, _, _, _, _, _, _, _, rfl, _⟩ := h; rfl) | (obtain ⟨_, _, _, _, _, _, _, _, _, _, _, _, _, _, _, _, _, _, _, _, rfl, _⟩ := h; rfl) | (obtain ⟨_, _, _, _, _, _, _, _, _, _, _, _, _, _, _, _, _, _, _, _, _, rfl, _⟩ := h; rfl)
  obtain ⟨a, dx, Bs, rfl, hb, k⟩ := h
  refine ⟨_, PSs.nox (pss_cons (ps_fldC (cls_Parts S) (na_Parts_laid S) (pv 0) pe_dnewK)
      (pss_cons (ps_fldC (cls_Parts S) (na_Parts_pointed S) (pv 0) pe_dnewK)
      (pss_cons (ps_fldC (cls_Parts S) (na_Parts_holds S) (pv 0) pe_dnewK)
      (pss_one (ps_fldC (cls_Parts S) (na_Parts_given S) (pv 0) pe_int))))), ?_⟩
  walk_at "hz.st"
  walk_at "hz.g"
  rename_i H' h'
  refine k _ _ ⟨by decide, dx, _, _, _, [], [], [], fun _ => 0, rfl, ⟨fun x => rfl, fun x hx => absurd hx (Nat.not_lt_zero x), fun x hx => absurd hx (Nat.not_lt_zero x), by simp, by simp, by simp, fun x hx => by cases hx⟩⟩ (parts_new (h'.sub_of (by walk_at "hz.sub")) rfl)
theorem sc_Parts_need_part : FnScope ["self", "number"] ["self", "number"] (defScope (inClass (top 19) 1)) := ⟨rfl, rfl, rfl, by decide +kernel, rfl, by decide +kernel, by decide +kernel⟩
-- slots of Parts.need_part: self 0, number 1
theorem ok_Parts_need_part (S : Sit P w K mg base) : MF P w K mg base CX0 (He.ga K "Parts") "need_part" ["self", "number"] 2 (spNeedPart (CP K)) := by
  refine mf_Parts_need_part S fun f fd F => F.ok sc_Parts_need_part (fun vs H Q E h => ?_) (fun cdv A outer s H vs Q E hr h => ?_)
  · first | (obtain ⟨_, rfl, _⟩ := h; rfl) | (obtain ⟨_, _, rfl, _⟩ := h; rfl) | (obtain ⟨_, _, _, rfl, _⟩ := h; rfl) | (obtain ⟨_, _, _, _, rfl, _⟩ := h; rfl) | (obtain ⟨_, _, _, _, _, rfl, _⟩ := h; rfl) | (obtain ⟨_, _, _, _, _, _, rfl, _⟩ := h; rfl) | (obtain ⟨_, _, _, _, _, _, _, rfl, _⟩ := h; rfl) | (obtain ⟨_, _, _, _, _, _, _, _, rfl, _⟩ := h; rfl) | (obtain ⟨_, _, _, _, _, _, _, _, _, rfl, _⟩ := h; rfl) | (obtain ⟨_, _, _, _, _, _, _, _, _, _, rfl, _⟩ := h; rfl) | (obtain ⟨_, _, _, _, _, _, _, _, _, _, _, rfl, _⟩ := h; rfl) | (obtain ⟨_, _, _, _, _, _, _, _, _, _, _, _, rfl, _⟩ := h; rfl) | (obtain ⟨_, _, _, _, _, _, _, _, _, _, _, _, _, rfl, _⟩ := h; rfl) | (obtain ⟨_, _, _, _, _, _, _, _, _, _, _, _, _, _, rfl, _⟩ := h; rfl) | (obtain ⟨_, _, _, _, _, _, _, _, _, _, _, _, _, _, _, rfl, _⟩ := h; rfl) | (obtain ⟨_, _, _, _, _, _, _, _, _, _, _, _, _, _, _, _, rfl, _⟩ := h; rfl) | (obtain ⟨_, _, _, _, _, _, _, _, _, _, _, _, _, _, _, _, _, rfl, _⟩ := h; rfl) | (obtain ⟨_, _, _, _, _, _, _, _, _, _, _, _, _, _, _, _, _, _, rfl, _⟩ := h; rfl) | (obtain ⟨_, _, _, _, _, _, _, _, _, _, _, _, _, _, _, _, _, _, _, rfl, _⟩ := h; rfl) | (obtain ⟨_, _, _, _, _, _, _, _, _, _, _, _, _, _, _, _, _, _, _, _, rfl, _⟩ := h; rfl) | (obtain ⟨_, _, _, _, _, _, _, _, _, _, _, _, _, _, _, _, _, _, _, _, _, rfl, _⟩ := h; rfl)
  obtain ⟨a, S0, b, x, L, rfl, hb, ⟨hg, dx, dl, dp, dh, kl, kp, kh, ta, rfl, pd⟩, hx, k⟩ := h
  replace hb := parts_open hb
  have hx2 := pd.bd x hx
  refine ⟨_, PSs.nox (pss_one (ps_if (PW.pt (pw_or (pt_not (pt_val (pe_callC (ok_is_whole S) (hr.mono (by decide)) (by rfl) pass0 (pa_cons (pv 1) (pa_cons pe_int (pa_cons (pe_op op_sub (pe_fldC (cls_Parts S) (na_Parts_given S) (pv 0)) pe_int) pa_nil)))))) (pw_or1 (pt_cmp (pc_dnotin (hu_of hr) (pv 1) (pe_fldC (cls_Parts S) (na_Parts_laid S) (pv 0))) rfl)))) (pss_one ps_never) pss_nil)), ?_⟩
  walk_at "hz.st"
  walk_at "hz.g"
  refine r_whole (by omega) ?_
  walk_at "hz.g"
  rw [pd.la hx]
  walk_at "hz.g"
  exact k _ hb
theorem sc_Parts_ends : FnScope ["self", "number", "told"] ["self", "number"] (defScope (inClass (top 19) 3)) := ⟨rfl, rfl, rfl, by decide +kernel, rfl, by decide +kernel, by decide +kernel⟩
-- slots of Parts.ends: self 0, number 1, told 2
theorem ok_Parts_ends (S : Sit P w K mg base) : MF P w K mg base CX0 (He.ga K "Parts") "ends" ["self", "number"] 1 (spEnds (CP K)) := by
  refine mf_Parts_ends S fun f fd F => F.ok sc_Parts_ends (fun vs H Q E h => ?_) (fun cdv A outer s H vs Q E hr h => ?_)
  · first | (obtain ⟨_, rfl, _⟩ := h; rfl) | (obtain ⟨_, _, rfl, _⟩ := h; rfl) | (obtain ⟨_, _, _, rfl, _⟩ := h; rfl) | (obtain ⟨_, _, _, _, rfl, _⟩ := h; rfl) | (obtain ⟨_, _, _, _, _, rfl, _⟩ := h; rfl) | (obtain ⟨_, _, _, _, _, _, rfl, _⟩ := h; rfl) | (obtain ⟨_, _, _, _, _, _, _, rfl, _⟩ := h; rfl) | (obtain ⟨_, _, _, _, _, _, _, _, rfl, _⟩ := h; rfl) | (obtain ⟨_, _, _, _, _, _, _, _, _, rfl, _⟩ := h; rfl) | (obtain ⟨_, _, _, _, _, _, _, _, _, _, rfl, _⟩ := h; rfl) | (obtain ⟨_, _, _, _, _, _, _, _, _, _, _, rfl, _⟩ := h; rfl) | (obtain ⟨_, _, _, _, _, _, _, _, _, _, _, _, rfl, _⟩ := h; rfl) | (obtain ⟨_, _, _, _, _, _, _, _, _, _, _, _, _, rfl, _⟩ := h; rfl) | (obtain ⟨_, _, _, _, _, _, _, _, _, _, _, _, _, _, rfl, _⟩ := h; rfl) | (obtain ⟨_, _, _, _, _, _, _, _, _, _, _, _, _, _, _, rfl, _⟩ := h; rfl) | (obtain ⟨_, _, _, _, _, _, _, _, _, _, _, _, _, _, _, _, rfl, _⟩ := h; rfl) | (obtain ⟨_, _, _, _, _, _, _, _, _, _, _, _, _, _, _, _, _, rfl, _⟩ := h; rfl) | (obtain ⟨_, _, _, _, _, _, _, _, _, _, _, _, _, _, _, _, _, _, rfl, _⟩ := h; rfl) | (obtain ⟨_, _, _, _, _, _, _, _, _, _, _, _, _, _, _, _, _, _, _, rfl, _⟩ := h; rfl) | (obtain ⟨_, _, _, _, _, _, _, _, _, _, _, _, _, _, _, _, _, _, _, _, rfl, _⟩ := h; rfl) | (obtain ⟨_, _, _, _, _, _, _, _, _, _, _, _, _, _, _, _, _, _, _, _, _, rfl, _⟩ := h; rfl)
  obtain ⟨a, S0, b, x, L, rfl, hb, ⟨hg, dx, dl, dp, dh, kl, kp, kh, ta, rfl, pd⟩, hx, k⟩ := h
  replace hb := parts_open hb
  have hx2 := pd.bd x hx
  replace hb := hb.dup (pc_at hb (by walk_at "hz.mem") hx2)
  refine ⟨_, PSs.nox (pss_cons (ps_set (i := 2) sc_Parts_ends.nd rfl (Or.inl rfl) (pe_dget (hu_of hr) (pe_fldC (cls_Parts S) (na_Parts_laid S) (pv 0)) (pv 1) (fun _ _ => rfl)))
      (pss_cons (ps_if (pt_cmpR op_eq (pe_ix (ix_tupK (K := K) rfl) (pv 2) pe_int (fun _ _ => rfl)) pe_str (nomark _)) (pss_one (ps_ret (pe_tup (pa_cons (pe_ix (ix_tupK (K := K) rfl) (pv 2) pe_int (fun _ _ => rfl)) (pa_cons (pe_op op_add (pe_ix (ix_tupK (K := K) rfl) (pv 2) pe_int (fun _ _ => rfl)) pe_int) pa_nil))))) pss_nil)
      (pss_one (ps_ret (pe_tup (pa_cons (pe_ix (ix_tupK (K := K) rfl) (pv 2) pe_int (fun _ _ => rfl)) (pa_cons (pe_ix (ix_tupK (K := K) rfl) (pv 2) pe_int (fun _ _ => rfl)) pa_nil))))))), ?_⟩
  walk_at "hz.st"
  walk_at "hz.g"
  · exact pd.la hx
  walk_at "hz.g"
  cases e : S0.ds x with
  | leaf p w =>
    rw [e] at hb k
    rw [show ((Prt.leaf p w).lo : Int) = (p : Int) from rfl, show ((Prt.leaf p w).hi : Int) = (p : Int) + 1 from rfl] at k
    walk_at "hz.g"
    rename_i H' h'
    exact k _ _ (parts_close1 (h'.sub_of (by walk_at "hz.sub")))
  | fork lo hi l r =>
    rw [e] at hb k
    rw [show ((Prt.fork lo hi l r).lo : Int) = (lo : Int) from rfl, show ((Prt.fork lo hi l r).hi : Int) = (hi : Int) from rfl] at k
    walk_at "hz.g"
    rename_i H' h'
    exact k _ _ (parts_close1 (h'.sub_of (by walk_at "hz.sub")))
theorem sc_Parts_need_half : FnScope ["self", "number", "low", "high"] ["self", "number", "low", "high"] (defScope (inClass (top 19) 2)) := ⟨rfl, rfl, rfl, by decide +kernel, rfl, by decide +kernel, by decide +kernel⟩
-- slots of Parts.need_half: self 0, number 1, low 2, high 3
theorem ok_Parts_need_half (S : Sit P w K mg base) : MF P w K mg base CX0 (He.ga K "Parts") "need_half" ["self", "number", "low", "high"] 3 (spNeedHalf (CP K)) := by
  refine mf_Parts_need_half S fun f fd F => F.ok sc_Parts_need_half (fun vs H Q E h => ?_) (fun cdv A outer s H vs Q E hr h => ?_)
  · first | (obtain ⟨_, rfl, _⟩ := h; rfl) | (obtain ⟨_, _, rfl, _⟩ := h; rfl) | (obtain ⟨_, _, _, rfl, _⟩ := h; rfl) | (obtain ⟨_, _, _, _, rfl, _⟩ := h; rfl) | (obtain ⟨_, _, _, _, _, rfl, _⟩ := h; rfl) | (obtain ⟨_, _, _, _, _, _, rfl, _⟩ := h; rfl) | (obtain ⟨_, _, _, _, _, _, _, rfl, _⟩ := h; rfl) | (obtain ⟨_, _, _, _, _, _, _, _, rfl, _⟩ := h; rfl) | (obtain ⟨_, _, _, _, _, _, _, _, _, rfl, _⟩ := h; rfl) | (obtain ⟨_, _, _, _, _, _, _, _, _, _, rfl, _⟩ := h; rfl) | (obtain ⟨_, _, _, _, _, _, _, _, _, _, _, rfl, _⟩ := h; rfl) | (obtain ⟨_, _, _, _, _, _, _, _, _, _, _, _, rfl, _⟩ := h; rfl) | (obtain ⟨_, _, _, _, _, _, _, _, _, _, _, _, _, rfl, _⟩ := h; rfl) | (obtain ⟨_, _, _, _, _, _, _, _, _, _, _, _, _, _, rfl, _⟩ := h; rfl) | (obtain ⟨_, _, _, _, _, _, _, _, _, _, _, _, _, _, _, rfl, _⟩ := h; rfl) | (obtain ⟨_, _, _, _, _, _, _, _, _, _, _, _, _, _, _, _, rfl, _⟩ := h; rfl) | (obtain ⟨_, _, _, _, _, _, _, _, _, _, _, _, _, _, _, _, _, rfl, _⟩ := h; rfl) | (obtain ⟨_, _, _, _, _, _, _, _, _, _, _, _, _, _, _, _, _, _, rfl, _⟩ := h; rfl) | (obtain ⟨_, _, _, _, _, _, _, _, _, _, _, _, _, _, _, _, _, _, _, rfl, _⟩ := h; rfl) | (obtain ⟨_, _, _, _, _, _, _, _, _, _, _, _, _, _, _, _, _, _, _, _, rfl, _⟩ := h; rfl) | (obtain ⟨_, _, _, _, _, _, _, _, _, _, _, _, _, _, _, _, _, _, _, _, _, rfl, _⟩ := h; rfl)
  obtain ⟨a, S0, b, x, L, rfl, hb, ⟨hg, dx, dl, dp, dh, kl, kp, kh, ta, rfl, pd⟩, hx, k⟩ := h
  replace hb := parts_open hb
  refine ⟨_, PSs.nox (pss_cons (ps_expr (pe_methC (pv 0) (ok_Parts_need_part S) (hr.mono (by decide)) pass0 (pa_cons (pv 1) pa_nil)))
      (pss_one (ps_if (pt_cmpR (op_neDK (K := K) (hu64 hr) rfl) (pe_methC (pv 0) (ok_Parts_ends S) (hr.mono (by decide)) pass0 (pa_cons (pv 1) pa_nil)) (pe_tup (pa_cons (pv 2) (pa_cons (pv 3) pa_nil))) (nomark _)) (pss_one ps_never) pss_nil))), ?_⟩
  walk_at "hz.st"
  walk_at "hz.g"
  refine ⟨a, S0, _, x, L, rfl, parts_close hb, ⟨hg, dx, dl, dp, dh, kl, kp, kh, ta, rfl, pd⟩, hx, fun H1 h1 => ?_⟩
  replace h1 := parts_open h1
  walk_at "hz.g"
  refine ⟨a, S0, _, x, L, rfl, parts_close h1, ⟨hg, dx, dl, dp, dh, kl, kp, kh, ta, rfl, pd⟩, hx, fun p H2 h2 => ?_⟩
  walk_at "hz.g"
  rename_i q H3 h3
  refine r_neT2 (h3.at (by walk_at "hz.at")) (h3.at (by walk_at "hz.at")) ?_
  walk_at "hz.g"
  refine r_no (by simp) ?_
  walk_at "hz.g"
  exact k _ h3.tail.tail
theorem sc_Parts_lay : FnScope ["self", "told", "number", "half"] ["self", "told"] (defScope (inClass (top 19) 4)) := ⟨rfl, rfl, rfl, by decide +kernel, rfl, by decide +kernel, by decide +kernel⟩
-- slots of Parts.lay: self 0, told 1, number 2, half 3
theorem ok_Parts_lay (S : Sit P w K mg base) : MF P w K mg base CX0 (He.ga K "Parts") "lay" ["self", "told"] 1 (spPLay (CP K)) := by
  refine mf_Parts_lay S fun f fd F => F.ok sc_Parts_lay (fun vs H Q E h => ?_) (fun cdv A outer s H vs Q E hr h => ?_)
  · first | (obtain ⟨_, rfl, _⟩ := h; rfl) | (obtain ⟨_, _, rfl, _⟩ := h; rfl) | (obtain ⟨_, _, _, rfl, _⟩ := h; rfl) | (obtain ⟨_, _, _, _, rfl, _⟩ := h; rfl) | (obtain ⟨_, _, _, _, _, rfl, _⟩ := h; rfl) | (obtain ⟨_, _, _, _, _, _, rfl, _⟩ := h; rfl) | (obtain ⟨_, _, _, _, _, _, _, rfl, _⟩ := h; rfl) | (obtain ⟨_, _, _, _, _, _, _, _, rfl, _⟩ := h; rfl) | (obtain ⟨_, _, _, _, _, _, _, _, _, rfl, _⟩ := h; rfl) | (obtain ⟨_, _, _, _, _, _, _, _, _, _, rfl, _⟩ := h; rfl) | (obtain ⟨_, _, _, _, _, _, _, _, _, _, _, rfl, _⟩ := h; rfl) | (obtain ⟨_, _, _, _, _, _, _, _, _, _, _, _, rfl, _⟩ := h; rfl) | (obtain ⟨_, _, _, _, _, _, _, _, _, _, _, _, _, rfl, _⟩ := h; rfl) | (obtain ⟨_, _, _, _, _, _, _, _, _, _, _, _, _, _, rfl, _⟩ := h; rfl) | (obtain ⟨_, _, _, _, _, _, _, _, _, _, _, _, _, _, _, rfl, _⟩ := h; rfl) | (obtain ⟨_, _, _, _, _, _, _, _, _, _, _, _, _, _, _, _, rfl, _⟩ := h; rfl) | (obtain ⟨_, _, _, _, _, _, _, _, _, _, _, _, _, _, _, _, _, rfl, _⟩ := h; rfl) | (obtain ⟨_, _, _, _, _, _, _, _, _, _, _, _, _, _, _, _, _, _, rfl, _⟩ := h; rfl) | (obtain ⟨_, _, _, _, _, _, _, _, _, _, _, _, _, _, _, _, _, _, _, rfl, _⟩ := h; rfl) | (obtain ⟨_, _, _, _, _, _, _, _, _, _, _, _, _, _, _, _, _, _, _, _, rfl, _⟩ := h; rfl) | (obtain ⟨_, _, _, _, _, _, _, _, _, _, _, _, _, _, _, _, _, _, _, _, _, rfl, _⟩ := h; rfl)
  obtain ⟨a, t, S0, d, b, L, rfl, hb, ⟨hg, dx, dl, dp, dh, kl, kp, kh, ta, rfl, pd⟩, hd, hgv, k⟩ := h
  replace hb := parts_open hb.swap
  have b1 := pd.nl
  have b2 := pd.np
  have b3 := pd.nh
  refine ⟨_, PSs.nox (pss_cons (ps_set (i := 2) sc_Parts_lay.nd rfl (Or.inl rfl) (pe_fldC (cls_Parts S) (na_Parts_given S) (pv 0)))
      (pss_cons (ps_dput (hu_of hr) (pe_fldC (cls_Parts S) (na_Parts_laid S) (pv 0)) (pv 2) (pv 1) rfl)
      (pss_cons (ps_dput (hu_of hr) (pe_fldC (cls_Parts S) (na_Parts_pointed S) (pv 0)) (pv 2) pe_int rfl)
      (pss_cons (ps_dput (hu_of hr) (pe_fldC (cls_Parts S) (na_Parts_holds S) (pv 0)) (pv 2) pe_int rfl)
      (pss_cons (ps_for PassesOwn.never rfl (pi_tup (pe_slice (sl_tupAK (K := K) rfl) (pv 1) (po_some pe_int) po_none)) (pg_name (i := 3) sc_Parts_lay.nd rfl (Or.inl rfl)) (pss_one (ps_daug (hu_of hr) (pe_fldC (cls_Parts S) (na_Parts_pointed S) (pv 0)) (pv 3) pe_int in_add (fun _ _ _ => rfl))))
      (pss_cons (ps_fldaugC (cls_Parts S) (na_Parts_given S) in_add (pv 0) pe_int)
      (pss_one (ps_ret (pv 2))))))))), ?_⟩
  walk_at "hz.st"
  walk_at "hz.g"
  · exact sz100' (by omega)
  intro H1 h1
  walk_at "hz.g"
  · exact sz100' (by omega)
  intro H2 h2
  walk_at "hz.g"
  · exact sz100' (by omega)
  intro H3 h3
  walk_at "hz.g"
  refine r_slT1 (.of (h3.at (by walk_at "hz.at"))) h3 (desc_part d) fun q H4 h4 => ?_
  rw [desc_cut] at h4
  walk_at "hz.g"
  refine for_w (walk_ivT (xs := d.halves)) (fun i σ H => ∃ z kp', σ = [some (.ref a), some (.ref t), some (.int S0.gv), z] ∧ (∀ x, x < S0.gv + 1 → valV kp' (ik x) = some (.int (ptUp (upf S0.pt S0.gv 0) (d.halves.take i) x))) ∧ kp'.length ≤ S0.gv + 1 ∧
    HB H ([(q, .tup (iv d.halves))] :: [(a, .ins (CP K) dx (partsF dl dp dh S0.gv))] :: [(dl, .dK (putK kl (ik S0.gv) (.ref t)))] :: [(dp, .dK kp')] :: [(dh, .dK (putK kh (ik S0.gv) (.int 0)))] :: rc S0.gv ta (pc S0) :: [(t, .tup (descV d))] :: L)) ?_ (fun i σ H hi h => ?_) (fun i x σ H H' hi h y => ?_) (fun σ H h => ?_)
  · refine ⟨none, _, rfl, fun x hx => ?_, ?_, h4⟩
    · show valV (putK kp (ik S0.gv) (.int 0)) (ik x) = some (.int (upf S0.pt S0.gv 0 x))
      rw [valV_put]
      by_cases e : x = S0.gv
      · subst e
        rw [if_pos rfl, upf_same]
      · rw [if_neg (fun z => e (ik_inj.mp z)), upf_ne e, pd.p x (by omega)]
    · have := putK_len kp (ik S0.gv) (V.int 0)
      omega
  · obtain ⟨z, kp', rfl, _, _, hb⟩ := h
    exact SqT.of (hb.at (by walk_at "hz.at"))
  · obtain ⟨z, kp', rfl, hp, hl, hb⟩ := h
    obtain ⟨rfl, y, hy, rfl⟩ := y
    have hyg := hd y (List.mem_of_getElem? hy)
    walk_at "hz.g"
    · exact hp y (by omega)
    walk_at "hz.g"
    · exact sz100' (by omega)
    intro H5 h5
    refine ⟨_, _, rfl, fun x hx => ?_, ?_, h5⟩
    · rw [valV_put, ptUp_take hy]
      by_cases e : x = y
      · subst e
        rw [if_pos rfl, upf_same]
      · rw [if_neg (fun z => e (ik_inj.mp z)), upf_ne e, hp x hx]
    · rw [putK_len_in (hp y (by omega))]
      exact hl
  · obtain ⟨z, kp', rfl, hp, hl, hb⟩ := h
    walk_at "hz.g"
    rename_i H5 h5
    rw [List.take_length] at hp
    refine k _ _ ⟨(by show S0.gv + 1 ≤ 5000; omega), dx, dl, dp, dh, _, kp', _, fset ta S0.gv t, rfl, ?_⟩ (parts_lay (h5.sub_of (by walk_at "hz.sub")))
    refine ⟨fun x => ?_, hp, fun x hx => ?_, ?_, hl, ?_, fun x hx => ?_⟩
    · rw [valV_put]
      show _ = if upf S0.al S0.gv true x = true then some (V.ref (fset ta S0.gv t x)) else none
      by_cases e : x = S0.gv
      · subst e
        rw [if_pos rfl, upf_same, fset_same]
        rfl
      · rw [if_neg (fun z => e (ik_inj.mp z)), upf_ne e, pd.l x]
        by_cases c : S0.al x = true
        · rw [if_pos c, if_pos c, fset_lt (pd.bd x c)]
        · rw [if_neg c, if_neg c]
    · rw [valV_put]
      show _ = some (V.int (upf S0.hd S0.gv 0 x))
      have hx : x < S0.gv + 1 := hx
      by_cases e : x = S0.gv
      · subst e
        rw [if_pos rfl, upf_same]
      · rw [if_neg (fun z => e (ik_inj.mp z)), upf_ne e, pd.h x (by omega)]
    · have := putK_len kl (ik S0.gv) (V.ref t)
      show _ ≤ S0.gv + 1
      omega
    · have := putK_len kh (ik S0.gv) (V.int 0)
      show _ ≤ S0.gv + 1
      omega
    · show x < S0.gv + 1
      have hx : upf S0.al S0.gv true x = true := hx
      by_cases e : x = S0.gv
      · omega
      · rw [upf_ne e] at hx
        have := pd.bd x hx
        omega
theorem sc_Parts_part : FnScope ["self", "number"] ["self", "number"] (defScope (inClass (top 19) 7)) := ⟨rfl, rfl, rfl, by decide +kernel, rfl, by decide +kernel, by decide +kernel⟩
-- slots of Parts.part: self 0, number 1
theorem ok_Parts_part (S : Sit P w K mg base) : MF P w K mg base CX0 (He.ga K "Parts") "part" ["self", "number"] 3 (spPart (CP K)) := by
  refine mf_Parts_part S fun f fd F => F.ok sc_Parts_part (fun vs H Q E h => ?_) (fun cdv A outer s H vs Q E hr h => ?_)
  · first | (obtain ⟨_, rfl, _⟩ := h; rfl) | (obtain ⟨_, _, rfl, _⟩ := h; rfl) | (obtain ⟨_, _, _, rfl, _⟩ := h; rfl) | (obtain ⟨_, _, _, _, rfl, _⟩ := h; rfl) | (obtain ⟨_, _, _, _, _, rfl, _⟩ := h; rfl) | (obtain ⟨_, _, _, _, _, _, rfl, _⟩ := h; rfl) | (obtain ⟨_, _, _, _, _, _, _, rfl, _⟩ := h; rfl) | (obtain ⟨_, _, _, _, _, _, _, _, rfl, _⟩ := h; rfl) | (obtain ⟨_, _, _, _, _, _, _, _, _, rfl, _⟩ := h; rfl) | (obtain ⟨_, _, _, _, _, _, _, _, _, _, rfl, _⟩ := h; rfl) | (obtain ⟨_, _, _, _, _, _, _, _, _, _, _, rfl, _⟩ := h; rfl) | (obtain ⟨_, _, _, _, _, _, _, _, _, _, _, _, rfl, _⟩ := h; rfl) | (obtain ⟨_, _, _, _, _, _, _, _, _, _, _, _, _, rfl, _⟩ := h; rfl) | (obtain ⟨_, _, _, _, _, _, _, _, _, _, _, _, _, _, rfl, _⟩ := h; rfl) | (obtain ⟨_, _, _, _, _, _, _, _, _, _, _, _, _, _, _, rfl, _⟩ := h; rfl) | (obtain ⟨_, _, _, _, _, _, _, _, _, _, _, _, _, _, _, _, rfl, _⟩ := h; rfl) | (obtain ⟨_, _, _, _, _, _, _, _, _, _, _, _, _, _, _, _, _, rfl, _⟩ := h; rfl) | (obtain ⟨_, _, _, _, _, _, _, _, _, _, _, _, _, _, _, _, _, _, rfl, _⟩ := h; rfl) | (obtain ⟨_, _, _, _, _, _, _, _, _, _, _, _, _, _, _, _, _, _, _, rfl, _⟩ := h; rfl) | (obtain ⟨_, _, _, _, _, _, _, _, _, _, _, _, _, _, _, _, _, _, _, _, rfl, _⟩ := h; rfl) | (obtain ⟨_, _, _, _, _, _, _, _, _, _, _, _, _, _, _, _, _, _, _, _, _, rfl, _⟩ := h; rfl)
  obtain ⟨a, S0, b, x, L, rfl, hb, ⟨hg, dx, dl, dp, dh, kl, kp, kh, ta, rfl, pd⟩, hx, k⟩ := h
  replace hb := parts_open hb
  refine ⟨_, PSs.nox (pss_cons (ps_expr (pe_methC (pv 0) (ok_Parts_need_part S) (hr.mono (by decide)) pass0 (pa_cons (pv 1) pa_nil)))
      (pss_one (ps_ret (pe_dget (hu_of hr) (pe_fldC (cls_Parts S) (na_Parts_laid S) (pv 0)) (pv 1) (fun _ _ => rfl))))), ?_⟩
  walk_at "hz.st"
  walk_at "hz.g"
  refine ⟨a, S0, _, x, L, rfl, parts_close hb, ⟨hg, dx, dl, dp, dh, kl, kp, kh, ta, rfl, pd⟩, hx, fun H1 h1 => ?_⟩
  replace h1 := parts_open h1
  walk_at "hz.g"
  · exact pd.la hx
  walk_at "hz.g"
  exact k _ _ (parts_close1 (h1.dup (pc_at h1 (by walk_at "hz.mem") (pd.bd x hx))))
theorem sc_Parts_many : FnScope ["self"] ["self"] (defScope (inClass (top 19) 8)) := ⟨rfl, rfl, rfl, by decide +kernel, rfl, by decide +kernel, by decide +kernel⟩
-- slots of Parts.many: self 0
theorem ok_Parts_many (S : Sit P w K mg base) : MF P w K mg base CX0 (He.ga K "Parts") "many" ["self"] 1 (spPMany (CP K)) := by
  refine mf_Parts_many S fun f fd F => F.ok sc_Parts_many (fun vs H Q E h => ?_) (fun cdv A outer s H vs Q E hr h => ?_)
  · first | (obtain ⟨_, rfl, _⟩ := h; rfl) | (obtain ⟨_, _, rfl, _⟩ := h; rfl) | (obtain ⟨_, _, _, rfl, _⟩ := h; rfl) | (obtain ⟨_, _, _, _, rfl, _⟩ := h; rfl) | (obtain ⟨_, _, _, _, _, rfl, _⟩ := h; rfl) | (obtain ⟨_, _, _, _, _, _, rfl, _⟩ := h; rfl) | (obtain ⟨_, _, _, _, _, _, _, rfl, _⟩ := h; rfl) | (obtain ⟨_, _, _, _, _, _, _, _, rfl, _⟩ := h; rfl) | (obtain ⟨_, _, _, _, _, _, _, _, _, rfl, _⟩ := h; rfl) | (obtain ⟨_, _, _, _, _, _, _, _, _, _, rfl, _⟩ := h; rfl) | (obtain ⟨_, _, _, _, _, _, _, _, _, _, _, rfl, _⟩ := h; rfl) | (obtain ⟨_, _, _, _, _, _, _, _, _, _, _, _, rfl, _⟩ := h; rfl) | (obtain ⟨_, _, _, _, _, _, _, _, _, _, _, _, _, rfl, _⟩ := h; rfl) | (obtain ⟨_, _, _, _, _, _, _, _, _, _, _, _, _, _, rfl, _⟩ := h; rfl) | (obtain ⟨_, _, _, _, _, _, _, _, _, _, _, _, _, _, _, rfl, _⟩ := h; rfl) | (obtain ⟨_, _, _, _, _, _, _, _, _, _, _, _, _, _, _, _, rfl, _⟩ := h; rfl) | (obtain ⟨_, _, _, _, _, _, _, _, _, _, _, _, _, _, _, _, _, rfl, _⟩ := h; rfl) | (obtain ⟨_, _, _, _, _, _, _, _, _, _, _, _, _, _, _, _, _, _, rfl, _⟩ := h; rfl) | (obtain ⟨_, _, _, _, _, _, _, _, _, _, _, _, _, _, _, _, _, _, _, rfl, _⟩ := h; rfl) | (obtain ⟨_, _, _, _, _, _, _, _, _, _, _, _, _, _, _, _, _, _, _, _, rfl, _⟩ := h; rfl) | (obtain ⟨_, _, _, _, _, _, _, _, _, _, _, _, _, _, _, _, _, _, _, _, _, rfl, _⟩ := h; rfl)
  obtain ⟨a, S0, b, L, rfl, hb, ⟨hg, dx, dl, dp, dh, kl, kp, kh, ta, rfl, pd⟩, k⟩ := h
  replace hb := parts_open hb
  refine ⟨_, PSs.nox (pss_one (ps_ret (pe_callB call_lenDC (by rfl) (fr_len S) bt_len (pa_cons (pe_fldC (cls_Parts S) (na_Parts_laid S) (pv 0)) pa_nil)))), ?_⟩
  walk_at "hz.st"
  walk_at "hz.g"
  exact k _ _ hb
theorem sc_Parts_leaf : FnScope ["self", "place", "worth"] ["self", "place", "worth"] (defScope (inClass (top 19) 5)) := ⟨rfl, rfl, rfl, by decide +kernel, rfl, by decide +kernel, by decide +kernel⟩
-- slots of Parts.leaf: self 0, place 1, worth 2
theorem ok_Parts_leaf (S : Sit P w K mg base) : MF P w K mg base CX0 (He.ga K "Parts") "leaf" ["self", "place", "worth"] 3 (spLeaf (CP K)) := by
  refine mf_Parts_leaf S fun f fd F => F.ok sc_Parts_leaf (fun vs H Q E h => ?_) (fun cdv A outer s H vs Q E hr h => ?_)
  · first | (obtain ⟨_, rfl, _⟩ := h; rfl) | (obtain ⟨_, _, rfl, _⟩ := h; rfl) | (obtain ⟨_, _, _, rfl, _⟩ := h; rfl) | (obtain ⟨_, _, _, _, rfl, _⟩ := h; rfl) | (obtain ⟨_, _, _, _, _, rfl, _⟩ := h; rfl) | (obtain ⟨_, _, _, _, _, _, rfl, _⟩ := h; rfl) | (obtain ⟨_, _, _, _, _, _, _, rfl, _⟩ := h; rfl) | (obtain ⟨_, _, _, _, _, _, _, _, rfl, _⟩ := h; rfl) | (obtain ⟨_, _, _, _, _, _, _, _, _, rfl, _⟩ := h; rfl) | (obtain ⟨_, _, _, _, _, _, _, _, _, _, rfl, _⟩ := h; rfl) | (obtain ⟨_, _, _, _, _, _, _, _, _, _, _, rfl, _⟩ := h; rfl) | (obtain ⟨_, _, _, _, _, _, _, _, _, _, _, _, rfl, _⟩ := h; rfl) | (obtain ⟨_, _, _, _, _, _, _, _, _, _, _, _, _, rfl, _⟩ := h; rfl) | (obtain ⟨_, _, _, _, _, _, _, _, _, _, _, _, _, _, rfl, _⟩ := h; rfl) | (obtain ⟨_, _, _, _, _, _, _, _, _, _, _, _, _, _, _, rfl, _⟩ := h; rfl) | (obtain ⟨_, _, _, _, _, _, _, _, _, _, _, _, _, _, _, _, rfl, _⟩ := h; rfl) | (obtain ⟨_, _, _, _, _, _, _, _, _, _, _, _, _, _, _, _, _, rfl, _⟩ := h; rfl) | (obtain ⟨_, _, _, _, _, _, _, _, _, _, _, _, _, _, _, _, _, _, rfl, _⟩ := h; rfl) | (obtain ⟨_, _, _, _, _, _, _, _, _, _, _, _, _, _, _, _, _, _, _, rfl, _⟩ := h; rfl) | (obtain ⟨_, _, _, _, _, _, _, _, _, _, _, _, _, _, _, _, _, _, _, _, rfl, _⟩ := h; rfl) | (obtain ⟨_, _, _, _, _, _, _, _, _, _, _, _, _, _, _, _, _, _, _, _, _, rfl, _⟩ := h; rfl)
  obtain ⟨a, S0, b, p, w2, L, rfl, hb, hP, hp, hw, hgv, k⟩ := h
  obtain ⟨hg, dx, dl, dp, dh, kl, kp, kh, ta, rfl, pd⟩ := hP
  replace hb := parts_open hb
  refine ⟨_, PSs.nox (pss_cons (ps_if (pt_not (pt_val (pe_callC (ok_is_whole S) (hr.mono (by decide)) (by rfl) pass0 (pa_cons (pv 1) (pa_cons pe_int (pa_cons (pe_op op_sub (pe_ci (ci_MOST_PLACES S)) pe_int) pa_nil)))))) (pss_one ps_never) pss_nil)
      (pss_cons (ps_if (pt_not (pt_val (pe_callC (ok_is_worth S) (hr.mono (by decide)) (by rfl) pass0 (pa_cons (pv 2) pa_nil)))) (pss_one ps_never) pss_nil)
      (pss_one (ps_ret (pe_methC (pv 0) (ok_Parts_lay S) (hr.mono (by decide)) pass0 (pa_cons (pe_tup (pa_cons pe_str (pa_cons (pv 1) (pa_cons (pv 2) pa_nil)))) pa_nil)))))), ?_⟩
  walk_at "hz.st"
  walk_at "hz.g"
  refine r_whole (by omega) ?_
  walk_at "hz.g"
  refine r_worth hw ?_
  walk_at "hz.g"
  rename_i t H1 h1
  refine ⟨a, t, S0, .leaf p w2, _, L, rfl, parts_close1 h1, ⟨hg, dx, dl, dp, dh, kl, kp, kh, ta, rfl, pd⟩, fun z hz => (nomatch hz), hgv, fun b' H2 hP h2 => ?_⟩
  exact k _ _ hP h2
theorem sc_Parts_fork : FnScope ["self", "low", "high", "left", "right", "middle"] ["self", "low", "high", "left", "right"] (defScope (inClass (top 19) 6)) := ⟨rfl, rfl, rfl, by decide +kernel, rfl, by decide +kernel, by decide +kernel⟩
-- slots of Parts.fork: self 0, low 1, high 2, left 3, right 4, middle 5
theorem ok_Parts_fork (S : Sit P w K mg base) : MF P w K mg base CX0 (He.ga K "Parts") "fork" ["self", "low", "high", "left", "right"] 4 (spFork (CP K)) := by
  refine mf_Parts_fork S fun f fd F => F.ok sc_Parts_fork (fun vs H Q E h => ?_) (fun cdv A outer s H vs Q E hr h => ?_)
  · first | (obtain ⟨_, rfl, _⟩ := h; rfl) | (obtain ⟨_, _, rfl, _⟩ := h; rfl) | (obtain ⟨_, _, _, rfl, _⟩ := h; rfl) | (obtain ⟨_, _, _, _, rfl, _⟩ := h; rfl) | (obtain ⟨_, _, _, _, _, rfl, _⟩ := h; rfl) | (obtain ⟨_, _, _, _, _, _, rfl, _⟩ := h; rfl) | (obtain ⟨_, _, _, _, _, _, _, rfl, _⟩ := h; rfl) | (obtain ⟨_, _, _, _, _, _, _, _, rfl, _⟩ := h; rfl) | (obtain ⟨_, _, _, _, _, _, _, _, _, rfl, _⟩ := h; rfl) | (obtain ⟨_, _, _, _, _, _, _, _, _, _, rfl, _⟩ := h; rfl) | (obtain ⟨_, _, _, _, _, _, _, _, _, _, _, rfl, _⟩ := h; rfl) | (obtain ⟨_, _, _, _, _, _, _, _, _, _, _, _, rfl, _⟩ := h; rfl) | (obtain ⟨_, _, _, _, _, _, _, _, _, _, _, _, _, rfl, _⟩ := h; rfl) | (obtain ⟨_, _, _, _, _, _, _, _, _, _, _, _, _, _, rfl, _⟩ := h; rfl) | (obtain ⟨_, _, _, _, _, _, _, _, _, _, _, _, _, _, _, rfl, _⟩ := h; rfl) | (obtain ⟨_, _, _, _, _, _, _, _, _, _, _, _, _, _, _, _, rfl, _⟩ := h; rfl) | (obtain ⟨_, _, _, _, _, _, _, _, _, _, _, _, _, _, _, _, _, rfl, _⟩ := h; rfl) | (obtain ⟨_, _, _, _, _, _, _, _, _, _, _, _, _, _, _, _, _, _, rfl, _⟩ := h; rfl) | (obtain ⟨_, _, _, _, _, _, _, _, _, _, _, _, _, _, _, _, _, _, _, rfl, _⟩ := h; rfl) | (obtain ⟨_, _, _, _, _, _, _, _, _, _, _, _, _, _, _, _, _, _, _, _, rfl, _⟩ := h; rfl) | (obtain ⟨_, _, _, _, _, _, _, _, _, _, _, _, _, _, _, _, _, _, _, _, _, rfl, _⟩ := h; rfl)
  obtain ⟨a, S0, b, x, y, L, rfl, hb, ⟨hg, dx, dl, dp, dh, kl, kp, kh, ta, rfl, pd⟩, hx, hy, hm, e1, e2, hh, hgv, k⟩ := h
  replace hb := parts_open hb
  refine ⟨_, PSs.nox (pss_cons (ps_if (PW.pt (pw_or (pt_not (pt_val (pe_callC (ok_is_whole S) (hr.mono (by decide)) (by rfl) pass0 (pa_cons (pv 1) (pa_cons pe_int (pa_cons (pe_op op_sub (pe_ci (ci_MOST_PLACES S)) pe_int) pa_nil)))))) (pw_or1 (pt_not (pt_val (pe_callC (ok_is_whole S) (hr.mono (by decide)) (by rfl) pass0 (pa_cons (pv 2) (pa_cons (pe_op op_add (pv 1) pe_int) (pa_cons (pe_ci (ci_MOST_PLACES S)) pa_nil))))))))) (pss_one ps_never) pss_nil)
      (pss_cons (ps_set (i := 5) sc_Parts_fork.nd rfl (Or.inl rfl) (pe_op op_fdiv (pe_op op_add (pv 1) (pv 2)) pe_int))
      (pss_cons (ps_expr (pe_methC (pv 0) (ok_Parts_need_half S) (hr.mono (by decide)) pass0 (pa_cons (pv 3) (pa_cons (pv 1) (pa_cons (pv 5) pa_nil)))))
      (pss_cons (ps_expr (pe_methC (pv 0) (ok_Parts_need_half S) (hr.mono (by decide)) pass0 (pa_cons (pv 4) (pa_cons (pv 5) (pa_cons (pv 2) pa_nil)))))
      (pss_one (ps_ret (pe_methC (pv 0) (ok_Parts_lay S) (hr.mono (by decide)) pass0 (pa_cons (pe_tup (pa_cons pe_str (pa_cons (pv 1) (pa_cons (pv 2) (pa_cons (pv 3) (pa_cons (pv 4) pa_nil)))))) pa_nil)))))))), ?_⟩
  walk_at "hz.st"
  walk_at "hz.g"
  refine r_whole (by omega) ?_
  walk_at "hz.g"
  refine r_whole (by omega) ?_
  walk_at "hz.g"
  rw [show (((S0.ds x).lo : Int) + ((S0.ds y).hi : Int)) / 2 = ((S0.ds x).hi : Int) by omega]
  refine ⟨a, S0, _, x, L, rfl, parts_close hb, ⟨hg, dx, dl, dp, dh, kl, kp, kh, ta, rfl, pd⟩, hx, fun H1 h1 => ?_⟩
  replace h1 := parts_open h1
  walk_at "hz.g"
  rw [e1]
  refine ⟨a, S0, _, y, L, rfl, parts_close h1, ⟨hg, dx, dl, dp, dh, kl, kp, kh, ta, rfl, pd⟩, hy, fun H2 h2 => ?_⟩
  replace h2 := parts_open h2
  walk_at "hz.g"
  rename_i t H3 h3
  refine ⟨a, t, S0, .fork (S0.ds x).lo (S0.ds y).hi x y, _, L, rfl, parts_close1 h3, ⟨hg, dx, dl, dp, dh, kl, kp, kh, ta, rfl, pd⟩, fun z hz => ?_, hgv, fun b' H4 hP h4 => ?_⟩
  · rcases List.mem_cons.mp hz with e | e
    · rw [e]; exact pd.bd x hx
    · rw [List.mem_singleton.mp e]; exact pd.bd y hy
  · exact k _ _ hP h4
theorem sc_Parts_hold : FnScope ["self", "number"] ["self", "number"] (defScope (inClass (top 19) 11)) := ⟨rfl, rfl, rfl, by decide +kernel, rfl, by decide +kernel, by decide +kernel⟩
-- slots of Parts.hold: self 0, number 1
theorem ok_Parts_hold (S : Sit P w K mg base) : MF P w K mg base CX0 (He.ga K "Parts") "hold" ["self", "number"] 3 (spHold (CP K)) := by
  refine mf_Parts_hold S fun f fd F => F.ok sc_Parts_hold (fun vs H Q E h => ?_) (fun cdv A outer s H vs Q E hr h => ?_)
  · first | (obtain ⟨_, rfl, _⟩ := h; rfl) | (obtain ⟨_, _, rfl, _⟩ := h; rfl) | (obtain ⟨_, _, _, rfl, _⟩ := h; rfl) | (obtain ⟨_, _, _, _, rfl, _⟩ := h; rfl) | (obtain ⟨_, _, _, _, _, rfl, _⟩ := h; rfl) | (obtain ⟨_, _, _, _, _, _, rfl, _⟩ := h; rfl) | (obtain ⟨_, _, _, _, _, _, _, rfl, _⟩ := h; rfl) | (obtain ⟨_, _, _, _, _, _, _, _, rfl, _⟩ := h; rfl) | (obtain ⟨_, _, _, _, _, _, _, _, _, rfl, _⟩ := h; rfl) | (obtain ⟨_, _, _, _, _, _, _, _, _, _, rfl, _⟩ := h; rfl) | (obtain ⟨_, _, _, _, _, _, _, _, _, _, _, rfl, _⟩ := h; rfl) | (obtain ⟨_, _, _, _, _, _, _, _, _, _, _, _, rfl, _⟩ := h; rfl) | (obtain ⟨_, _, _, _, _, _, _, _, _, _, _, _, _, rfl, _⟩ := h; rfl) | (obtain ⟨_, _, _, _, _, _, _, _, _, _, _, _, _, _, rfl, _⟩ := h; rfl) | (obtain ⟨_, _, _, _, _, _, _, _, _, _, _, _, _, _, _, rfl, _⟩ := h; rfl) | (obtain ⟨_, _, _, _, _, _, _, _, _, _, _, _, _, _, _, _, rfl, _⟩ := h; rfl) | (obtain ⟨_, _, _, _, _, _, _, _, _, _, _, _, _, _, _, _, _, rfl, _⟩ := h; rfl) | (obtain ⟨_, _, _, _, _, _, _, _, _, _, _, _, _, _, _, _, _, _, rfl, _⟩ := h; rfl) | (obtain ⟨_, _, _, _, _, _, _, _, _, _, _, _, _, _, _, _, _, _, _, rfl, _⟩ := h; rfl) | (obtain ⟨_, _, _, _, _, _, _, _, _, _, _, _, _, _, _, _, _, _, _, _, rfl, _⟩ := h; rfl) | (obtain ⟨_, _, _, _, _, _, _, _, _, _, _, _, _, _, _, _, _, _, _, _, _, rfl, _⟩ := h; rfl)
  obtain ⟨a, S0, b, x, L, rfl, hb, ⟨hg, dx, dl, dp, dh, kl, kp, kh, ta, rfl, pd⟩, hx, k⟩ := h
  replace hb := parts_open hb
  have hx2 := pd.bd x hx
  refine ⟨_, PSs.nox (pss_cons (ps_expr (pe_methC (pv 0) (ok_Parts_need_part S) (hr.mono (by decide)) pass0 (pa_cons (pv 1) pa_nil)))
      (pss_cons (ps_daug (hu_of hr) (pe_fldC (cls_Parts S) (na_Parts_pointed S) (pv 0)) (pv 1) pe_int in_add (fun _ _ _ => rfl))
      (pss_one (ps_daug (hu_of hr) (pe_fldC (cls_Parts S) (na_Parts_holds S) (pv 0)) (pv 1) pe_int in_add (fun _ _ _ => rfl))))), ?_⟩
  walk_at "hz.st"
  walk_at "hz.g"
  refine ⟨a, S0, _, x, L, rfl, parts_close hb, ⟨hg, dx, dl, dp, dh, kl, kp, kh, ta, rfl, pd⟩, hx, fun H1 h1 => ?_⟩
  replace h1 := parts_open h1
  have b2 := pd.np
  have b3 := pd.nh
  walk_at "hz.g"
  · exact pd.p x hx2
  walk_at "hz.g"
  · exact sz100' (by omega)
  intro H2 h2
  walk_at "hz.g"
  · exact pd.h x hx2
  walk_at "hz.g"
  · exact sz100' (by omega)
  intro H3 h3
  walk_at "hz.g"
  refine k _ _ ⟨hg, dx, dl, dp, dh, kl, _, _, ta, rfl, ?_⟩ (parts_close (S := S0.hold x) h3)
  refine ⟨pd.l, fun y hy => ?_, fun y hy => ?_, pd.nl, ?_, ?_, pd.bd⟩
  · rw [valV_put]
    show _ = some (V.int (upf S0.pt x (S0.pt x + 1) y))
    by_cases e : y = x
    · subst e
      rw [if_pos rfl, upf_same]
    · rw [if_neg (fun z => e (ik_inj.mp z)), upf_ne e, pd.p y hy]
  · rw [valV_put]
    show _ = some (V.int (upf S0.hd x (S0.hd x + 1) y))
    by_cases e : y = x
    · subst e
      rw [if_pos rfl, upf_same]
    · rw [if_neg (fun z => e (ik_inj.mp z)), upf_ne e, pd.h y hy]
  · rw [putK_len_in (pd.p x hx2)]; exact b2
  · rw [putK_len_in (pd.h x hx2)]; exact b3

/-! D6: parts that are freed -/
def spUnp (C : Addr) (j : Nat) : Sp := fun vs H Q _ => ∃ (a : Addr) (S : PS) (b : Blk) (x : Nat) (dt : Nat → Nat) (L : List Blk), vs = [.ref a, .int x] ∧ HB H (b :: L) ∧ Parts C a S b ∧ WF S (dup dt x) ∧ Sh S ∧ (S.ds x).len < j ∧
  ∀ S2 xs p b' H', WF S2 dt → Frd S S2 → xs.Nodup → (∀ y, y ∈ xs ↔ (S.al y = true ∧ ¬ S2.al y = true)) → Parts C a S2 b' → HB H' ([(p, .lst (iv xs))] :: b' :: L) → Q (.ref p) H'
theorem unp_zero {C : Addr} {vs : List V} {H : Hp} {Q : VK} {E : XK} (h : spUnp C 0 vs H Q E) : False := by
  obtain ⟨_, _, _, _, _, _, _, _, _, _, _, hl, _⟩ := h
  exact Nat.not_lt_zero _ hl
theorem sc_Parts_unpointed : FnScope ["self", "number", "found", "half"] ["self", "number"] (defScope (inClass (top 19) 13)) := ⟨rfl, rfl, rfl, by decide +kernel, rfl, by decide +kernel, by decide +kernel⟩
-- slots of Parts.unpointed: self 0, number 1, found 2, half 3
theorem ok_Parts_unpointed (S : Sit P w K mg base) : ∀ j : Nat, MF P w K mg base CX0 (He.ga K "Parts") "unpointed" ["self", "number"] (0 + j + 1) ((spUnp (CP K)) j) := by
  intro j
  induction j with
  | zero => exact mf_Parts_unpointed S fun f fd F => F.ok sc_Parts_unpointed (fun vs H Q E h => (unp_zero h).elim) (fun cdv A outer s H vs Q E hr h => (unp_zero h).elim)
  | succ j ih =>
  refine mf_Parts_unpointed S fun f fd F => F.ok sc_Parts_unpointed (fun vs H Q E h => ?_) (fun cdv A outer s H vs Q E hr h => ?_)
  · first | (obtain ⟨_, rfl, _⟩ := h; rfl) | (obtain ⟨_, _, rfl, _⟩ := h; rfl) | (obtain ⟨_, _, _, rfl, _⟩ := h; rfl) | (obtain ⟨_, _, _, _, rfl, _⟩ := h; rfl) | (obtain ⟨_, _, _, _, _, rfl, _⟩ := h; rfl) | (obtain ⟨_, _, _, _, _, _, rfl, _⟩ := h; rfl) | (obtain ⟨_, _, _, _, _, _, _, rfl, _⟩ := h; rfl) | (obtain ⟨_, _, _, _, _, _, _, _, rfl, _⟩ := h; rfl) | (obtain ⟨_, _, _, _, _, _, _, _, _, rfl, _⟩ := h; rfl) | (obtain ⟨_, _, _, _, _, _, _, _, _, _, rfl, _⟩ := h; rfl) | (obtain ⟨_, _, _, _, _, _, _, _, _, _, _, rfl, _⟩ := h; rfl) | (obtain ⟨_, _, _, _, _, _, _, _, _, _, _, _, rfl, _⟩ := h; rfl) | (obtain ⟨_, _, _, _, _, _, _, _, _, _, _, _, _, rfl, _⟩ := h; rfl) | (obtain ⟨_, _, _, _, _, _, _, _, _, _, _, _, _, _, rfl, _⟩ := h; rfl) | (obtain ⟨_, _, _, _, _, _, _, _, _, _, _, _, _, _, _, rfl, _⟩ := h; rfl) | (obtain ⟨_, _, _, _, _, _, _, _, _, _, _, _, _, _, _, _, rfl, _⟩ := h; rfl) | (obtain ⟨_, _, _, _, _, _, _, _, _, _, _, _, _, _, _, _, _, rfl, _⟩ := h; rfl) | (obtain ⟨_, _, _, _, _, _, _, _, _, _, _, _, _, _, _, _, _, _, rfl, _⟩ := h; rfl) | (obtain ⟨_, _, _, _, _, _, _, _, _, _, _, _, _, _, _, _, _, _, _, rfl, _⟩ := h; rfl) | (obtain ⟨_, _, _, _, _, _, _, _, _, _, _, _, _, _, _, _, _, _, _, _, rfl, _⟩ := h; rfl) | (obtain ⟨_, _, _, _, _, _, _, _, _, _, _, _, _, _, _, _, _, _, _, _, _, rfl, _⟩ := h; rfl)
  obtain ⟨a, S0, b, x, dt, L, rfl, hb, ⟨hg, dx, dl, dp, dh, kl, kp, kh, ta, rfl, pd⟩, wf, sh, hl, k⟩ := h
  replace hb := parts_open hb
  obtain ⟨wf1, hx⟩ := wf.less
  have hx2 := pd.bd x hx
  have b1 := pd.nl
  have b2 := pd.np
  replace hb := hb.dup (pc_at hb (by walk_at "hz.mem") hx2)
  refine ⟨_, PSs.nox (pss_cons (ps_daug (hu_of hr) (pe_fldC (cls_Parts S) (na_Parts_pointed S) (pv 0)) (pv 1) pe_int in_sub (fun _ _ _ => rfl))
      (pss_cons (ps_if (pt_cmpR op_gt (pe_dget (hu_of hr) (pe_fldC (cls_Parts S) (na_Parts_pointed S) (pv 0)) (pv 1) (fun _ _ => rfl)) pe_int (nomark _)) (pss_one (ps_ret (pe_lst pa_nil))) pss_nil)
      (pss_cons (ps_set (i := 2) sc_Parts_unpointed.nd rfl (Or.inl rfl) (pe_lst (pa_cons (pv 1) pa_nil)))
      (pss_cons (ps_for PassesOwn.never rfl (pi_tup (pe_slice (sl_tupAK (K := K) rfl) (pe_dpop1 (pe_fldC (cls_Parts S) (na_Parts_laid S) (pv 0)) (pv 1) ⟨rfl, rfl, rfl, rfl⟩) (po_some pe_int) po_none)) (pg_name (i := 3) sc_Parts_unpointed.nd rfl (Or.inl rfl)) (pss_one (ps_expr (pe_bm PySem.F.plainAttrs_list PySem.F.slot_list_extend PySem.F.type_list_extend mt_extend (pv 2) (pa_cons (pe_methC (pv 0) ih (hr.mono (by omega)) pass0 (pa_cons (pv 3) pa_nil)) pa_nil)))))
      (pss_one (ps_ret (pv 2))))))), ?_⟩
  walk_at "hz.st"
  walk_at "hz.g"
  · exact pd.p x hx2
  walk_at "hz.g"
  · exact sz100' (by omega)
  intro H1 h1
  walk_at "hz.g"
  · rw [valV_put, if_pos rfl]
  walk_at "hz.g"
  have pd1 : PD (S0.less x) ta kl (putK kp (ik x) (.int (S0.pt x - 1))) kh := by
    refine ⟨pd.l, fun y hy => ?_, pd.h, pd.nl, ?_, pd.nh, pd.bd⟩
    · rw [valV_put]
      show _ = some (V.int (upf S0.pt x (S0.pt x - 1) y))
      by_cases e : y = x
      · subst e
        rw [if_pos rfl, upf_same]
      · rw [if_neg (fun z => e (ik_inj.mp z)), upf_ne e, pd.p y hy]
    · rw [putK_len_in (pd.p x hx2)]; exact b2
  refine r_two (fun e => ?_) (fun e => ?_)
  · walk_at "hz.g"
    rename_i p H2 h2
    refine k (S0.less x) [] p _ _ wf1 frd_less List.nodup_nil (fun y => ?_) ⟨hg, dx, dl, dp, dh, kl, _, kh, ta, rfl, pd1⟩ (parts_close1 (c := [(p, .lst [])]) (S := S0) (h2.sub_of (by walk_at "hz.sub")))
    constructor
    · intro z; cases z
    · exact fun z => absurd z.1 z.2
  · have e := of_decide_eq_false e
    have p0 : (S0.less x).pt x ≤ 0 := by
      show upf S0.pt x (S0.pt x - 1) x ≤ 0
      rw [upf_same]
      omega
    obtain ⟨wf2, z1, z2, z3⟩ := wf1.kill hx p0
    walk_at "hz.g"
    · exact pd.la hx
    intro H3 h3
    walk_at "hz.g"
    rename_i fl H2 h2
    refine r_slT1 (.of (h3.at (by walk_at "hz.at"))) h3 (desc_part _) fun q H4 h4 => ?_
    rw [desc_cut] at h4
    walk_at "hz.g"
    have pd2 : PD ((S0.less x).kill x) ta (dropK kl (ik x)) (putK kp (ik x) (.int (S0.pt x - 1))) kh := by
      refine ⟨fun y => ?_, pd1.p, pd1.h, ?_, pd1.np, pd1.nh, fun y hy => pd.bd y (frd_kill.al y hy)⟩
      · rw [valV_drop]
        show _ = if upf S0.al x false y = true then some (V.ref (ta y)) else none
        by_cases e : y = x
        · subst e
          rw [if_pos rfl, upf_same]
          rfl
        · rw [if_neg (fun z => e (ik_inj.mp z)), upf_ne e, pd.l y]
      · exact Nat.le_trans (dropK_len kl (ik x)) b1
    have f0 : Frd S0 ((S0.less x).kill x) := frd_less.trans frd_kill
    refine for_w (walk_ivT (xs := (S0.ds x).halves)) (fun i σ H => ∃ z Si xs bi, σ = [some (.ref a), some (.int x), some (.ref fl), z] ∧ WF Si (dups dt ((S0.ds x).halves.drop i)) ∧ Frd S0 Si ∧ Parts (CP K) a Si bi ∧ xs.Nodup ∧ (∀ y, y ∈ xs ↔ (S0.al y = true ∧ ¬ Si.al y = true)) ∧
      HB H ([(fl, .lst (iv xs))] :: [(q, .tup (iv (S0.ds x).halves))] :: bi :: L)) ?_ (fun i σ H hi h => ?_) (fun i w2 σ H H' hi h y => ?_) (fun σ H h => ?_)
    · refine ⟨none, (S0.less x).kill x, [x], partsB (CP K) a dx dl dp dh _ _ kh ta ((S0.less x).kill x), rfl, wf2, f0, ⟨hg, dx, dl, dp, dh, _, _, kh, ta, rfl, pd2⟩, by simp, fun y => ?_, ?_⟩
      · show y ∈ [x] ↔ (S0.al y = true ∧ ¬ upf S0.al x false y = true)
        rw [List.mem_singleton]
        constructor
        · rintro rfl
          rw [upf_same]
          exact ⟨hx, by simp⟩
        · rintro ⟨z1, z2⟩
          refine Classical.byContradiction fun c => z2 ?_
          rw [upf_ne c]
          exact z1
      · have h5 : HB H4 ([(fl, .lst [.int x])] :: [(q, .tup (iv (S0.ds x).halves))] :: partsB (CP K) a dx dl dp dh (dropK kl (ik x)) (putK kp (ik x) (.int (S0.pt x - 1))) kh ta S0 :: L) :=
          (parts_close (h4.sub_of (Ts := [(a, .ins (CP K) dx (partsF dl dp dh S0.gv))] :: [(dl, .dK (dropK kl (ik x)))] :: [(dp, .dK (putK kp (ik x) (.int (S0.pt x - 1))))] :: [(dh, .dK kh)] :: rc S0.gv ta (pc S0) :: [(fl, .lst [.int x])] :: [(q, .tup (iv (S0.ds x).halves))] :: L) (by walk_at "hz.sub"))).sub_of (by walk_at "hz.sub")
        exact h5
    · obtain ⟨z, Si, xs, bi, rfl, _, _, _, _, _, hb⟩ := h
      exact SqT.of (hb.at (by walk_at "hz.at"))
    · obtain ⟨z, Si, xs, bi, rfl, wi, fi, pi, nd, hm, hb⟩ := h
      obtain ⟨rfl, y, hy, rfl⟩ := y
      have ed : (S0.ds x).halves.drop i = y :: (S0.ds x).halves.drop (i + 1) := by
        obtain ⟨z1, z2⟩ := List.getElem?_eq_some_iff.mp hy
        rw [← z2]
        exact List.drop_eq_getElem_cons z1
      rw [ed] at wi
      have hym := List.mem_of_getElem? hy
      have hlen := sh x hx y hym
      have pi' := pi
      obtain ⟨hgi, dxi, dli, dpi, dhi, kli, kpi, khi, tai, rfl, pdi⟩ := pi'
      have hb0 := hb
      replace hb := parts_open (hb.take (.next (.next .here)))
      walk_at "hz.g"
      refine ⟨a, Si, _, y, _, _, rfl, parts_close hb, pi, wi, sh.frd fi, ?_, fun S2 ys p2 b2' H5 w2 f2 nd2 hm2 pp h5 => ?_⟩
      · rw [fi.ds]
        omega
      walk_at "hz.g"
      have hys : ∀ v ∈ ys, v ∉ xs := fun v hv z => ((hm v).mp z).2 ((hm2 v).mp hv).1
      have nd3 : (xs ++ ys).Nodup := List.nodup_append.mpr ⟨nd, nd2, fun u hu v hv e => hys v hv (e ▸ hu)⟩
      have few : (xs ++ ys).length ≤ S0.gv := few_lt nd3 fun v hv => by
        rcases List.mem_append.mp hv with z | z
        · exact pd.bd v ((hm v).mp z).1
        · exact pd.bd v (fi.al v ((hm2 v).mp z).1)
      refine r_extend h5 (h5.at (by walk_at "hz.at")) (by walk_at "hz.put") ?_ fun H6 h6 => ?_
      · rw [iv_len, iv_len, ← List.length_append]
        exact sz100 (by omega)
      walk_at "hz.g"
      refine ⟨_, S2, xs ++ ys, b2', rfl, w2, fi.trans f2, pp, nd3, fun v => ?_, ?_⟩
      · rw [List.mem_append, hm, hm2]
        constructor
        · rintro (⟨z1, z2⟩ | ⟨z1, z2⟩)
          · exact ⟨z1, fun z => z2 (f2.al v z)⟩
          · exact ⟨fi.al v z1, z2⟩
        · rintro ⟨z1, z2⟩
          by_cases c : Si.al v = true
          · exact Or.inr ⟨c, z2⟩
          · exact Or.inl ⟨z1, c⟩
      · rw [iv_append]
        exact h6.sub_of (by walk_at "hz.sub")
    · obtain ⟨z, Si, xs, bi, rfl, wi, fi, pi, nd, hm, hb⟩ := h
      rw [List.drop_length] at wi
      walk_at "hz.g"
      exact k Si xs fl bi _ wi fi nd hm pi (hb.sub_of (by walk_at "hz.sub"))
def spRelease (C : Addr) : Sp := fun vs H Q _ => ∃ (a : Addr) (S : PS) (b : Blk) (x : Nat) (dt : Nat → Nat) (L : List Blk), vs = [.ref a, .int x] ∧ HB H (b :: L) ∧ Parts C a S b ∧ WF S dt ∧ Sh S ∧ x < S.gv ∧ 0 < S.hd x ∧ (S.ds x).len ≤ 16 ∧
  ∀ S2 (xs : List Int) p b' H', WF S2 dt → Frd (S.drop x) S2 → xs.Pairwise (· ≤ ·) → xs.Nodup → (∀ y : Int, y ∈ xs ↔ ∃ m : Nat, y = m ∧ S.al m = true ∧ ¬ S2.al m = true) → Parts C a S2 b' → HB H' ([(p, .lst (xs.map V.int))] :: b' :: L) → Q (.ref p) H'
theorem sc_Parts_release : FnScope ["self", "number"] ["self", "number"] (defScope (inClass (top 19) 12)) := ⟨rfl, rfl, rfl, by decide +kernel, rfl, by decide +kernel, by decide +kernel⟩
-- slots of Parts.release: self 0, number 1
theorem ok_Parts_release (S : Sit P w K mg base) : MF P w K mg base CX0 (He.ga K "Parts") "release" ["self", "number"] 21 (spRelease (CP K)) := by
  refine mf_Parts_release S fun f fd F => F.ok sc_Parts_release (fun vs H Q E h => ?_) (fun cdv A outer s H vs Q E hr h => ?_)
  · first | (obtain ⟨_, rfl, _⟩ := h; rfl) | (obtain ⟨_, _, rfl, _⟩ := h; rfl) | (obtain ⟨_, _, _, rfl, _⟩ := h; rfl) | (obtain ⟨_, _, _, _, rfl, _⟩ := h; rfl) | (obtain ⟨_, _, _, _, _, rfl, _⟩ := h; rfl) | (obtain ⟨_, _, _, _, _, _, rfl, _⟩ := h; rfl) | (obtain ⟨_, _, _, _, _, _, _, rfl, _⟩ := h; rfl) | (obtain ⟨_, _, _, _, _, _, _, _, rfl, _⟩ := h; rfl) | (obtain ⟨_, _, _, _, _, _, _, _, _, rfl, _⟩ := h; rfl) | (obtain ⟨_, _, _, _, _, _, _, _, _, _, rfl, _⟩ := h; rfl) | (obtain ⟨_, _, _, _, _, _, _, _, _, _, _, rfl, _⟩ := h; rfl) | (obtain ⟨_, _, _, _, _, _, _, _, _, _, _, _, rfl, _⟩ := h; rfl) | (obtain ⟨_, _, _, _, _, _, _, _, _, _, _, _, _, rfl, _⟩ := h; rfl) | (obtain ⟨_, _, _, _, _, _, _, _, _, _, _, _, _, _, rfl, _⟩ := h; rfl) | (obtain ⟨_, _, _, _, _, _, _, _, _, _, _, _, _, _, _, rfl, _⟩ := h; rfl) | (obtain ⟨_, _, _, _, _, _, _, _, _, _, _, _, _, _, _, _, rfl, _⟩ := h; rfl) | (obtain ⟨_, _, _, _, _, _, _, _, _, _, _, _, _, _, _, _, _, rfl, _⟩ := h; rfl) | (obtain ⟨_, _, _, _, _, _, _, _, _, _, _, _, _, _, _, _, _, _, rfl, _⟩ := h; rfl) | (obtain ⟨_, _, _, _, _, _, _, _, _, _, _, _, _, _, _, _, _, _, _, rfl, _⟩ := h; rfl) | (obtain ⟨_, _, _, _, _, _, _, _, _, _, _, _, _, _, _, _, _, _, _, _, rfl, _⟩ := h; rfl) | (obtain ⟨_, _, _, _, _, _, _, _, _, _, _, _, _, _, _, _, _, _, _, _, _, rfl, _⟩ := h; rfl)
  obtain ⟨a, S0, b, x, dt, L, rfl, hb, hP, wf, sh, hxg, hh, hlen, k⟩ := h
  have hx := wf.hk x hxg hh
  obtain ⟨hg, dx, dl, dp, dh, kl, kp, kh, ta, rfl, pd⟩ := id hP
  replace hb := parts_open hb
  have b3 := pd.nh
  refine ⟨_, PSs.nox (pss_cons (ps_expr (pe_methC (pv 0) (ok_Parts_need_part S) (hr.mono (by decide)) pass0 (pa_cons (pv 1) pa_nil)))
      (pss_cons (ps_if (pt_cmpR op_eq (pe_dget (hu_of hr) (pe_fldC (cls_Parts S) (na_Parts_holds S) (pv 0)) (pv 1) (fun _ _ => rfl)) pe_int (nomark _)) (pss_one ps_never) pss_nil)
      (pss_cons (ps_daug (hu_of hr) (pe_fldC (cls_Parts S) (na_Parts_holds S) (pv 0)) (pv 1) pe_int in_sub (fun _ _ _ => rfl))
      (pss_one (ps_ret (pe_callB (cr_sortedIK (K := K) rfl) (by rfl) (fr_sorted S) bt_sorted (pa_cons (pe_methC (pv 0) (ok_Parts_unpointed S 17) (hr.mono (by decide)) pass0 (pa_cons (pv 1) pa_nil)) pa_nil))))))), ?_⟩
  walk_at "hz.st"
  walk_at "hz.g"
  refine ⟨a, S0, _, x, L, rfl, parts_close hb, hP, hx, fun H1 h1 => ?_⟩
  replace h1 := parts_open h1
  walk_at "hz.g"
  · exact pd.h x hxg
  walk_at "hz.g"
  refine r_no (decide_eq_false (by omega)) ?_
  walk_at "hz.g"
  · exact pd.h x hxg
  walk_at "hz.g"
  · exact sz100' (by omega)
  intro H2 h2
  walk_at "hz.g"
  have wf1 := wf.drop hxg hh
  have sh1 : Sh (S0.drop x) := sh
  have pd1 : PD (S0.drop x) ta kl kp (putK kh (ik x) (.int (S0.hd x - 1))) := by
    refine ⟨pd.l, pd.p, fun y hy => ?_, pd.nl, pd.np, ?_, pd.bd⟩
    · rw [valV_put]
      show _ = some (V.int (upf S0.hd x (S0.hd x - 1) y))
      by_cases e : y = x
      · subst e
        rw [if_pos rfl, upf_same]
      · rw [if_neg (fun z => e (ik_inj.mp z)), upf_ne e, pd.h y hy]
    · rw [putK_len_in (pd.h x hxg)]; exact b3
  refine ⟨a, S0.drop x, partsB (CP K) a dx dl dp dh kl kp _ ta (S0.drop x), x, dt, L, rfl, parts_close (S := S0) h2, ⟨hg, dx, dl, dp, dh, kl, kp, _, ta, rfl, pd1⟩, wf1, sh1, (by show (S0.ds x).len < 17; omega), fun S2 xs p b' H3 w2 f2 nd hm pp h3 => ?_⟩
  walk_at "hz.g"
  refine r_sortedI (ns := xs.map fun (n : Nat) => (n : Int)) (.of ?_) h3 fun ys q H4 pm pw h4 => ?_
  · rw [← iv_ints]
    exact h3.at (by walk_at "hz.at")
  have ndI : (xs.map fun (n : Nat) => (n : Int)).Nodup := by
    rw [List.nodup_iff_pairwise_ne] at nd ⊢
    exact List.pairwise_map.mpr (nd.imp fun hab z => hab (by omega))
  refine k S2 ys q b' _ w2 f2 pw (pm.nodup_iff.mpr ndI) (fun y => ?_) pp (h4.sub_of (by walk_at "hz.sub"))
  rw [pm.mem_iff, List.mem_map]
  constructor
  · rintro ⟨m, h1, rfl⟩
    exact ⟨m, rfl, (hm m).mp h1⟩
  · rintro ⟨m, rfl, h1⟩
    exact ⟨m, (hm m).mpr h1, rfl⟩

/-! D7: rows laid in halves -/
def spLaid (C : Addr) (j : Nat) : Sp := fun vs H Q _ => ∃ (a wl : Addr) (S : PS) (b : Blk) (F : List Int) (lo hi : Nat) (dt : Nat → Nat) (L : List Blk), vs = [.ref a, .ref wl, .int lo, .int hi] ∧ HB H (b :: [(wl, .lst (F.map V.int))] :: L) ∧ Parts C a S b ∧ WF S dt ∧
  Stat S (fun _ => 0) [] [] F [] 0 ∧ lo < hi ∧ hi ≤ F.length ∧ F.length ≤ 16 ∧ (∀ y, y < S.gv → (S.ds y).hi ≤ lo) ∧ (∀ w ∈ F, isW w = true) ∧ S.gv + 2 * (hi - lo) ≤ 100 ∧ hi - lo < j ∧
  ∀ S2 x b' H', Ext S S2 → WF S2 dt → Stat S2 (fun _ => 0) [] [] F [] 0 → x < S2.gv → S2.al x = true → (S2.ds x).lo = lo → (S2.ds x).hi = hi → (∀ y, y < S2.gv → (S2.ds y).hi ≤ hi) → (∀ y, S.gv ≤ y → y < S2.gv → lo ≤ (S2.ds y).lo) → S2.gv + 1 ≤ S.gv + 2 * (hi - lo) →
    Parts C a S2 b' → HB H' (b' :: [(wl, .lst (F.map V.int))] :: L) → Q (.int x) H'
theorem laid_zero {C : Addr} {vs : List V} {H : Hp} {Q : VK} {E : XK} (h : spLaid C 0 vs H Q E) : False := by
  obtain ⟨_, _, _, _, _, _, _, _, _, _, _, _, _, _, _, _, _, _, _, _, hl, _⟩ := h
  exact Nat.not_lt_zero _ hl
theorem upf_zero {n : Nat} : upf (fun _ : Nat => (0 : Nat)) n 0 = fun _ => 0 := by
  funext i
  unfold upf
  split <;> rfl
theorem sc_laid_down : FnScope ["parts", "worths", "low", "high", "middle", "left", "right"] ["parts", "worths", "low", "high"] (defScope (top 20)) := ⟨rfl, rfl, rfl, by decide +kernel, rfl, by decide +kernel, by decide +kernel⟩
-- slots of laid_down: parts 0, worths 1, low 2, high 3, middle 4, left 5, right 6
theorem ok_laid_down (S : Sit P w K mg base) : ∀ j : Nat, CF P w K mg base CX0 "laid_down" ["parts", "worths", "low", "high"] (4 + j + 1) ((spLaid (CP K)) j) := by
  intro j
  induction j with
  | zero => exact cf_laid_down S fun f fd F => F.ok sc_laid_down (fun vs H Q E h => (laid_zero h).elim) (fun cdv A outer s H vs Q E hr h => (laid_zero h).elim)
  | succ j ih =>
  refine cf_laid_down S fun f fd F => F.ok sc_laid_down (fun vs H Q E h => ?_) (fun cdv A outer s H vs Q E hr h => ?_)
  · first | (obtain ⟨_, rfl, _⟩ := h; rfl) | (obtain ⟨_, _, rfl, _⟩ := h; rfl) | (obtain ⟨_, _, _, rfl, _⟩ := h; rfl) | (obtain ⟨_, _, _, _, rfl, _⟩ := h; rfl) | (obtain ⟨_, _, _, _, _, rfl, _⟩ := h; rfl) | (obtain ⟨_, _, _, _, _, _, rfl, _⟩ := h; rfl) | (obtain ⟨_, _, _, _, _, _, _, rfl, _⟩ := h; rfl) | (obtain ⟨_, _, _, _, _, _, _, _, rfl, _⟩ := h; rfl) | (obtain ⟨_, _, _, _, _, _, _, _, _, rfl, _⟩ := h; rfl) | (obtain ⟨_, _, _, _, _, _, _, _, _, _, rfl, _⟩ := h; rfl) | (obtain ⟨_, _, _, _, _, _, _, _, _, _, _, rfl, _⟩ := h; rfl) | (obtain ⟨_, _, _, _, _, _, _, _, _, _, _, _, rfl, _⟩ := h; rfl) | (obtain ⟨_, _, _, _, _, _, _, _, _, _, _, _, _, rfl, _⟩ := h; rfl) | (obtain ⟨_, _, _, _, _, _, _, _, _, _, _, _, _, _, rfl, _⟩ := h; rfl) | (obtain ⟨_, _, _, _, _, _, _, _, _, _, _, _, _, _, _, rfl, _⟩ := h; rfl) | (obtain ⟨_, _, _, _, _, _, _, _, _, _, _, _, _, _, _, _, rfl, _⟩ := h; rfl) | (obtain ⟨_, _, _, _, _, _, _, _, _, _, _, _, _, _, _, _, _, rfl, _⟩ := h; rfl) | (obtain ⟨_, _, _, _, _, _, _, _, _, _, _, _, _, _, _, _, _, _, rfl, _⟩ := h; rfl) | (obtain ⟨_, _, _, _, _, _, _, _, _, _, _, _, _, _, _, _, _, _, _, rfl, _⟩ := h; rfl) | (obtain ⟨_, _, _, _, _, _, _, _, _, _, _, _, _, _, _, _, _, _, _, _, rfl, _⟩ := h; rfl) | (obtain ⟨_, _, _, _, _, _, _, _, _, _, _, _, _, _, _, _, _, _, _, _, _, rfl, _⟩ := h; rfl)
  obtain ⟨a, wl, S0, b, F, lo, hi, dt, L, rfl, hb, hP, wf, st, hlo, hhi, hF, ha, hw, hgv, hj, k⟩ := h
  have hfs : F.length = (F.map V.int).length := by simp
  refine ⟨_, PSs.nox (pss_cons (ps_if (pt_cmpR op_eq (pv 3) (pe_op op_add (pv 2) pe_int) (nomark _)) (pss_one (ps_ret (pe_methC (pv 0) (ok_Parts_leaf S) (hr.mono (by omega)) pass0 (pa_cons (pv 2) (pa_cons (pe_ix (ix_listK (K := K) rfl) (pv 1) (pv 2) (fun _ _ => rfl)) pa_nil))))) pss_nil)
      (pss_cons (ps_set (i := 4) sc_laid_down.nd rfl (Or.inl rfl) (pe_op op_fdiv (pe_op op_add (pv 2) (pv 3)) pe_int))
      (pss_cons (ps_set (i := 5) sc_laid_down.nd rfl (Or.inl rfl) (pe_callC ih (hr.mono (by omega)) (by rfl) pass0 (pa_cons (pv 0) (pa_cons (pv 1) (pa_cons (pv 2) (pa_cons (pv 4) pa_nil))))))
      (pss_cons (ps_set (i := 6) sc_laid_down.nd rfl (Or.inl rfl) (pe_callC ih (hr.mono (by omega)) (by rfl) pass0 (pa_cons (pv 0) (pa_cons (pv 1) (pa_cons (pv 4) (pa_cons (pv 3) pa_nil))))))
      (pss_one (ps_ret (pe_methC (pv 0) (ok_Parts_fork S) (hr.mono (by omega)) pass0 (pa_cons (pv 2) (pa_cons (pv 3) (pa_cons (pv 5) (pa_cons (pv 6) pa_nil))))))))))), ?_⟩
  walk_at "hz.st"
  walk_at "hz.g"
  refine r_two (fun e => ?_) (fun e => ?_)
  · have e : hi = lo + 1 := by have e := of_decide_eq_true e; omega
    subst e
    obtain ⟨w0, hw0⟩ : ∃ w0, F[lo]? = some w0 := ⟨F[lo], List.getElem?_eq_getElem (by omega)⟩
    walk_at "hz.g"
    · exact atI_nat (by rw [List.getElem?_map, hw0]; rfl)
    walk_at "hz.g"
    refine ⟨a, S0, b, lo, w0, _, rfl, hb, hP, by omega, hw w0 (List.mem_of_getElem? hw0), by omega, fun b' H2 hP2 h2 => ?_⟩
    have st2 : Stat (S0.lay (.leaf lo w0)) (fun _ => 0) [] [] F [] 0 := by
      have := st.lay (k := 0) (d := .leaf lo w0) (Nat.le_refl 0) ⟨Nat.lt_succ_self lo, hhi⟩ (fun p w e => ?_) (fun _ _ _ _ e => by cases e) (by show last [] [] 0 lo (lo + 1) = 0; rw [last_zero]) (fun y hy _ _ h2 => ?_)
      · rwa [upf_zero] at this
      · cases e
        unfold valT
        rw [last_zero, if_pos rfl, List.getD_eq_getElem?_getD, hw0]
        rfl
      · have h2 : (S0.ds y).hi = lo + 1 := h2
        have := ha y hy
        omega
    have d0 : (S0.lay (.leaf lo w0)).ds S0.gv = .leaf lo w0 := upf_same
    have dy : ∀ y, y < (S0.lay (.leaf lo w0)).gv → y < S0.gv ∧ (S0.lay (.leaf lo w0)).ds y = S0.ds y ∨ y = S0.gv := fun y hy => by
      have hy : y < S0.gv + 1 := hy
      by_cases c : y = S0.gv
      · exact Or.inr c
      · exact Or.inl ⟨by omega, upf_ne c⟩
    refine k _ S0.gv b' _ ext_lay (wf.lay (fun z hz => by cases hz)) st2 (Nat.lt_succ_self _) upf_same (by rw [d0]; rfl) (by rw [d0]; rfl) (fun y hy => ?_) (fun y h1 hy => ?_) (by show S0.gv + 1 + 1 ≤ _; omega) hP2 h2
    · rcases dy y hy with ⟨c, e⟩ | rfl
      · rw [e]; have := ha y c; omega
      · rw [d0]; exact Nat.le_refl _
    · rcases dy y hy with ⟨c, e⟩ | rfl
      · omega
      · rw [d0]; exact Nat.le_refl _
  · have e : ¬ hi = lo + 1 := by have e := of_decide_eq_false e; omega
    walk_at "hz.g"
    rw [show ((lo : Int) + (hi : Int)) / 2 = (((lo + hi) / 2 : Nat) : Int) by omega]
    have hm1 : lo < (lo + hi) / 2 := by omega
    have hm2 : (lo + hi) / 2 < hi := by omega
    generalize hm : (lo + hi) / 2 = mid at *
    refine ⟨a, wl, S0, b, F, lo, mid, dt, L, rfl, hb, hP, wf, st, hm1, by omega, hF, ha, hw, by omega, by omega, fun S2 x b2 H2 x2 w2 st2 hx ax lx hx2 a2 n2 g2 hP2 h2 => ?_⟩
    walk_at "hz.g"
    refine ⟨a, wl, S2, b2, F, mid, hi, dt, L, rfl, h2, hP2, w2, st2, hm2, hhi, hF, a2, hw, by omega, by omega, fun S3 y b3 H3 x3 w3 st3 hy ay ly hy3 a3 n3 g3 hP3 h3 => ?_⟩
    walk_at "hz.g"
    have ex : S3.ds x = S2.ds x := x3.ds x hx
    have ax3 : S3.al x = true := by rw [x3.al x hx]; exact ax
    refine ⟨a, S3, b3, x, y, _, by rw [ex, lx, hy3], h3, hP3, ax3, ay, by rw [ex, lx, hy3, hx2, hm], by rw [ex, hx2, ly], by rw [ex, lx, hy3]; omega, by rw [hy3]; omega, by omega, fun b4 H4 hP4 h4 => ?_⟩
    rw [ex, lx, hy3] at hP4
    have st4 : Stat (S3.lay (.fork lo hi x y)) (fun _ => 0) [] [] F [] 0 := by
      have := st3.lay (k := 0) (d := .fork lo hi x y) (Nat.le_refl 0) ⟨(show lo < hi by omega), hhi⟩ (fun p w e => by cases e) (fun lo2 hi2 l r e => ?_) (by show last [] [] 0 lo hi = 0; rw [last_zero]) (fun z hz _ h1 h2 => ?_)
      · rwa [upf_zero] at this
      · cases e
        have := x3.gv
        rw [hm]
        refine ⟨by omega, hy, by omega, by rw [ex, lx], by rw [ex, hx2], ly, hy3, by rw [last_zero], by rw [last_zero]⟩
      · have h1 : (S3.ds z).lo = lo := h1
        have h2 : (S3.ds z).hi = hi := h2
        by_cases c : z < S2.gv
        · have := a2 z c
          rw [← x3.ds z c] at this
          omega
        · have := n3 z (by omega) hz
          omega
    have d0 : (S3.lay (.fork lo hi x y)).ds S3.gv = .fork lo hi x y := upf_same
    have dy : ∀ z, z < (S3.lay (.fork lo hi x y)).gv → z < S3.gv ∧ (S3.lay (.fork lo hi x y)).ds z = S3.ds z ∨ z = S3.gv := fun z hz => by
      have hz : z < S3.gv + 1 := hz
      by_cases c : z = S3.gv
      · exact Or.inr c
      · exact Or.inl ⟨by omega, upf_ne c⟩
    have hx3 : x < S3.gv := by have := x3.gv; omega
    refine k _ S3.gv b4 _ ((x2.trans x3).trans ext_lay) (w3.lay (fun z hz => ?_)) st4 (Nat.lt_succ_self _) upf_same (by rw [d0]; rfl) (by rw [d0]; rfl) (fun z hz => ?_) (fun z h1 hz => ?_) (by show S3.gv + 1 + 1 ≤ _; omega) hP4 h4
    · rcases List.mem_cons.mp hz with c | c
      · rw [c]; exact ⟨hx3, ax3⟩
      · rw [List.mem_singleton.mp c]; exact ⟨hy, ay⟩
    · rcases dy z hz with ⟨c, e⟩ | rfl
      · rw [e]; exact a3 z c
      · rw [d0]; exact Nat.le_refl _
    · rcases dy z hz with ⟨c, e⟩ | rfl
      · rw [e]
        by_cases c2 : z < S2.gv
        · have := n2 z h1 c2
          rw [← x3.ds z c2] at this
          exact this
        · have := n3 z (by omega) c
          omega
      · rw [d0]; exact Nat.le_refl _
def dt0 : Nat → Nat := fun _ => 0
theorem wf_nil : WF PS.nil dt0 := ⟨fun x h => absurd h (show ¬ (false = true) by decide), fun x h => absurd h (show ¬ (false = true) by decide), fun x h => absurd h (Nat.not_lt_zero x), fun x h => absurd h (Nat.lt_irrefl 0), fun x h => absurd h (Nat.not_lt_zero x), fun x h => absurd h (Nat.not_lt_zero x)⟩
theorem stat_nil {F : List Int} : Stat PS.nil (fun _ => 0) [] [] F [] 0 := ⟨fun x h => absurd h (Nat.not_lt_zero x), fun x h => absurd h (Nat.not_lt_zero x), fun x _ _ h => absurd h (Nat.not_lt_zero x), fun x _ _ _ _ h => absurd h (Nat.not_lt_zero x), fun x h => absurd h (Nat.not_lt_zero x), fun x _ h => absurd h (Nat.not_lt_zero x)⟩
def spBuilt (C : Addr) : Sp := fun vs H Q _ => ∃ (a wl : Addr) (b : Blk) (F : List Int) (L : List Blk), vs = [.ref a, .ref wl] ∧ HB H (b :: [(wl, .lst (F.map V.int))] :: L) ∧ Parts C a PS.nil b ∧ (1 ≤ F.length ∧ F.length ≤ 16 ∧ ∀ w ∈ F, isW w = true) ∧
  ∀ S2 x b' H', WF S2 dt0 → Stat S2 (fun _ => 0) [] [] F [] 0 → S2.gv ≤ 40 → (∀ y, y < S2.gv → S2.al y = true ∧ S2.hd y = 0) → x < S2.gv → (S2.ds x).lo = 0 → (S2.ds x).hi = F.length →
    Parts C a S2 b' → HB H' (b' :: [(wl, .lst (F.map V.int))] :: L) → Q (.int x) H'
theorem sc_built : FnScope ["parts", "worths"] ["parts", "worths"] (defScope (top 21)) := ⟨rfl, rfl, rfl, by decide +kernel, rfl, by decide +kernel, by decide +kernel⟩
-- slots of built: parts 0, worths 1
theorem ok_built (S : Sit P w K mg base) : CF P w K mg base CX0 "built" ["parts", "worths"] 31 (spBuilt (CP K)) := by
  refine cf_built S fun f fd F => F.ok sc_built (fun vs H Q E h => ?_) (fun cdv A outer s H vs Q E hr h => ?_)
  · first | (obtain ⟨_, rfl, _⟩ := h; rfl) | (obtain ⟨_, _, rfl, _⟩ := h; rfl) | (obtain ⟨_, _, _, rfl, _⟩ := h; rfl) | (obtain ⟨_, _, _, _, rfl, _⟩ := h; rfl) | (obtain ⟨_, _, _, _, _, rfl, _⟩ := h; rfl) | (obtain ⟨_, _, _, _, _, _, rfl, _⟩ := h; rfl) | (obtain ⟨_, _, _, _, _, _, _, rfl, _⟩ := h; rfl) | (obtain ⟨_, _, _, _, _, _, _, _, rfl, _⟩ := h; rfl) | (obtain ⟨_, _, _, _, _, _, _, _, _, rfl, _⟩ := h; rfl) | (obtain ⟨_, _, _, _, _, _, _, _, _, _, rfl, _⟩ := h; rfl) | (obtain ⟨_, _, _, _, _, _, _, _, _, _, _, rfl, _⟩ := h; rfl) | (obtain ⟨_, _, _, _, _, _, _, _, _, _, _, _, rfl, _⟩ := h; rfl) | (obtain ⟨_, _, _, _, _, _, _, _, _, _, _, _, _, rfl, _⟩ := h; rfl) | (obtain ⟨_, _, _, _, _, _, _, _, _, _, _, _, _, _, rfl, _⟩ := h; rfl) | (obtain ⟨_, _, _, _, _, _, _, _, _, _, _, _, _, _, _, rfl, _⟩ := h; rfl) | (obtain ⟨_, _, _, _, _, _, _, _, _, _, _, _, _, _, _, _, rfl, _⟩ := h; rfl) | (obtain ⟨_, _, _, _, _, _, _, _, _, _, _, _, _, _, _, _, _, rfl, _⟩ := h; rfl) | (obtain ⟨_, _, _, _, _, _, _, _, _, _, _, _, _, _, _, _, _, _, rfl, _⟩ := h; rfl) | (obtain ⟨_, _, _, _, _, _, _, _, _, _, _, _, _, _, _, _, _, _, _, rfl, _⟩ := h; rfl) | (obtain ⟨_, _, _, _, _, _, _, _, _, _, _, _, _, _, _, _, _, _, _, _, rfl, _⟩ := h; rfl) | (obtain ⟨_, _, _, _, _, _, _, _, _, _, _, _, _, _, _, _, _, _, _, _, _, rfl, _⟩ := h; rfl)
  obtain ⟨a, wl, b, F, L, rfl, hb, hP, ⟨h1, h2, h3⟩, k⟩ := h
  refine ⟨_, PSs.nox (pss_cons (ps_if (pt_not (pt_val (pe_callC (ok_is_worths S) (hr.mono (by decide)) (by rfl) pass0 (pa_cons (pv 1) pa_nil)))) (pss_one ps_never) pss_nil)
      (pss_one (ps_ret (pe_callC (ok_laid_down S 17) (hr.mono (by decide)) (by rfl) pass0 (pa_cons (pv 0) (pa_cons (pv 1) (pa_cons pe_int (pa_cons (pe_callB (call_lenK (K := K) rfl) (by rfl) (fr_len S) bt_len (pa_cons (pv 1) pa_nil)) pa_nil)))))))), ?_⟩
  walk_at "hz.st"
  walk_at "hz.g"
  refine ⟨wl, F, _, rfl, hb, .next .here, ⟨h1, h2, h3⟩, fun H1 g1 => ?_⟩
  walk_at "hz.g"
  rw [List.length_map]
  refine ⟨a, wl, PS.nil, b, F, 0, F.length, dt0, L, rfl, g1, hP, wf_nil, stat_nil, h1, Nat.le_refl _, h2, fun y hy => absurd hy (Nat.not_lt_zero y), h3, (by show 0 + _ ≤ _; omega), by omega, fun S2 x b2 H2 x2 w2 st2 hx ax lx hx2 _ _ g2 hP2 k2 => ?_⟩
  have g2 : S2.gv + 1 ≤ 0 + 2 * (F.length - 0) := g2
  exact k S2 x b2 H2 w2 st2 (by omega) (fun y hy => ⟨x2.na y (Nat.zero_le y) hy, x2.nh y (Nat.zero_le y) hy⟩) hx lx hx2 hP2 k2
def spHalfOf : Sp := fun vs H Q _ => ∃ (t : Addr) (lo hi l r p : Nat), vs = [.ref t, .int p] ∧ H t = some (.tup (descV (.fork lo hi l r))) ∧ Q (.int ((if p < (lo + hi) / 2 then l else r : Nat) : Int)) H
theorem sc_half_of : FnScope ["told", "place"] ["told", "place"] (defScope (top 22)) := ⟨rfl, rfl, rfl, by decide +kernel, rfl, by decide +kernel, by decide +kernel⟩
-- slots of half_of: told 0, place 1
theorem ok_half_of (S : Sit P w K mg base) : CF P w K mg base CX0 "half_of" ["told", "place"] 1 (spHalfOf) := by
  refine cf_half_of S fun f fd F => F.ok sc_half_of (fun vs H Q E h => ?_) (fun cdv A outer s H vs Q E hr h => ?_)
  · first | (obtain ⟨_, rfl, _⟩ := h; rfl) | (obtain ⟨_, _, rfl, _⟩ := h; rfl) | (obtain ⟨_, _, _, rfl, _⟩ := h; rfl) | (obtain ⟨_, _, _, _, rfl, _⟩ := h; rfl) | (obtain ⟨_, _, _, _, _, rfl, _⟩ := h; rfl) | (obtain ⟨_, _, _, _, _, _, rfl, _⟩ := h; rfl) | (obtain ⟨_, _, _, _, _, _, _, rfl, _⟩ := h; rfl) | (obtain ⟨_, _, _, _, _, _, _, _, rfl, _⟩ := h; rfl) | (obtain ⟨_, _, _, _, _, _, _, _, _, rfl, _⟩ := h; rfl) | (obtain ⟨_, _, _, _, _, _, _, _, _, _, rfl, _⟩ := h; rfl) | (obtain ⟨_, _, _, _, _, _, _, _, _, _, _, rfl, _⟩ := h; rfl) | (obtain ⟨_, _, _, _, _, _, _, _, _, _, _, _, rfl, _⟩ := h; rfl) | (obtain ⟨_, _, _, _, _, _, _, _, _, _, _, _, _, rfl, _⟩ := h; rfl) | (obtain ⟨_, _, _, _, _, _, _, _, _, _, _, _, _, _, rfl, _⟩ := h; rfl) | (obtain ⟨_, _, _, _, _, _, _, _, _, _, _, _, _, _, _, rfl, _⟩ := h; rfl) | (obtain ⟨_, _, _, _, _, _, _, _, _, _, _, _, _, _, _, _, rfl, _⟩ := h; rfl) | (obtain ⟨_, _, _, _, _, _, _, _, _, _, _, _, _, _, _, _, _, rfl, _⟩ := h; rfl) | (obtain ⟨_, _, _, _, _, _, _, _, _, _, _, _, _, _, _, _, _, _, rfl, _⟩ := h; rfl) | (obtain ⟨_, _, _, _, _, _, _, _, _, _, _, _, _, _, _, _, _, _, _, rfl, _⟩ := h; rfl) | (obtain ⟨_, _, _, _, _, _, _, _, _, _, _, _, _, _, _, _, _, _, _, _, rfl, _⟩ := h; rfl) | (obtain ⟨_, _, _, _, _, _, _, _, _, _, _, _, _, _, _, _, _, _, _, _, _, rfl, _⟩ := h; rfl)
  obtain ⟨t, lo, hi, l, r, p, rfl, ht, k⟩ := h
  refine ⟨_, PSs.nox (pss_cons (ps_if (pt_cmpR op_lt (pv 1) (pe_op op_fdiv (pe_op op_add (pe_ix (ix_tupK (K := K) rfl) (pv 0) pe_int (fun _ _ => rfl)) (pe_ix (ix_tupK (K := K) rfl) (pv 0) pe_int (fun _ _ => rfl))) pe_int) (nomark _)) (pss_one (ps_ret (pe_ix (ix_tupK (K := K) rfl) (pv 0) pe_int (fun _ _ => rfl)))) pss_nil)
      (pss_one (ps_ret (pe_ix (ix_tupK (K := K) rfl) (pv 0) pe_int (fun _ _ => rfl))))), ?_⟩
  walk_at "hz.st"
  walk_at "hz.g"
  refine r_two (fun e => ?_) (fun e => ?_)
  · have e := of_decide_eq_true e
    rw [if_pos (by omega)] at k
    walk_at "hz.g"
    exact k
  · have e := of_decide_eq_false e
    rw [if_neg (by omega)] at k
    walk_at "hz.g"
    exact k
def spWayDown (C : Addr) : Sp := fun vs H Q _ => ∃ (a : Addr) (S : PS) (b : Blk) (x p : Nat) (dt : Nat → Nat) (ow : Nat → Nat) (T : Tre) (W : List Nat) (F Vs : List Int) (M : Nat) (L : List Blk), vs = [.ref a, .int x, .int p] ∧ HB H (b :: L) ∧ Parts C a S b ∧ WF S dt ∧ Stat S ow T W F Vs M ∧ S.al x = true ∧ (S.ds x).lo ≤ p ∧ p < (S.ds x).hi ∧ (S.ds x).len ≤ 16 ∧
  ∀ ws q H', Way S p x ws → (∀ y ∈ ws, S.al y = true ∧ (S.ds y).lo ≤ p ∧ p < (S.ds y).hi) → ws.length ≤ 17 → HB H' ([(q, .lst (iv ws))] :: b :: L) → Q (.ref q) H'
theorem sc_way_down : FnScope ["parts", "root", "place", "low", "high", "found", "told"] ["parts", "root", "place"] (defScope (top 23)) := ⟨rfl, rfl, rfl, by decide +kernel, rfl, by decide +kernel, by decide +kernel⟩
-- slots of way_down: parts 0, root 1, place 2, low 3, high 4, found 5, told 6
theorem ok_way_down (S : Sit P w K mg base) : CF P w K mg base CX0 "way_down" ["parts", "root", "place"] 5 (spWayDown (CP K)) := by
  refine cf_way_down S fun f fd F => F.ok sc_way_down (fun vs H Q E h => ?_) (fun cdv A outer s H vs Q E hr h => ?_)
  · first | (obtain ⟨_, rfl, _⟩ := h; rfl) | (obtain ⟨_, _, rfl, _⟩ := h; rfl) | (obtain ⟨_, _, _, rfl, _⟩ := h; rfl) | (obtain ⟨_, _, _, _, rfl, _⟩ := h; rfl) | (obtain ⟨_, _, _, _, _, rfl, _⟩ := h; rfl) | (obtain ⟨_, _, _, _, _, _, rfl, _⟩ := h; rfl) | (obtain ⟨_, _, _, _, _, _, _, rfl, _⟩ := h; rfl) | (obtain ⟨_, _, _, _, _, _, _, _, rfl, _⟩ := h; rfl) | (obtain ⟨_, _, _, _, _, _, _, _, _, rfl, _⟩ := h; rfl) | (obtain ⟨_, _, _, _, _, _, _, _, _, _, rfl, _⟩ := h; rfl) | (obtain ⟨_, _, _, _, _, _, _, _, _, _, _, rfl, _⟩ := h; rfl) | (obtain ⟨_, _, _, _, _, _, _, _, _, _, _, _, rfl, _⟩ := h; rfl) | (obtain ⟨_, _, _, _, _, _, _, _, _, _, _, _, _, rfl, _⟩ := h; rfl) | (obtain ⟨_, _, _, _, _, _, _, _, _, _, _, _, _, _, rfl, _⟩ := h; rfl) | (obtain ⟨_, _, _, _, _, _, _, _, _, _, _, _, _, _, _, rfl, _⟩ := h; rfl) | (obtain ⟨_, _, _, _, _, _, _, _, _, _, _, _, _, _, _, _, rfl, _⟩ := h; rfl) | (obtain ⟨_, _, _, _, _, _, _, _, _, _, _, _, _, _, _, _, _, rfl, _⟩ := h; rfl) | (obtain ⟨_, _, _, _, _, _, _, _, _, _, _, _, _, _, _, _, _, _, rfl, _⟩ := h; rfl) | (obtain ⟨_, _, _, _, _, _, _, _, _, _, _, _, _, _, _, _, _, _, _, rfl, _⟩ := h; rfl) | (obtain ⟨_, _, _, _, _, _, _, _, _, _, _, _, _, _, _, _, _, _, _, _, rfl, _⟩ := h; rfl) | (obtain ⟨_, _, _, _, _, _, _, _, _, _, _, _, _, _, _, _, _, _, _, _, _, rfl, _⟩ := h; rfl)
  obtain ⟨a, S0, b, x, p, dt, ow, T, W, F, Vs, M, L, rfl, hb, hP, wf, st, hx, hlo, hhi, hlen, k⟩ := h
  refine ⟨_, PSs.nox (pss_cons (ps_expr (pe_methC (pv 0) (ok_Parts_need_part S) (hr.mono (by decide)) pass0 (pa_cons (pv 1) pa_nil)))
      (pss_cons (ps_asg (pe_methC (pv 0) (ok_Parts_ends S) (hr.mono (by decide)) pass0 (pa_cons (pv 1) pa_nil)) (pg_tupK (n := 2) (K := K) rfl rfl (pgs_cons (pg_name (i := 3) sc_way_down.nd rfl (Or.inl rfl)) (pgs_cons (pg_name (i := 4) sc_way_down.nd rfl (Or.inl rfl)) pgs_nil))))
      (pss_cons (ps_if (pt_not (pt_val (pe_callC (ok_is_whole S) (hr.mono (by decide)) (by rfl) pass0 (pa_cons (pv 2) (pa_cons (pv 3) (pa_cons (pe_op op_sub (pv 4) pe_int) pa_nil)))))) (pss_one ps_never) pss_nil)
      (pss_cons (ps_set (i := 5) sc_way_down.nd rfl (Or.inl rfl) (pe_lst (pa_cons (pv 1) pa_nil)))
      (pss_cons (ps_set (i := 6) sc_way_down.nd rfl (Or.inl rfl) (pe_methC (pv 0) (ok_Parts_part S) (hr.mono (by decide)) pass0 (pa_cons (pv 1) pa_nil)))
      (pss_cons (ps_while PassesOwn.never (pt_cmpR op_eq (pe_ix (ix_tupK (K := K) rfl) (pv 6) pe_int (fun _ _ => rfl)) pe_str (nomark _)) (pss_cons (ps_expr (pe_bm PySem.F.plainAttrs_list PySem.F.slot_list_append PySem.F.type_list_append mt_append (pv 5) (pa_cons (pe_callC (ok_half_of S) (hr.mono (by decide)) (by rfl) pass0 (pa_cons (pv 6) (pa_cons (pv 2) pa_nil))) pa_nil)))
      (pss_one (ps_set (i := 6) sc_way_down.nd rfl (Or.inl rfl) (pe_methC (pv 0) (ok_Parts_part S) (hr.mono (by decide)) pass0 (pa_cons (pe_ix (ix_listK (K := K) rfl) (pv 5) (pe_un un_neg pe_int) (fun _ _ => rfl)) pa_nil))))))
      (pss_one (ps_ret (pv 5))))))))), ?_⟩
  walk_at "hz.st"
  walk_at "hz.g"
  refine ⟨a, S0, b, x, L, rfl, hb, hP, hx, fun H1 h1 => ?_⟩
  walk_at "hz.g"
  refine ⟨a, S0, b, x, L, rfl, h1, hP, hx, fun t H2 h2 => ?_⟩
  walk_at "hz.g"
  refine r_whole (by omega) ?_
  walk_at "hz.g"
  rename_i q H3 h3
  refine ⟨a, S0, b, x, _, rfl, h3.sub_of (Ts := b :: [(q, .lst [.int x])] :: L) (by walk_at "hz.sub"), hP, hx, fun t2 H4 h4 => ?_⟩
  walk_at "hz.g"
  refine while_w (fun m σ H => ∃ (pre : List Nat) (y : Nat) (t : Addr), m = (S0.ds y).len ∧ σ = [some (.ref a), some (.int x), some (.int p), some (.int (S0.ds x).lo), some (.int (S0.ds x).hi), some (.ref q), some (.ref t)] ∧ (∀ tl, Way S0 p y tl → Way S0 p x (pre ++ tl)) ∧
    (∀ z ∈ pre ++ [y], S0.al z = true ∧ (S0.ds z).lo ≤ p ∧ p < (S0.ds z).hi) ∧ pre.length + (S0.ds y).len ≤ 16 ∧ HB H ([(t, .tup (descV (S0.ds y)))] :: b :: [(q, .lst (iv (pre ++ [y])))] :: L)) (S0.ds x).len
    ⟨[], x, t2, rfl, rfl, fun tl h => h, fun z hz => ?_, by simp; omega, h4⟩ ?_
  · rw [List.mem_singleton.mp hz]
    exact ⟨hx, hlo, hhi⟩
  rintro m σ H5 ⟨pre, y, t, rfl, rfl, hway, hgood, hl2, h5⟩
  obtain ⟨hy, hylo, hyhi⟩ := hgood y (by simp)
  have hyg := wf.bd y hy
  cases e : S0.ds y with
  | leaf p2 w2 =>
    rw [e] at h5
    walk_at "hz.g"
    have z := hway [y] (.leaf e)
    exact k _ q _ z hgood (by rw [List.length_append]; simp; omega) (h5.sub_of (by walk_at "hz.sub"))
  | fork lo hi l r =>
    rw [e] at h5
    obtain ⟨f1, f2, f3, f4, f5, f6, f7, _, _⟩ := st.fork y lo hi l r hyg e
    have c1 := wf.cl y hy
    rw [e] at c1 hylo hyhi hl2
    have hylo : lo ≤ p := hylo
    have hyhi : p < hi := hyhi
    have hl2 : pre.length + (hi - lo) ≤ 16 := hl2
    walk_at "hz.g"
    refine r_wh ?_
    walk_at "hz.g"
    refine ⟨t, lo, hi, l, r, p, rfl, h5.at .here, ?_⟩
    have hh : S0.al (if p < (lo + hi) / 2 then l else r) = true ∧ (S0.ds (if p < (lo + hi) / 2 then l else r)).lo ≤ p ∧ p < (S0.ds (if p < (lo + hi) / 2 then l else r)).hi ∧ (S0.ds (if p < (lo + hi) / 2 then l else r)).len < hi - lo := by
      unfold Prt.len
      split
      · exact ⟨(c1 l (by simp [Prt.halves])).2, by omega, by omega, by omega⟩
      · exact ⟨(c1 r (by simp [Prt.halves])).2, by omega, by omega, by omega⟩
    have hway2 : ∀ tl, Way S0 p (if p < (lo + hi) / 2 then l else r) tl → Way S0 p x ((pre ++ [y]) ++ tl) := fun tl h => by
      rw [List.append_assoc]
      exact hway _ (.fork e h)
    generalize (if p < (lo + hi) / 2 then l else r) = z at hh hway2
    obtain ⟨g1, g2, g3, g4⟩ := hh
    walk_at "hz.g"
    · rw [iv_len, List.length_append]; exact sz100' (by simp; omega)
    intro H6 h6
    walk_at "hz.g"
    have e3 : iv (pre ++ [y]) ++ [.int z] = iv (pre ++ [y] ++ [z]) := by rw [iv_append (xs := pre ++ [y])]; rfl
    rw [e3] at h6
    refine ⟨a, S0, b, z, _, rfl, h6.sub_of (Ts := b :: [(q, .lst (iv (pre ++ [y] ++ [z])))] :: L) (by walk_at "hz.sub"), hP, g1, fun t3 H7 h7 => ?_⟩
    walk_at "hz.g"
    refine ⟨(S0.ds z).len, by show _ < hi - lo; exact g4, pre ++ [y], z, t3, rfl, rfl, hway2, fun v hv => ?_, by simp; omega, h7⟩
    rcases List.mem_append.mp hv with c | c
    · exact hgood v c
    · rw [List.mem_singleton.mp c]; exact ⟨g1, g2, g3⟩
def spPutDown (C : Addr) : Sp := fun vs H Q _ => ∃ (a : Addr) (S : PS) (b : Blk) (x p : Nat) (w : Int) (dt : Nat → Nat) (ow : Nat → Nat) (T : Tre) (W : List Nat) (F Vs : List Int) (k0 : Nat) (L : List Blk), vs = [.ref a, .int x, .int p, .int w] ∧ HB H (b :: L) ∧ Parts C a S b ∧ WF S dt ∧ Stat S ow T W F Vs k0 ∧
  (∀ y, y < S.gv → ow y < k0) ∧ S.al x = true ∧ (S.ds x).lo ≤ p ∧ p < (S.ds x).hi ∧ F.length ≤ 16 ∧ isW w = true ∧ wsv W k0 = p ∧ valT T W F Vs k0 p = w ∧ ow x = last T W (par T k0) (S.ds x).lo (S.ds x).hi ∧ S.gv + 18 ≤ 5000 ∧
  ∀ S2 ow2 y b' H', Ext S S2 → WF S2 dt → Stat S2 ow2 T W F Vs k0 → (∀ z, z < S.gv → ow2 z = ow z) → y < S2.gv → S2.al y = true → ow2 y = k0 → (S2.ds y).lo = (S.ds x).lo → (S2.ds y).hi = (S.ds x).hi → S.gv ≤ y → S2.gv ≤ S.gv + 18 → Parts C a S2 b' → HB H' (b' :: L) → Q (.int y) H'
theorem sc_put_down : FnScope ["parts", "root", "place", "worth", "way", "number", "elder", "told"] ["parts", "root", "place", "worth"] (defScope (top 24)) := ⟨rfl, rfl, rfl, by decide +kernel, rfl, by decide +kernel, by decide +kernel⟩
-- slots of put_down: parts 0, root 1, place 2, worth 3, way 4, number 5, elder 6, told 7
theorem ok_put_down (S : Sit P w K mg base) : CF P w K mg base CX0 "put_down" ["parts", "root", "place", "worth"] 7 (spPutDown (CP K)) := by
  refine cf_put_down S fun f fd F => F.ok sc_put_down (fun vs H Q E h => ?_) (fun cdv A outer s H vs Q E hr h => ?_)
  · first | (obtain ⟨_, rfl, _⟩ := h; rfl) | (obtain ⟨_, _, rfl, _⟩ := h; rfl) | (obtain ⟨_, _, _, rfl, _⟩ := h; rfl) | (obtain ⟨_, _, _, _, rfl, _⟩ := h; rfl) | (obtain ⟨_, _, _, _, _, rfl, _⟩ := h; rfl) | (obtain ⟨_, _, _, _, _, _, rfl, _⟩ := h; rfl) | (obtain ⟨_, _, _, _, _, _, _, rfl, _⟩ := h; rfl) | (obtain ⟨_, _, _, _, _, _, _, _, rfl, _⟩ := h; rfl) | (obtain ⟨_, _, _, _, _, _, _, _, _, rfl, _⟩ := h; rfl) | (obtain ⟨_, _, _, _, _, _, _, _, _, _, rfl, _⟩ := h; rfl) | (obtain ⟨_, _, _, _, _, _, _, _, _, _, _, rfl, _⟩ := h; rfl) | (obtain ⟨_, _, _, _, _, _, _, _, _, _, _, _, rfl, _⟩ := h; rfl) | (obtain ⟨_, _, _, _, _, _, _, _, _, _, _, _, _, rfl, _⟩ := h; rfl) | (obtain ⟨_, _, _, _, _, _, _, _, _, _, _, _, _, _, rfl, _⟩ := h; rfl) | (obtain ⟨_, _, _, _, _, _, _, _, _, _, _, _, _, _, _, rfl, _⟩ := h; rfl) | (obtain ⟨_, _, _, _, _, _, _, _, _, _, _, _, _, _, _, _, rfl, _⟩ := h; rfl) | (obtain ⟨_, _, _, _, _, _, _, _, _, _, _, _, _, _, _, _, _, rfl, _⟩ := h; rfl) | (obtain ⟨_, _, _, _, _, _, _, _, _, _, _, _, _, _, _, _, _, _, rfl, _⟩ := h; rfl) | (obtain ⟨_, _, _, _, _, _, _, _, _, _, _, _, _, _, _, _, _, _, _, rfl, _⟩ := h; rfl) | (obtain ⟨_, _, _, _, _, _, _, _, _, _, _, _, _, _, _, _, _, _, _, _, rfl, _⟩ := h; rfl) | (obtain ⟨_, _, _, _, _, _, _, _, _, _, _, _, _, _, _, _, _, _, _, _, _, rfl, _⟩ := h; rfl)
  obtain ⟨a, S0, b, x, p, w0, dt, ow, T, W, F, Vs, k0, L, rfl, hb, hP, wf, st, hold, hx, hlo, hhi, hF, hw, hW, hV, how, hgv, k⟩ := h
  have hxg := wf.bd x hx
  have hrx := st.rng x hxg
  have hk0 : 0 < k0 := Nat.lt_of_le_of_lt (Nat.zero_le _) (hold x hxg)
  refine ⟨_, PSs.nox (pss_cons (ps_set (i := 4) sc_put_down.nd rfl (Or.inl rfl) (pe_callC (ok_way_down S) (hr.mono (by decide)) (by rfl) pass0 (pa_cons (pv 0) (pa_cons (pv 1) (pa_cons (pv 2) pa_nil)))))
      (pss_cons (ps_if (pt_not (pt_val (pe_callC (ok_is_worth S) (hr.mono (by decide)) (by rfl) pass0 (pa_cons (pv 3) pa_nil)))) (pss_one ps_never) pss_nil)
      (pss_cons (ps_set (i := 5) sc_put_down.nd rfl (Or.inl rfl) (pe_methC (pv 0) (ok_Parts_leaf S) (hr.mono (by decide)) pass0 (pa_cons (pv 2) (pa_cons (pv 3) pa_nil))))
      (pss_cons (ps_for PassesOwn.never rfl (RT.pi_revA (by rfl) (fr_reversed S) (pe_slice (sl_listK (K := K) rfl) (pv 4) po_none (po_some (pe_un un_neg pe_int)))) (pg_name (i := 6) sc_put_down.nd rfl (Or.inl rfl)) (pss_cons (ps_set (i := 7) sc_put_down.nd rfl (Or.inl rfl) (pe_methC (pv 0) (ok_Parts_part S) (hr.mono (by decide)) pass0 (pa_cons (pv 6) pa_nil)))
      (pss_one (ps_if (pt_cmpR op_eq (pe_callC (ok_half_of S) (hr.mono (by decide)) (by rfl) pass0 (pa_cons (pv 7) (pa_cons (pv 2) pa_nil))) (pe_ix (ix_tupK (K := K) rfl) (pv 7) pe_int (fun _ _ => rfl)) (nomark _)) (pss_one (ps_set (i := 5) sc_put_down.nd rfl (Or.inl rfl) (pe_methC (pv 0) (ok_Parts_fork S) (hr.mono (by decide)) pass0 (pa_cons (pe_ix (ix_tupK (K := K) rfl) (pv 7) pe_int (fun _ _ => rfl)) (pa_cons (pe_ix (ix_tupK (K := K) rfl) (pv 7) pe_int (fun _ _ => rfl)) (pa_cons (pv 5) (pa_cons (pe_ix (ix_tupK (K := K) rfl) (pv 7) pe_int (fun _ _ => rfl)) pa_nil))))))) (pss_one (ps_set (i := 5) sc_put_down.nd rfl (Or.inl rfl) (pe_methC (pv 0) (ok_Parts_fork S) (hr.mono (by decide)) pass0 (pa_cons (pe_ix (ix_tupK (K := K) rfl) (pv 7) pe_int (fun _ _ => rfl)) (pa_cons (pe_ix (ix_tupK (K := K) rfl) (pv 7) pe_int (fun _ _ => rfl)) (pa_cons (pe_ix (ix_tupK (K := K) rfl) (pv 7) pe_int (fun _ _ => rfl)) (pa_cons (pv 5) pa_nil)))))))))))
      (pss_one (ps_ret (pv 5))))))), ?_⟩
  walk_at "hz.st"
  walk_at "hz.g"
  refine ⟨a, S0, b, x, p, dt, ow, T, W, F, Vs, k0, L, rfl, hb, hP, wf, st, hx, hlo, hhi, by unfold Prt.len; omega, fun ws q H1 way good wl h1 => ?_⟩
  walk_at "hz.g"
  refine r_worth hw ?_
  walk_at "hz.g"
  refine ⟨a, S0, b, p, w0, _, rfl, h1.swap, hP, by omega, hw, by omega, fun b1 H2 hP2 h2 => ?_⟩
  walk_at "hz.g"
  rename_i q2 H3 h3
  rw [cut_butlast] at h3
  rw [cut_butlast, iv_len]
  have how2 := way_ow st way hxg how
  obtain ⟨w1, w2, yl, pl, wl0, w3, w4⟩ := way.get
  have hlen : ws.dropLast.length = ws.length - 1 := List.length_dropLast
  have hpos : 0 < ws.length := by
    obtain ⟨z1, _⟩ := List.getElem?_eq_some_iff.mp w1
    exact z1
  have d0 : (S0.lay (.leaf p w0)).ds S0.gv = .leaf p w0 := upf_same
  have inp : p ≤ wsv W k0 ∧ wsv W k0 < p + 1 := ⟨by omega, by omega⟩
  have hyl : (S0.ds yl).lo = p ∧ (S0.ds yl).hi = p + 1 := by
    obtain ⟨_, g1, g2⟩ := good yl (List.mem_of_getLast? w3)
    rw [w4] at g1 g2 ⊢
    have g1 : pl ≤ p := g1
    have g2 : p < pl + 1 := g2
    exact ⟨(show pl = p by omega), (show pl + 1 = p + 1 by omega)⟩
  have st1 := st.lay (k := k0) (d := .leaf p w0) (Nat.le_refl _) ⟨Nat.lt_succ_self p, (show p + 1 ≤ F.length by omega)⟩ (fun p2 w2 e => by cases e; exact hV.symm) (fun _ _ _ _ e => by cases e) (last_yes hk0 inp) (fun z hz h1 _ _ => absurd h1 (Nat.ne_of_lt (hold z hz)))
  refine for_w (walk_revIv (ys := ws.dropLast)) (fun i σ H => ∃ (Si : PS) (owi : Nat → Nat) (bi : Blk) (num : Nat) (z6 z7 : Option V), σ = [some (.ref a), some (.int x), some (.int p), some (.int w0), some (.ref q), some (.int num), z6, z7] ∧ Ext S0 Si ∧ WF Si dt ∧ Stat Si owi T W F Vs k0 ∧ (∀ z, z < S0.gv → owi z = ow z) ∧ num < Si.gv ∧ S0.gv ≤ num ∧ Si.al num = true ∧ owi num = k0 ∧
    (∀ y, ws[ws.length - 1 - i]? = some y → (Si.ds num).lo = (S0.ds y).lo ∧ (Si.ds num).hi = (S0.ds y).hi) ∧ (∀ z, S0.gv ≤ z → z < Si.gv → (Si.ds z).len ≤ (Si.ds num).len) ∧ Si.gv ≤ S0.gv + 1 + i ∧ Parts (CP K) a Si bi ∧
    HB H (bi :: [(q2, .lst (iv ws.dropLast))] :: L)) ?_ (fun i σ H hi h => ?_) (fun i w5 σ H H' hi h y => ?_) (fun σ H h => ?_)
  · refine ⟨_, _, b1, S0.gv, none, none, rfl, ext_lay, wf.lay (fun z hz => by cases hz), st1, fun z hz => upf_ne (by omega), Nat.lt_succ_self _, Nat.le_refl _, upf_same, upf_same, fun y hy => ?_, fun z h1 h2 => ?_, Nat.le_refl _, hP2, h3.sub_of (by walk_at "hz.sub")⟩
    · rw [d0]
      rw [Nat.sub_zero, ← List.getLast?_eq_getElem?, w3] at hy
      cases hy
      exact ⟨hyl.1.symm, hyl.2.symm⟩
    · have h2 : z < S0.gv + 1 := h2
      rw [show z = S0.gv by omega]
      exact Nat.le_refl _
  · obtain ⟨Si, owi, bi, num, z6, z7, _, _, _, _, _, _, _, _, _, _, _, _, _, h⟩ := h
    exact SqL.of (h.at (by walk_at "hz.at"))
  · obtain ⟨Si, owi, bi, num, z6, z7, rfl, xi, wi, si, oi, n1, n2, n3, n4, n5, n6, n7, pi, h⟩ := h
    obtain ⟨rfl, y, hy, rfl⟩ := y
    have hi' : i < ws.length - 1 := by omega
    have hy0 : ws[ws.length - 1 - (i + 1)]? = some y := by
      rw [List.getElem?_dropLast, if_pos (by omega), hlen] at hy
      rw [show ws.length - 1 - (i + 1) = ws.length - 1 - 1 - i by omega]
      exact hy
    obtain ⟨z, hz⟩ : ∃ z, ws[ws.length - 1 - i]? = some z := ⟨_, List.getElem?_eq_getElem (by omega)⟩
    obtain ⟨lo, hi2, l, r, e1, e2⟩ := w2 (ws.length - 1 - (i + 1)) y z hy0 (by rw [show ws.length - 1 - (i + 1) + 1 = ws.length - 1 - i by omega]; exact hz)
    obtain ⟨g1, g2, g3⟩ := good y (List.mem_of_getElem? hy0)
    have hyg := wf.bd y g1
    obtain ⟨f1, f2, f3, f4, f5, f6, f7, f8, f9⟩ := st.fork y lo hi2 l r hyg e1
    have oy := how2 y (List.mem_of_getElem? hy0)
    have cy := wf.cl y g1
    rw [e1] at g2 g3 oy cy
    replace g2 : lo ≤ p := g2
    replace g3 : p < hi2 := g3
    replace oy : ow y = last T W (par T k0) lo hi2 := oy
    obtain ⟨m1, m2⟩ := n5 z hz
    have gvi := xi.gv
    have ey : Si.ds y = .fork lo hi2 l r := (xi.ds y hyg).trans e1
    have hi16 : hi2 ≤ 16 := by
      have := (st.rng y hyg).2
      rw [e1] at this
      have : hi2 ≤ F.length := this
      omega
    have al : Si.al l = true := by rw [xi.al l (by omega)]; exact (cy l (by simp [Prt.halves])).2
    have ar : Si.al r = true := by rw [xi.al r (by omega)]; exact (cy r (by simp [Prt.halves])).2
    have el := xi.ds l (by omega)
    have er := xi.ds r (by omega)
    have inn : lo ≤ wsv W k0 ∧ wsv W k0 < hi2 := ⟨by omega, by omega⟩
    have fresh : ∀ v, v < Si.gv → owi v = k0 → (Si.ds v).lo = lo → (Si.ds v).hi = hi2 → (Si.ds num).len < hi2 - lo → False := fun v hv o1 o2 o3 o4 => by
      by_cases c : v < S0.gv
      · rw [oi v c] at o1
        exact absurd o1 (Nat.ne_of_lt (hold v c))
      · have := n6 v (by omega) hv
        unfold Prt.len at this o4
        omega
    have ne : l ≠ r := fun c => by rw [c, f6] at f4; omega
    walk_at "hz.g"
    refine ⟨a, Si, bi, y, _, rfl, h, pi, (by rw [xi.al y hyg]; exact g1), fun t H4 h4 => ?_⟩
    rw [ey] at h4
    walk_at "hz.g"
    refine ⟨t, lo, hi2, l, r, p, rfl, h4.at .here, ?_⟩
    walk_at "hz.g"
    by_cases c : p < (lo + hi2) / 2
    · rw [if_pos c] at e2 ⊢
      subst e2
      rw [f4] at m1
      rw [f5] at m2
      refine r_yes (by simp) ?_
      walk_at "hz.g"
      have o1 : owi num = last T W k0 lo ((lo + hi2) / 2) := by rw [n4, last_yes hk0 ⟨by omega, by omega⟩]
      have o2 : owi r = last T W k0 ((lo + hi2) / 2) hi2 := by rw [oi r (by omega), f9, oy, last_sub (by omega) (Nat.le_refl _), last_no hk0 (by omega)]
      refine ⟨a, Si, bi, num, r, _, by rw [m1, er, f7], h4.swap, pi, n3, ar, by rw [m1, m2, er, f7], by rw [m2, er, f6], by rw [m1, er, f7]; omega, by rw [er, f7]; omega, by omega, fun b2 H5 hP5 h5 => ?_⟩
      rw [m1, er, f7] at hP5
      have st2 := si.lay (k := k0) (d := .fork lo hi2 num r) (Nat.le_refl _) ⟨(show lo < hi2 by omega), (show hi2 ≤ F.length by have := (st.rng y hyg).2; rw [e1] at this; exact this)⟩ (fun p2 w2 e => by cases e) (fun lo3 hi3 l3 r3 e => by
        cases e
        exact ⟨n1, by omega, f3, m1, m2, by rw [er, f6], by rw [er, f7], o1, o2⟩) (last_yes hk0 inn) (fun v hv q1 q2 q3 => fresh v hv q1 q2 q3 (by unfold Prt.len; omega))
      have d1 : (Si.lay (.fork lo hi2 num r)).ds Si.gv = .fork lo hi2 num r := upf_same
      walk_at "hz.g"
      refine ⟨_, _, b2, Si.gv, _, _, rfl, xi.trans ext_lay, wi.lay (fun v hv => ?_), st2, fun v hv => (upf_ne (by omega)).trans (oi v hv), Nat.lt_succ_self _, gvi, upf_same, upf_same, fun v hv => ?_, fun v h1 h2 => ?_, (by show Si.gv + 1 ≤ _; omega), hP5, h5.sub_of (by walk_at "hz.sub")⟩
      · rcases List.mem_cons.mp hv with c2 | c2
        · rw [c2]; exact ⟨n1, n3⟩
        · rw [List.mem_singleton.mp c2]; exact ⟨by omega, ar⟩
      · rw [hy0] at hv
        cases hv
        rw [d1, e1]
        exact ⟨rfl, rfl⟩
      · rw [d1]
        have h2 : v < Si.gv + 1 := h2
        show _ ≤ hi2 - lo
        by_cases c2 : v = Si.gv
        · rw [c2, d1]; exact Nat.le_refl _
        · have e3 : (Si.lay (.fork lo hi2 num r)).ds v = Si.ds v := upf_ne c2
          rw [e3]
          have := n6 v h1 (by omega)
          unfold Prt.len at this ⊢
          omega
    · rw [if_neg c] at e2 ⊢
      subst e2
      rw [f6] at m1
      rw [f7] at m2
      refine r_no (by simp; omega) ?_
      walk_at "hz.g"
      have o1 : owi num = last T W k0 ((lo + hi2) / 2) hi2 := by rw [n4, last_yes hk0 ⟨by omega, by omega⟩]
      have o2 : owi l = last T W k0 lo ((lo + hi2) / 2) := by rw [oi l (by omega), f8, oy, last_sub (Nat.le_refl _) (by omega), last_no hk0 (by omega)]
      refine ⟨a, Si, bi, l, num, _, by rw [m2, el, f4], h4.swap, pi, al, n3, by rw [m2, el, f4, f5], by rw [m1, el, f5], by rw [m2, el, f4]; omega, by rw [m2]; omega, by omega, fun b2 H5 hP5 h5 => ?_⟩
      rw [m2, el, f4] at hP5
      have st2 := si.lay (k := k0) (d := .fork lo hi2 l num) (Nat.le_refl _) ⟨(show lo < hi2 by omega), (show hi2 ≤ F.length by have := (st.rng y hyg).2; rw [e1] at this; exact this)⟩ (fun p2 w2 e => by cases e) (fun lo3 hi3 l3 r3 e => by
        cases e
        exact ⟨by omega, n1, f3, by rw [el, f4], by rw [el, f5], m1, m2, o2, o1⟩) (last_yes hk0 inn) (fun v hv q1 q2 q3 => fresh v hv q1 q2 q3 (by unfold Prt.len; omega))
      have d1 : (Si.lay (.fork lo hi2 l num)).ds Si.gv = .fork lo hi2 l num := upf_same
      walk_at "hz.g"
      refine ⟨_, _, b2, Si.gv, _, _, rfl, xi.trans ext_lay, wi.lay (fun v hv => ?_), st2, fun v hv => (upf_ne (by omega)).trans (oi v hv), Nat.lt_succ_self _, gvi, upf_same, upf_same, fun v hv => ?_, fun v h1 h2 => ?_, (by show Si.gv + 1 ≤ _; omega), hP5, h5.sub_of (by walk_at "hz.sub")⟩
      · rcases List.mem_cons.mp hv with c2 | c2
        · rw [c2]; exact ⟨by omega, al⟩
        · rw [List.mem_singleton.mp c2]; exact ⟨n1, n3⟩
      · rw [hy0] at hv
        cases hv
        rw [d1, e1]
        exact ⟨rfl, rfl⟩
      · rw [d1]
        have h2 : v < Si.gv + 1 := h2
        show _ ≤ hi2 - lo
        by_cases c2 : v = Si.gv
        · rw [c2, d1]; exact Nat.le_refl _
        · have e3 : (Si.lay (.fork lo hi2 l num)).ds v = Si.ds v := upf_ne c2
          rw [e3]
          have := n6 v h1 (by omega)
          unfold Prt.len at this ⊢
          omega
  · obtain ⟨Si, owi, bi, num, z6, z7, rfl, xi, wi, si, oi, n1, n2, n3, n4, n5, n6, n7, pi, h⟩ := h
    rw [hlen] at n5 n7
    walk_at "hz.g"
    obtain ⟨m1, m2⟩ := n5 x (by rw [Nat.sub_self]; exact w1)
    exact k Si owi num bi _ xi wi si oi n1 n3 n4 m1 m2 n2 (by omega) pi (h.sub_of (by walk_at "hz.sub"))

/-! D8s: rows: what their methods keep -/
def sRNeed (CL C : Addr) (ks : List Str) : Sp := fun vs H Q _ => ∃ (a : Addr) (M : Mdl) (ef : List (Str × V)) (eb b : Blk) (m : Nat) (L : List Blk), vs = [.ref a, .int m] ∧ HB H (b :: L) ∧ Row CL C ks a M ef eb b ∧ M.kept m ∧ ∀ H', HB H' (b :: L) → Q .non H'
def sRPlace (CL C : Addr) (ks : List Str) : Sp := fun vs H Q _ => ∃ (a : Addr) (M : Mdl) (ef : List (Str × V)) (eb b : Blk) (p : Nat) (L : List Blk), vs = [.ref a, .int p] ∧ HB H (b :: L) ∧ Row CL C ks a M ef eb b ∧ p < M.F.length ∧ ∀ H', HB H' (b :: L) → Q .non H'
def sRRoom (CL C : Addr) (ks : List Str) : Sp := fun vs H Q _ => ∃ (a : Addr) (M : Mdl) (ef : List (Str × V)) (eb b : Blk) (n : Nat) (L : List Blk), vs = [.ref a, .int n] ∧ HB H (b :: L) ∧ Row CL C ks a M ef eb b ∧ M.T.length + 1 + n ≤ 64 ∧ ∀ H', HB H' (b :: L) → Q .non H'
def sRMany (CL C : Addr) (ks : List Str) : Sp := fun vs H Q _ => ∃ (a : Addr) (M : Mdl) (ef : List (Str × V)) (eb b : Blk) (L : List Blk), vs = [.ref a] ∧ HB H (b :: L) ∧ Row CL C ks a M ef eb b ∧ ∀ H', HB H' (b :: L) → Q (.int ((M.T.length : Int) + 1)) H'
def sRMakes (CL C : Addr) (ks : List Str) : Sp := fun vs H Q _ => ∃ (a : Addr) (M : Mdl) (ef : List (Str × V)) (eb b : Blk) (L : List Blk), vs = [.ref a] ∧ HB H (b :: L) ∧ Row CL C ks a M ef eb b ∧ ∀ p H', HB H' ([(p, .lst (iv M.keptL))] :: b :: L) → Q (.ref p) H'
def sRTree (CL C : Addr) (ks : List Str) : Sp := fun vs H Q _ => ∃ (a : Addr) (M : Mdl) (ef : List (Str × V)) (eb b : Blk) (L : List Blk), vs = [.ref a] ∧ HB H (b :: L) ∧ Row CL C ks a M ef eb b ∧ ∀ p c H', Tree CL p M.T c → HB H' (c :: b :: L) → Q (.ref p) H'
def sRPlaceOf (CL C : Addr) (ks : List Str) : Sp := fun vs H Q _ => ∃ (a : Addr) (M : Mdl) (ef : List (Str × V)) (eb b : Blk) (m : Nat) (L : List Blk), vs = [.ref a, .int m] ∧ HB H (b :: L) ∧ Row CL C ks a M ef eb b ∧ m ≤ M.T.length ∧ ∀ H', HB H' (b :: L) → Q (wv M.W m) H'
def sRSize (CL C : Addr) (ks : List Str) : Sp := fun vs H Q _ => ∃ (a : Addr) (M : Mdl) (ef : List (Str × V)) (eb b : Blk) (L : List Blk), vs = [.ref a] ∧ HB H (b :: L) ∧ Row CL C ks a M ef eb b ∧ ∀ H', HB H' (b :: L) → Q (.int M.F.length) H'
def sRSteps (CL C : Addr) (ks : List Str) : Sp := fun vs H Q _ => ∃ (a : Addr) (M : Mdl) (ef : List (Str × V)) (eb b : Blk) (n : Int) (L : List Blk), vs = [.ref a, .int n] ∧ HB H (b :: L) ∧ Row CL C ks a M ef eb b ∧ ∀ b' H', Row CL C ks a M ef eb b' → HB H' (b' :: L) → Q .non H'
abbrev WPr : Type := Mdl → List (Str × V) → Blk → Prop
def sRStore (CL C : Addr) (ks : List Str) (WP : WPr) : Sp := fun vs H Q _ => ∃ (a : Addr) (M : Mdl) (ef : List (Str × V)) (eb b : Blk) (m p : Nat) (w : Int) (L : List Blk), vs = [.ref a, .int m, .int ((M.T.length + 1 : Nat) : Int), .int p, .int w] ∧ HB H (b :: L) ∧ Row CL C ks a (M.put m p w) ef eb b ∧ WP M ef eb ∧ MdlOk M ∧ M.kept m ∧ p < M.F.length ∧ isW w = true ∧ M.T.length < 63 ∧
  ∀ ef' eb' b' H', Row CL C ks a (M.put m p w) ef' eb' b' → WP (M.put m p w) ef' eb' → HB H' (b' :: L) → Q .non H'
def sRPut (CL C : Addr) (ks : List Str) (WP : WPr) : Sp := fun vs H Q _ => ∃ (a : Addr) (M : Mdl) (ef : List (Str × V)) (eb b : Blk) (m p : Nat) (w : Int) (L : List Blk), vs = [.ref a, .int m, .int p, .int w] ∧ HB H (b :: L) ∧ Row CL C ks a M ef eb b ∧ WP M ef eb ∧ M.kept m ∧ p < M.F.length ∧ isW w = true ∧ M.T.length < 63 ∧
  ∀ ef' eb' b' H', Row CL C ks a (M.put m p w) ef' eb' b' → WP (M.put m p w) ef' eb' → HB H' (b' :: L) → Q (.int ((M.T.length : Int) + 1)) H'
def vals (M : Mdl) (m lo hi : Nat) : List Int := (List.range (hi - lo)).map fun i => M.val m (lo + i)
def sRWorths (CL C : Addr) (ks : List Str) (WP : WPr) : Sp := fun vs H Q _ => ∃ (a : Addr) (M : Mdl) (ef : List (Str × V)) (eb b : Blk) (m lo hi : Nat) (L : List Blk), vs = [.ref a, .int m, .int lo, .int hi] ∧ HB H (b :: L) ∧ Row CL C ks a M ef eb b ∧ WP M ef eb ∧ M.kept m ∧ lo < hi ∧ hi ≤ M.F.length ∧
  ∀ p ef' eb' b' H', Row CL C ks a M ef' eb' b' → WP M ef' eb' → HB H' ([(p, .lst ((vals M m lo hi).map V.int))] :: b' :: L) → Q (.ref p) H'
def sRAt (CL C : Addr) (ks : List Str) (WP : WPr) : Sp := fun vs H Q _ => ∃ (a : Addr) (M : Mdl) (ef : List (Str × V)) (eb b : Blk) (m p : Nat) (L : List Blk), vs = [.ref a, .int m, .int p] ∧ HB H (b :: L) ∧ Row CL C ks a M ef eb b ∧ WP M ef eb ∧ M.kept m ∧ p < M.F.length ∧
  ∀ ef' eb' b' H', Row CL C ks a M ef' eb' b' → WP M ef' eb' → HB H' (b' :: L) → Q (.int (M.val m p)) H'
def sRFreed (CL C : Addr) (ks : List Str) (WP : WPr) : Sp := fun vs H Q _ => ∃ (a : Addr) (M : Mdl) (ef : List (Str × V)) (eb b : Blk) (m : Nat) (L : List Blk), vs = [.ref a, .int m] ∧ HB H (b :: L) ∧ Row CL C ks a (M.free m) ef eb b ∧ WP M ef eb ∧ MdlOk M ∧ M.kept m ∧ (∃ x, x ≠ m ∧ M.kept x) ∧
  ∀ v ef' eb' b' H', Row CL C ks a (M.free m) ef' eb' b' → WP (M.free m) ef' eb' → HB H' (b' :: L) → Q v H'
def sRLetGo (CL C : Addr) (ks : List Str) (WP : WPr) : Sp := fun vs H Q _ => ∃ (a : Addr) (M : Mdl) (ef : List (Str × V)) (eb b : Blk) (m : Nat) (L : List Blk), vs = [.ref a, .int m] ∧ HB H (b :: L) ∧ Row CL C ks a M ef eb b ∧ WP M ef eb ∧ M.kept m ∧ 2 ≤ M.keptL.length ∧
  ∀ v ef' eb' b' H', Row CL C ks a (M.free m) ef' eb' b' → WP (M.free m) ef' eb' → HB H' (b' :: L) → Q v H'

/-! D8: rows' own methods, class Copied -/
theorem sc_Rows_need_make : FnScope ["self", "make"] ["self", "make"] (defScope (inClass (top 31) 17)) := ⟨rfl, rfl, rfl, by decide +kernel, rfl, by decide +kernel, by decide +kernel⟩
-- slots of Rows.need_make: self 0, make 1
theorem ok_Copied_need_make (S : Sit P w K mg base) : MF P w K mg base CX0 (He.ga K "Copied") "need_make" ["self", "make"] 2 (sRNeed (CT K) (He.ga K "Copied") ["halves", "roots"]) := by
  refine mf_Copied_need_make S fun f fd F => F.ok sc_Rows_need_make (fun vs H Q E h => ?_) (fun cdv A outer s H vs Q E hr h => ?_)
  · first | (obtain ⟨_, rfl, _⟩ := h; rfl) | (obtain ⟨_, _, rfl, _⟩ := h; rfl) | (obtain ⟨_, _, _, rfl, _⟩ := h; rfl) | (obtain ⟨_, _, _, _, rfl, _⟩ := h; rfl) | (obtain ⟨_, _, _, _, _, rfl, _⟩ := h; rfl) | (obtain ⟨_, _, _, _, _, _, rfl, _⟩ := h; rfl) | (obtain ⟨_, _, _, _, _, _, _, rfl, _⟩ := h; rfl) | (obtain ⟨_, _, _, _, _, _, _, _, rfl, _⟩ := h; rfl) | (obtain ⟨_, _, _, _, _, _, _, _, _, rfl, _⟩ := h; rfl) | (obtain ⟨_, _, _, _, _, _, _, _, _, _, rfl, _⟩ := h; rfl) | (obtain ⟨_, _, _, _, _, _, _, _, _, _, _, rfl, _⟩ := h; rfl) | (obtain ⟨_, _, _, _, _, _, _, _, _, _, _, _, rfl, _⟩ := h; rfl) | (obtain ⟨_, _, _, _, _, _, _, _, _, _, _, _, _, rfl, _⟩ := h; rfl) | (obtain ⟨_, _, _, _, _, _, _, _, _, _, _, _, _, _, rfl, _⟩ := h; rfl) | (obtain ⟨_, _, _, _, _, _, _, _, _, _, _, _, _, _, _, rfl, _⟩ := h; rfl) | (obtain ⟨_, _, _, _, _, _, _, _, _, _, _, _, _, _, _, _, rfl, _⟩ := h; rfl) | (obtain ⟨_, _, _, _, _, _, _, _, _, _, _, _, _, _, _, _, _, rfl, _⟩ := h; rfl) | (obtain ⟨_, _, _, _, _, _, _, _, _, _, _, _, _, _, _, _, _, _, rfl, _⟩ := h; rfl) | (obtain ⟨_, _, _, _, _, _, _, _, _, _, _, _, _, _, _, _, _, _, _, rfl, _⟩ := h; rfl) | (obtain ⟨_, _, _, _, _, _, _, _, _, _, _, _, _, _, _, _, _, _, _, _, rfl, _⟩ := h; rfl) | (obtain ⟨_, _, _, _, _, _, _, _, _, _, _, _, _, _, _, _, _, _, _, _, _, rfl, _⟩ := h; rfl)
  obtain ⟨a, M, ef, eb, b, m, L, rfl, hb, ⟨ok, hk, dx, t, wr, gn, c, tb, rfl, hT⟩, hm, k⟩ := h
  replace hb := row_open hb
  have hml := ok.le hm
  have g := ok.g
  refine ⟨_, PSs.nox (pss_one (ps_if (PW.pt (pw_or (pt_not (pt_val (pe_callC (ok_is_whole S) (hr.mono (by decide)) (by rfl) pass0 (pa_cons (pv 1) (pa_cons pe_int (pa_cons (pe_op op_sub (pe_callB (call_lenK (K := K) rfl) (by rfl) (fr_len S) bt_len (pa_cons (pe_fldC (cls_Copied S) (na_Copied_gone S) (pv 0)) pa_nil)) pe_int) pa_nil)))))) (pw_or1 (pt_val (pe_ix (ix_listK (K := K) rfl) (pe_fldC (cls_Copied S) (na_Copied_gone S) (pv 0)) (pv 1) (fun _ _ => rfl)))))) (pss_one ps_never) pss_nil)), ?_⟩
  walk_at "hz.st"
  walk_at "hz.g"
  rw [List.length_map]
  refine r_whole (by omega) ?_
  walk_at "hz.g"
  · exact atI_gone hm
  walk_at "hz.g"
  exact k _ (row_close hb)
theorem sc_Rows_need_place : FnScope ["self", "place"] ["self", "place"] (defScope (inClass (top 31) 18)) := ⟨rfl, rfl, rfl, by decide +kernel, rfl, by decide +kernel, by decide +kernel⟩
-- slots of Rows.need_place: self 0, place 1
theorem ok_Copied_need_place (S : Sit P w K mg base) : MF P w K mg base CX0 (He.ga K "Copied") "need_place" ["self", "place"] 2 (sRPlace (CT K) (He.ga K "Copied") ["halves", "roots"]) := by
  refine mf_Copied_need_place S fun f fd F => F.ok sc_Rows_need_place (fun vs H Q E h => ?_) (fun cdv A outer s H vs Q E hr h => ?_)
  · first | (obtain ⟨_, rfl, _⟩ := h; rfl) | (obtain ⟨_, _, rfl, _⟩ := h; rfl) | (obtain ⟨_, _, _, rfl, _⟩ := h; rfl) | (obtain ⟨_, _, _, _, rfl, _⟩ := h; rfl) | (obtain ⟨_, _, _, _, _, rfl, _⟩ := h; rfl) | (obtain ⟨_, _, _, _, _, _, rfl, _⟩ := h; rfl) | (obtain ⟨_, _, _, _, _, _, _, rfl, _⟩ := h; rfl) | (obtain ⟨_, _, _, _, _, _, _, _, rfl, _⟩ := h; rfl) | (obtain ⟨_, _, _, _, _, _, _, _, _, rfl, _⟩ := h; rfl) | (obtain ⟨_, _, _, _, _, _, _, _, _, _, rfl, _⟩ := h; rfl) | (obtain ⟨_, _, _, _, _, _, _, _, _, _, _, rfl, _⟩ := h; rfl) | (obtain ⟨_, _, _, _, _, _, _, _, _, _, _, _, rfl, _⟩ := h; rfl) | (obtain ⟨_, _, _, _, _, _, _, _, _, _, _, _, _, rfl, _⟩ := h; rfl) | (obtain ⟨_, _, _, _, _, _, _, _, _, _, _, _, _, _, rfl, _⟩ := h; rfl) | (obtain ⟨_, _, _, _, _, _, _, _, _, _, _, _, _, _, _, rfl, _⟩ := h; rfl) | (obtain ⟨_, _, _, _, _, _, _, _, _, _, _, _, _, _, _, _, rfl, _⟩ := h; rfl) | (obtain ⟨_, _, _, _, _, _, _, _, _, _, _, _, _, _, _, _, _, rfl, _⟩ := h; rfl) | (obtain ⟨_, _, _, _, _, _, _, _, _, _, _, _, _, _, _, _, _, _, rfl, _⟩ := h; rfl) | (obtain ⟨_, _, _, _, _, _, _, _, _, _, _, _, _, _, _, _, _, _, _, rfl, _⟩ := h; rfl) | (obtain ⟨_, _, _, _, _, _, _, _, _, _, _, _, _, _, _, _, _, _, _, _, rfl, _⟩ := h; rfl) | (obtain ⟨_, _, _, _, _, _, _, _, _, _, _, _, _, _, _, _, _, _, _, _, _, rfl, _⟩ := h; rfl)
  obtain ⟨a, M, ef, eb, b, p, L, rfl, hb, ⟨ok, hk, dx, t, wr, gn, c, tb, rfl, hT⟩, hp, k⟩ := h
  replace hb := row_open hb
  refine ⟨_, PSs.nox (pss_one (ps_if (pt_not (pt_val (pe_callC (ok_is_whole S) (hr.mono (by decide)) (by rfl) pass0 (pa_cons (pv 1) (pa_cons pe_int (pa_cons (pe_op op_sub (pe_fldC (cls_Copied S) (na_Copied_wide S) (pv 0)) pe_int) pa_nil)))))) (pss_one ps_never) pss_nil)), ?_⟩
  walk_at "hz.st"
  walk_at "hz.g"
  refine r_whole (by omega) ?_
  walk_at "hz.g"
  exact k _ (row_close hb)
theorem sc_Rows_need_new : FnScope ["self", "make"] ["self", "make"] (defScope (inClass (top 31) 20)) := ⟨rfl, rfl, rfl, by decide +kernel, rfl, by decide +kernel, by decide +kernel⟩
-- slots of Rows.need_new: self 0, make 1
theorem ok_Copied_need_new (S : Sit P w K mg base) : MF P w K mg base CX0 (He.ga K "Copied") "need_new" ["self", "make"] 3 (sRNeed (CT K) (He.ga K "Copied") ["halves", "roots"]) := by
  refine mf_Copied_need_new S fun f fd F => F.ok sc_Rows_need_new (fun vs H Q E h => ?_) (fun cdv A outer s H vs Q E hr h => ?_)
  · first | (obtain ⟨_, rfl, _⟩ := h; rfl) | (obtain ⟨_, _, rfl, _⟩ := h; rfl) | (obtain ⟨_, _, _, rfl, _⟩ := h; rfl) | (obtain ⟨_, _, _, _, rfl, _⟩ := h; rfl) | (obtain ⟨_, _, _, _, _, rfl, _⟩ := h; rfl) | (obtain ⟨_, _, _, _, _, _, rfl, _⟩ := h; rfl) | (obtain ⟨_, _, _, _, _, _, _, rfl, _⟩ := h; rfl) | (obtain ⟨_, _, _, _, _, _, _, _, rfl, _⟩ := h; rfl) | (obtain ⟨_, _, _, _, _, _, _, _, _, rfl, _⟩ := h; rfl) | (obtain ⟨_, _, _, _, _, _, _, _, _, _, rfl, _⟩ := h; rfl) | (obtain ⟨_, _, _, _, _, _, _, _, _, _, _, rfl, _⟩ := h; rfl) | (obtain ⟨_, _, _, _, _, _, _, _, _, _, _, _, rfl, _⟩ := h; rfl) | (obtain ⟨_, _, _, _, _, _, _, _, _, _, _, _, _, rfl, _⟩ := h; rfl) | (obtain ⟨_, _, _, _, _, _, _, _, _, _, _, _, _, _, rfl, _⟩ := h; rfl) | (obtain ⟨_, _, _, _, _, _, _, _, _, _, _, _, _, _, _, rfl, _⟩ := h; rfl) | (obtain ⟨_, _, _, _, _, _, _, _, _, _, _, _, _, _, _, _, rfl, _⟩ := h; rfl) | (obtain ⟨_, _, _, _, _, _, _, _, _, _, _, _, _, _, _, _, _, rfl, _⟩ := h; rfl) | (obtain ⟨_, _, _, _, _, _, _, _, _, _, _, _, _, _, _, _, _, _, rfl, _⟩ := h; rfl) | (obtain ⟨_, _, _, _, _, _, _, _, _, _, _, _, _, _, _, _, _, _, _, rfl, _⟩ := h; rfl) | (obtain ⟨_, _, _, _, _, _, _, _, _, _, _, _, _, _, _, _, _, _, _, _, rfl, _⟩ := h; rfl) | (obtain ⟨_, _, _, _, _, _, _, _, _, _, _, _, _, _, _, _, _, _, _, _, _, rfl, _⟩ := h; rfl)
  obtain ⟨a, M, ef, eb, b, m, L, rfl, hb, hR, hm, k⟩ := h
  refine ⟨_, PSs.nox (pss_one (ps_expr (pe_methC (pv 0) (ok_Copied_need_make S) (hr.mono (by decide)) pass0 (pa_cons (pv 1) pa_nil)))), ?_⟩
  walk_at "hz.st"
  walk_at "hz.g"
  exact ⟨a, M, ef, eb, b, m, L, rfl, hb, hR, hm, k⟩
theorem sc_Rows_need_room : FnScope ["self", "many"] ["self", "many"] (defScope (inClass (top 31) 21)) := ⟨rfl, rfl, rfl, by decide +kernel, rfl, by decide +kernel, by decide +kernel⟩
-- slots of Rows.need_room: self 0, many 1
theorem ok_Copied_need_room (S : Sit P w K mg base) : MF P w K mg base CX0 (He.ga K "Copied") "need_room" ["self", "many"] 2 (sRRoom (CT K) (He.ga K "Copied") ["halves", "roots"]) := by
  refine mf_Copied_need_room S fun f fd F => F.ok sc_Rows_need_room (fun vs H Q E h => ?_) (fun cdv A outer s H vs Q E hr h => ?_)
  · first | (obtain ⟨_, rfl, _⟩ := h; rfl) | (obtain ⟨_, _, rfl, _⟩ := h; rfl) | (obtain ⟨_, _, _, rfl, _⟩ := h; rfl) | (obtain ⟨_, _, _, _, rfl, _⟩ := h; rfl) | (obtain ⟨_, _, _, _, _, rfl, _⟩ := h; rfl) | (obtain ⟨_, _, _, _, _, _, rfl, _⟩ := h; rfl) | (obtain ⟨_, _, _, _, _, _, _, rfl, _⟩ := h; rfl) | (obtain ⟨_, _, _, _, _, _, _, _, rfl, _⟩ := h; rfl) | (obtain ⟨_, _, _, _, _, _, _, _, _, rfl, _⟩ := h; rfl) | (obtain ⟨_, _, _, _, _, _, _, _, _, _, rfl, _⟩ := h; rfl) | (obtain ⟨_, _, _, _, _, _, _, _, _, _, _, rfl, _⟩ := h; rfl) | (obtain ⟨_, _, _, _, _, _, _, _, _, _, _, _, rfl, _⟩ := h; rfl) | (obtain ⟨_, _, _, _, _, _, _, _, _, _, _, _, _, rfl, _⟩ := h; rfl) | (obtain ⟨_, _, _, _, _, _, _, _, _, _, _, _, _, _, rfl, _⟩ := h; rfl) | (obtain ⟨_, _, _, _, _, _, _, _, _, _, _, _, _, _, _, rfl, _⟩ := h; rfl) | (obtain ⟨_, _, _, _, _, _, _, _, _, _, _, _, _, _, _, _, rfl, _⟩ := h; rfl) | (obtain ⟨_, _, _, _, _, _, _, _, _, _, _, _, _, _, _, _, _, rfl, _⟩ := h; rfl) | (obtain ⟨_, _, _, _, _, _, _, _, _, _, _, _, _, _, _, _, _, _, rfl, _⟩ := h; rfl) | (obtain ⟨_, _, _, _, _, _, _, _, _, _, _, _, _, _, _, _, _, _, _, rfl, _⟩ := h; rfl) | (obtain ⟨_, _, _, _, _, _, _, _, _, _, _, _, _, _, _, _, _, _, _, _, rfl, _⟩ := h; rfl) | (obtain ⟨_, _, _, _, _, _, _, _, _, _, _, _, _, _, _, _, _, _, _, _, _, rfl, _⟩ := h; rfl)
  obtain ⟨a, M, ef, eb, b, n, L, rfl, hb, ⟨ok, hk, dx, t, wr, gn, c, tb, rfl, hT⟩, hn, k⟩ := h
  replace hb := row_open hb
  refine ⟨_, PSs.nox (pss_one (ps_if (pt_cmpR op_gt (pe_op op_add (pe_methC0 (pe_fldC (cls_Copied S) (na_Copied_grown S) (pv 0)) (ok_LeapTree_many S) (hr.mono (by decide)) pass0) (pv 1)) (pe_ci (ci_MOST_MAKES S)) (nomark _)) (pss_one ps_never) pss_nil)), ?_⟩
  walk_at "hz.st"
  walk_at "hz.g"
  refine ⟨t, M.T, tb, _, rfl, hb.sub_of (Ts := tb :: [(a, .ins (He.ga K "Copied") dx (rowF M.F.length t wr gn c ef))] :: [(wr, .lst (rm (M.T.length + 1) (wv M.W)))] :: [(gn, .lst (M.gone.map V.bl))] :: eb :: L) (by walk_at "hz.sub"), hT, fun H1 h1 => ?_⟩
  walk_at "hz.g"
  refine r_no (decide_eq_false (by omega)) ?_
  walk_at "hz.g"
  exact k _ (row_close (h1.sub_of (by walk_at "hz.sub")))
theorem sc_Rows_many : FnScope ["self"] ["self"] (defScope (inClass (top 31) 10)) := ⟨rfl, rfl, rfl, by decide +kernel, rfl, by decide +kernel, by decide +kernel⟩
-- slots of Rows.many: self 0
theorem ok_Copied_many (S : Sit P w K mg base) : MF P w K mg base CX0 (He.ga K "Copied") "many" ["self"] 2 (sRMany (CT K) (He.ga K "Copied") ["halves", "roots"]) := by
  refine mf_Copied_many S fun f fd F => F.ok sc_Rows_many (fun vs H Q E h => ?_) (fun cdv A outer s H vs Q E hr h => ?_)
  · first | (obtain ⟨_, rfl, _⟩ := h; rfl) | (obtain ⟨_, _, rfl, _⟩ := h; rfl) | (obtain ⟨_, _, _, rfl, _⟩ := h; rfl) | (obtain ⟨_, _, _, _, rfl, _⟩ := h; rfl) | (obtain ⟨_, _, _, _, _, rfl, _⟩ := h; rfl) | (obtain ⟨_, _, _, _, _, _, rfl, _⟩ := h; rfl) | (obtain ⟨_, _, _, _, _, _, _, rfl, _⟩ := h; rfl) | (obtain ⟨_, _, _, _, _, _, _, _, rfl, _⟩ := h; rfl) | (obtain ⟨_, _, _, _, _, _, _, _, _, rfl, _⟩ := h; rfl) | (obtain ⟨_, _, _, _, _, _, _, _, _, _, rfl, _⟩ := h; rfl) | (obtain ⟨_, _, _, _, _, _, _, _, _, _, _, rfl, _⟩ := h; rfl) | (obtain ⟨_, _, _, _, _, _, _, _, _, _, _, _, rfl, _⟩ := h; rfl) | (obtain ⟨_, _, _, _, _, _, _, _, _, _, _, _, _, rfl, _⟩ := h; rfl) | (obtain ⟨_, _, _, _, _, _, _, _, _, _, _, _, _, _, rfl, _⟩ := h; rfl) | (obtain ⟨_, _, _, _, _, _, _, _, _, _, _, _, _, _, _, rfl, _⟩ := h; rfl) | (obtain ⟨_, _, _, _, _, _, _, _, _, _, _, _, _, _, _, _, rfl, _⟩ := h; rfl) | (obtain ⟨_, _, _, _, _, _, _, _, _, _, _, _, _, _, _, _, _, rfl, _⟩ := h; rfl) | (obtain ⟨_, _, _, _, _, _, _, _, _, _, _, _, _, _, _, _, _, _, rfl, _⟩ := h; rfl) | (obtain ⟨_, _, _, _, _, _, _, _, _, _, _, _, _, _, _, _, _, _, _, rfl, _⟩ := h; rfl) | (obtain ⟨_, _, _, _, _, _, _, _, _, _, _, _, _, _, _, _, _, _, _, _, rfl, _⟩ := h; rfl) | (obtain ⟨_, _, _, _, _, _, _, _, _, _, _, _, _, _, _, _, _, _, _, _, _, rfl, _⟩ := h; rfl)
  obtain ⟨a, M, ef, eb, b, L, rfl, hb, ⟨ok, hk, dx, t, wr, gn, c, tb, rfl, hT⟩, k⟩ := h
  replace hb := row_open hb
  refine ⟨_, PSs.nox (pss_one (ps_ret (pe_methC0 (pe_fldC (cls_Copied S) (na_Copied_grown S) (pv 0)) (ok_LeapTree_many S) (hr.mono (by decide)) pass0))), ?_⟩
  walk_at "hz.st"
  walk_at "hz.g"
  refine ⟨t, M.T, tb, _, rfl, hb.sub_of (Ts := tb :: [(a, .ins (He.ga K "Copied") dx (rowF M.F.length t wr gn c ef))] :: [(wr, .lst (rm (M.T.length + 1) (wv M.W)))] :: [(gn, .lst (M.gone.map V.bl))] :: eb :: L) (by walk_at "hz.sub"), hT, fun H1 h1 => ?_⟩
  exact k _ (row_close (h1.sub_of (by walk_at "hz.sub")))
theorem sc_Rows_size : FnScope ["self"] ["self"] (defScope (inClass (top 31) 9)) := ⟨rfl, rfl, rfl, by decide +kernel, rfl, by decide +kernel, by decide +kernel⟩
-- slots of Rows.size: self 0
theorem ok_Copied_size (S : Sit P w K mg base) : MF P w K mg base CX0 (He.ga K "Copied") "size" ["self"] 1 (sRSize (CT K) (He.ga K "Copied") ["halves", "roots"]) := by
  refine mf_Copied_size S fun f fd F => F.ok sc_Rows_size (fun vs H Q E h => ?_) (fun cdv A outer s H vs Q E hr h => ?_)
  · first | (obtain ⟨_, rfl, _⟩ := h; rfl) | (obtain ⟨_, _, rfl, _⟩ := h; rfl) | (obtain ⟨_, _, _, rfl, _⟩ := h; rfl) | (obtain ⟨_, _, _, _, rfl, _⟩ := h; rfl) | (obtain ⟨_, _, _, _, _, rfl, _⟩ := h; rfl) | (obtain ⟨_, _, _, _, _, _, rfl, _⟩ := h; rfl) | (obtain ⟨_, _, _, _, _, _, _, rfl, _⟩ := h; rfl) | (obtain ⟨_, _, _, _, _, _, _, _, rfl, _⟩ := h; rfl) | (obtain ⟨_, _, _, _, _, _, _, _, _, rfl, _⟩ := h; rfl) | (obtain ⟨_, _, _, _, _, _, _, _, _, _, rfl, _⟩ := h; rfl) | (obtain ⟨_, _, _, _, _, _, _, _, _, _, _, rfl, _⟩ := h; rfl) | (obtain ⟨_, _, _, _, _, _, _, _, _, _, _, _, rfl, _⟩ := h; rfl) | (obtain ⟨_, _, _, _, _, _, _, _, _, _, _, _, _, rfl, _⟩ := h; rfl) | (obtain ⟨_, _, _, _, _, _, _, _, _, _, _, _, _, _, rfl, _⟩ := h; rfl) | (obtain ⟨_, _, _, _, _, _, _, _, _, _, _, _, _, _, _, rfl, _⟩ := h; rfl) | (obtain ⟨_, _, _, _, _, _, _, _, _, _, _, _, _, _, _, _, rfl, _⟩ := h; rfl) | (obtain ⟨_, _, _, _, _, _, _, _, _, _, _, _, _, _, _, _, _, rfl, _⟩ := h; rfl) | (obtain ⟨_, _, _, _, _, _, _, _, _, _, _, _, _, _, _, _, _, _, rfl, _⟩ := h; rfl) | (obtain ⟨_, _, _, _, _, _, _, _, _, _, _, _, _, _, _, _, _, _, _, rfl, _⟩ := h; rfl) | (obtain ⟨_, _, _, _, _, _, _, _, _, _, _, _, _, _, _, _, _, _, _, _, rfl, _⟩ := h; rfl) | (obtain ⟨_, _, _, _, _, _, _, _, _, _, _, _, _, _, _, _, _, _, _, _, _, rfl, _⟩ := h; rfl)
  obtain ⟨a, M, ef, eb, b, L, rfl, hb, ⟨ok, hk, dx, t, wr, gn, c, tb, rfl, hT⟩, k⟩ := h
  replace hb := row_open hb
  refine ⟨_, PSs.nox (pss_one (ps_ret (pe_fldC (cls_Copied S) (na_Copied_wide S) (pv 0)))), ?_⟩
  walk_at "hz.st"
  walk_at "hz.g"
  exact k _ (row_close hb)
theorem sc_Rows_add_steps : FnScope ["self", "many"] ["self", "many"] (defScope (inClass (top 31) 4)) := ⟨rfl, rfl, rfl, by decide +kernel, rfl, by decide +kernel, by decide +kernel⟩
-- slots of Rows.add_steps: self 0, many 1
theorem ok_Copied_add_steps (S : Sit P w K mg base) : MF P w K mg base CX0 (He.ga K "Copied") "add_steps" ["self", "many"] 1 (sRSteps (CT K) (He.ga K "Copied") ["halves", "roots"]) := by
  refine mf_Copied_add_steps S fun f fd F => F.ok sc_Rows_add_steps (fun vs H Q E h => ?_) (fun cdv A outer s H vs Q E hr h => ?_)
  · first | (obtain ⟨_, rfl, _⟩ := h; rfl) | (obtain ⟨_, _, rfl, _⟩ := h; rfl) | (obtain ⟨_, _, _, rfl, _⟩ := h; rfl) | (obtain ⟨_, _, _, _, rfl, _⟩ := h; rfl) | (obtain ⟨_, _, _, _, _, rfl, _⟩ := h; rfl) | (obtain ⟨_, _, _, _, _, _, rfl, _⟩ := h; rfl) | (obtain ⟨_, _, _, _, _, _, _, rfl, _⟩ := h; rfl) | (obtain ⟨_, _, _, _, _, _, _, _, rfl, _⟩ := h; rfl) | (obtain ⟨_, _, _, _, _, _, _, _, _, rfl, _⟩ := h; rfl) | (obtain ⟨_, _, _, _, _, _, _, _, _, _, rfl, _⟩ := h; rfl) | (obtain ⟨_, _, _, _, _, _, _, _, _, _, _, rfl, _⟩ := h; rfl) | (obtain ⟨_, _, _, _, _, _, _, _, _, _, _, _, rfl, _⟩ := h; rfl) | (obtain ⟨_, _, _, _, _, _, _, _, _, _, _, _, _, rfl, _⟩ := h; rfl) | (obtain ⟨_, _, _, _, _, _, _, _, _, _, _, _, _, _, rfl, _⟩ := h; rfl) | (obtain ⟨_, _, _, _, _, _, _, _, _, _, _, _, _, _, _, rfl, _⟩ := h; rfl) | (obtain ⟨_, _, _, _, _, _, _, _, _, _, _, _, _, _, _, _, rfl, _⟩ := h; rfl) | (obtain ⟨_, _, _, _, _, _, _, _, _, _, _, _, _, _, _, _, _, rfl, _⟩ := h; rfl) | (obtain ⟨_, _, _, _, _, _, _, _, _, _, _, _, _, _, _, _, _, _, rfl, _⟩ := h; rfl) | (obtain ⟨_, _, _, _, _, _, _, _, _, _, _, _, _, _, _, _, _, _, _, rfl, _⟩ := h; rfl) | (obtain ⟨_, _, _, _, _, _, _, _, _, _, _, _, _, _, _, _, _, _, _, _, rfl, _⟩ := h; rfl) | (obtain ⟨_, _, _, _, _, _, _, _, _, _, _, _, _, _, _, _, _, _, _, _, _, rfl, _⟩ := h; rfl)
  obtain ⟨a, M, ef, eb, b, n, L, rfl, hb, ⟨ok, hk, dx, t, wr, gn, c, tb, rfl, hT⟩, k⟩ := h
  replace hb := row_open hb
  have hkl : ef.length ≤ 10 := by
    have := congrArg List.length hk
    simp at this
    omega
  refine ⟨_, PSs.nox (pss_one (ps_fldaugC (cls_Copied S) (na_Copied_counted S) in_add (pv 0) (pv 1))), ?_⟩
  walk_at "hz.st"
  walk_at "hz.g"
  rename_i H1 h1
  exact k _ _ ⟨ok, hk, dx, t, wr, gn, _, tb, rfl, hT⟩ (row_close h1)
theorem sc_Rows_place_of : FnScope ["self", "make"] ["self", "make"] (defScope (inClass (top 31) 14)) := ⟨rfl, rfl, rfl, by decide +kernel, rfl, by decide +kernel, by decide +kernel⟩
-- slots of Rows.place_of: self 0, make 1
theorem ok_Copied_place_of (S : Sit P w K mg base) : MF P w K mg base CX0 (He.ga K "Copied") "place_of" ["self", "make"] 2 (sRPlaceOf (CT K) (He.ga K "Copied") ["halves", "roots"]) := by
  refine mf_Copied_place_of S fun f fd F => F.ok sc_Rows_place_of (fun vs H Q E h => ?_) (fun cdv A outer s H vs Q E hr h => ?_)
  · first | (obtain ⟨_, rfl, _⟩ := h; rfl) | (obtain ⟨_, _, rfl, _⟩ := h; rfl) | (obtain ⟨_, _, _, rfl, _⟩ := h; rfl) | (obtain ⟨_, _, _, _, rfl, _⟩ := h; rfl) | (obtain ⟨_, _, _, _, _, rfl, _⟩ := h; rfl) | (obtain ⟨_, _, _, _, _, _, rfl, _⟩ := h; rfl) | (obtain ⟨_, _, _, _, _, _, _, rfl, _⟩ := h; rfl) | (obtain ⟨_, _, _, _, _, _, _, _, rfl, _⟩ := h; rfl) | (obtain ⟨_, _, _, _, _, _, _, _, _, rfl, _⟩ := h; rfl) | (obtain ⟨_, _, _, _, _, _, _, _, _, _, rfl, _⟩ := h; rfl) | (obtain ⟨_, _, _, _, _, _, _, _, _, _, _, rfl, _⟩ := h; rfl) | (obtain ⟨_, _, _, _, _, _, _, _, _, _, _, _, rfl, _⟩ := h; rfl) | (obtain ⟨_, _, _, _, _, _, _, _, _, _, _, _, _, rfl, _⟩ := h; rfl) | (obtain ⟨_, _, _, _, _, _, _, _, _, _, _, _, _, _, rfl, _⟩ := h; rfl) | (obtain ⟨_, _, _, _, _, _, _, _, _, _, _, _, _, _, _, rfl, _⟩ := h; rfl) | (obtain ⟨_, _, _, _, _, _, _, _, _, _, _, _, _, _, _, _, rfl, _⟩ := h; rfl) | (obtain ⟨_, _, _, _, _, _, _, _, _, _, _, _, _, _, _, _, _, rfl, _⟩ := h; rfl) | (obtain ⟨_, _, _, _, _, _, _, _, _, _, _, _, _, _, _, _, _, _, rfl, _⟩ := h; rfl) | (obtain ⟨_, _, _, _, _, _, _, _, _, _, _, _, _, _, _, _, _, _, _, rfl, _⟩ := h; rfl) | (obtain ⟨_, _, _, _, _, _, _, _, _, _, _, _, _, _, _, _, _, _, _, _, rfl, _⟩ := h; rfl) | (obtain ⟨_, _, _, _, _, _, _, _, _, _, _, _, _, _, _, _, _, _, _, _, _, rfl, _⟩ := h; rfl)
  obtain ⟨a, M, ef, eb, b, m, L, rfl, hb, ⟨ok, hk, dx, t, wr, gn, c, tb, rfl, hT⟩, hm, k⟩ := h
  replace hb := row_open hb
  refine ⟨_, PSs.nox (pss_cons (ps_if (pt_not (pt_val (pe_callC (ok_is_whole S) (hr.mono (by decide)) (by rfl) pass0 (pa_cons (pv 1) (pa_cons pe_int (pa_cons (pe_op op_sub (pe_callB (call_lenK (K := K) rfl) (by rfl) (fr_len S) bt_len (pa_cons (pe_fldC (cls_Copied S) (na_Copied_wrote S) (pv 0)) pa_nil)) pe_int) pa_nil)))))) (pss_one ps_never) pss_nil)
      (pss_one (ps_ret (pe_ix (ix_listK (K := K) rfl) (pe_fldC (cls_Copied S) (na_Copied_wrote S) (pv 0)) (pv 1) (fun _ _ => rfl))))), ?_⟩
  walk_at "hz.st"
  walk_at "hz.g"
  refine r_whole (by omega) ?_
  walk_at "hz.g"
  · exact atI_rm (by omega)
  walk_at "hz.g"
  exact k _ (row_close hb)
theorem sc_Rows_tree : FnScope ["self"] ["self"] (defScope (inClass (top 31) 12)) := ⟨rfl, rfl, rfl, by decide +kernel, rfl, by decide +kernel, by decide +kernel⟩
-- slots of Rows.tree: self 0
theorem ok_Copied_tree (S : Sit P w K mg base) : MF P w K mg base CX0 (He.ga K "Copied") "tree" ["self"] 5 (sRTree (CT K) (He.ga K "Copied") ["halves", "roots"]) := by
  refine mf_Copied_tree S fun f fd F => F.ok sc_Rows_tree (fun vs H Q E h => ?_) (fun cdv A outer s H vs Q E hr h => ?_)
  · first | (obtain ⟨_, rfl, _⟩ := h; rfl) | (obtain ⟨_, _, rfl, _⟩ := h; rfl) | (obtain ⟨_, _, _, rfl, _⟩ := h; rfl) | (obtain ⟨_, _, _, _, rfl, _⟩ := h; rfl) | (obtain ⟨_, _, _, _, _, rfl, _⟩ := h; rfl) | (obtain ⟨_, _, _, _, _, _, rfl, _⟩ := h; rfl) | (obtain ⟨_, _, _, _, _, _, _, rfl, _⟩ := h; rfl) | (obtain ⟨_, _, _, _, _, _, _, _, rfl, _⟩ := h; rfl) | (obtain ⟨_, _, _, _, _, _, _, _, _, rfl, _⟩ := h; rfl) | (obtain ⟨_, _, _, _, _, _, _, _, _, _, rfl, _⟩ := h; rfl) | (obtain ⟨_, _, _, _, _, _, _, _, _, _, _, rfl, _⟩ := h; rfl) | (obtain ⟨_, _, _, _, _, _, _, _, _, _, _, _, rfl, _⟩ := h; rfl) | (obtain ⟨_, _, _, _, _, _, _, _, _, _, _, _, _, rfl, _⟩ := h; rfl) | (obtain ⟨_, _, _, _, _, _, _, _, _, _, _, _, _, _, rfl, _⟩ := h; rfl) | (obtain ⟨_, _, _, _, _, _, _, _, _, _, _, _, _, _, _, rfl, _⟩ := h; rfl) | (obtain ⟨_, _, _, _, _, _, _, _, _, _, _, _, _, _, _, _, rfl, _⟩ := h; rfl) | (obtain ⟨_, _, _, _, _, _, _, _, _, _, _, _, _, _, _, _, _, rfl, _⟩ := h; rfl) | (obtain ⟨_, _, _, _, _, _, _, _, _, _, _, _, _, _, _, _, _, _, rfl, _⟩ := h; rfl) | (obtain ⟨_, _, _, _, _, _, _, _, _, _, _, _, _, _, _, _, _, _, _, rfl, _⟩ := h; rfl) | (obtain ⟨_, _, _, _, _, _, _, _, _, _, _, _, _, _, _, _, _, _, _, _, rfl, _⟩ := h; rfl) | (obtain ⟨_, _, _, _, _, _, _, _, _, _, _, _, _, _, _, _, _, _, _, _, _, rfl, _⟩ := h; rfl)
  obtain ⟨a, M, ef, eb, b, L, rfl, hb, ⟨ok, hk, dx, t, wr, gn, c, tb, rfl, hT⟩, k⟩ := h
  replace hb := row_open hb
  refine ⟨_, PSs.nox (pss_one (ps_ret (pe_methC0 (pe_fldC (cls_Copied S) (na_Copied_grown S) (pv 0)) (ok_LeapTree_copied S) (hr.mono (by decide)) pass0))), ?_⟩
  walk_at "hz.st"
  walk_at "hz.g"
  refine ⟨t, M.T, tb, _, rfl, hb.sub_of (Ts := tb :: [(a, .ins (He.ga K "Copied") dx (rowF M.F.length t wr gn c ef))] :: [(wr, .lst (rm (M.T.length + 1) (wv M.W)))] :: [(gn, .lst (M.gone.map V.bl))] :: eb :: L) (by walk_at "hz.sub"), hT, fun p c2 H1 hT2 h1 => ?_⟩
  exact k _ _ _ hT2 (row_close1 (h1.sub_of (by walk_at "hz.sub")))
theorem sc_Rows_makes : FnScope ["self", "make", "gone"] ["self"] (defScope (inClass (top 31) 11)) := ⟨rfl, rfl, rfl, by decide +kernel, rfl, by decide +kernel, by decide +kernel⟩
-- slots of Rows.makes: self 0, make 1, gone 2
theorem ok_Copied_makes (S : Sit P w K mg base) : MF P w K mg base CX0 (He.ga K "Copied") "makes" ["self"] 1 (sRMakes (CT K) (He.ga K "Copied") ["halves", "roots"]) := by
  refine mf_Copied_makes S fun f fd F => F.ok sc_Rows_makes (fun vs H Q E h => ?_) (fun cdv A outer s H vs Q E hr h => ?_)
  · first | (obtain ⟨_, rfl, _⟩ := h; rfl) | (obtain ⟨_, _, rfl, _⟩ := h; rfl) | (obtain ⟨_, _, _, rfl, _⟩ := h; rfl) | (obtain ⟨_, _, _, _, rfl, _⟩ := h; rfl) | (obtain ⟨_, _, _, _, _, rfl, _⟩ := h; rfl) | (obtain ⟨_, _, _, _, _, _, rfl, _⟩ := h; rfl) | (obtain ⟨_, _, _, _, _, _, _, rfl, _⟩ := h; rfl) | (obtain ⟨_, _, _, _, _, _, _, _, rfl, _⟩ := h; rfl) | (obtain ⟨_, _, _, _, _, _, _, _, _, rfl, _⟩ := h; rfl) | (obtain ⟨_, _, _, _, _, _, _, _, _, _, rfl, _⟩ := h; rfl) | (obtain ⟨_, _, _, _, _, _, _, _, _, _, _, rfl, _⟩ := h; rfl) | (obtain ⟨_, _, _, _, _, _, _, _, _, _, _, _, rfl, _⟩ := h; rfl) | (obtain ⟨_, _, _, _, _, _, _, _, _, _, _, _, _, rfl, _⟩ := h; rfl) | (obtain ⟨_, _, _, _, _, _, _, _, _, _, _, _, _, _, rfl, _⟩ := h; rfl) | (obtain ⟨_, _, _, _, _, _, _, _, _, _, _, _, _, _, _, rfl, _⟩ := h; rfl) | (obtain ⟨_, _, _, _, _, _, _, _, _, _, _, _, _, _, _, _, rfl, _⟩ := h; rfl) | (obtain ⟨_, _, _, _, _, _, _, _, _, _, _, _, _, _, _, _, _, rfl, _⟩ := h; rfl) | (obtain ⟨_, _, _, _, _, _, _, _, _, _, _, _, _, _, _, _, _, _, rfl, _⟩ := h; rfl) | (obtain ⟨_, _, _, _, _, _, _, _, _, _, _, _, _, _, _, _, _, _, _, rfl, _⟩ := h; rfl) | (obtain ⟨_, _, _, _, _, _, _, _, _, _, _, _, _, _, _, _, _, _, _, _, rfl, _⟩ := h; rfl) | (obtain ⟨_, _, _, _, _, _, _, _, _, _, _, _, _, _, _, _, _, _, _, _, _, rfl, _⟩ := h; rfl)
  obtain ⟨a, M, ef, eb, b, L, rfl, hb, ⟨ok, hk, dx, t, wr, gn, c, tb, rfl, hT⟩, k⟩ := h
  replace hb := row_open hb
  have g := ok.g
  have tl := ok.t.le
  refine ⟨_, PSs.nox (pss_one (ps_ret (pe_lc (own := [("make", 1), ("gone", 2)]) rfl sc_Rows_makes.nd (pi_enum (by rfl) (fr_enumerate S) (pa_cons (pe_fldC (cls_Copied S) (na_Copied_gone S) (pv 0)) pa_nil)) (blkOk_by (N := ["self", "make", "gone"]) (by kernel_rfl)) (fun _ _ _ _ _ => (pg_tupK (n := 2) (K := K) rfl rfl (pgs_cons (pg_name (i := 1) sc_Rows_makes.nd rfl (Or.inl rfl)) (pgs_cons (pg_name (i := 2) sc_Rows_makes.nd rfl (Or.inl rfl)) pgs_nil)))) (fun _ _ _ _ _ => (pts_one (pt_not (pt_val (pv 2))))) (fun _ _ _ _ _ => (pv 1))))), ?_⟩
  walk_at "hz.st"
  walk_at "hz.g"
  refine lc_w (walk_enumB (bs := M.gone)) hb (fun i D H => HB H ([(D, .lst (iv (keptUp M i)))] :: [(a, .ins (He.ga K "Copied") dx (rowF M.F.length t wr gn c ef))] :: [(wr, .lst (rm (M.T.length + 1) (wv M.W)))] :: [(gn, .lst (M.gone.map V.bl))] :: tb :: eb :: L)) (fun D H h => h) (fun i D H _ h => SqL.of (h.at (by walk_at "hz.at"))) (fun i v D H H' hi h y => ?_) (fun D H h => ?_)
  · obtain ⟨T2, b2, rfl, hn, rfl, hg⟩ := y
    replace h := h.new (o := .tup [.int (i : Nat), .bl b2]) hn
    refine r_gtup ⟨T2, _, rfl, .of (h.at .here), rfl, ?_⟩
    walk_at "hz.g"
    have ks := keptUp_succ (M := M) (i := i)
    cases b2 with
    | true =>
      rw [if_neg (by unfold Mdl.kept; rw [hg]; simp)] at ks
      walk_at "hz.g"
      rw [ks]
      exact h.tail
    | false =>
      rw [if_pos hg] at ks
      walk_at "hz.g"
      have kl := keptUp_len (M := M) (i := i)
      refine lc_put h (.next .here) (by rw [iv_len]; exact sz100' (by omega)) fun H2 h2 => ?_
      rw [ks, iv_append]
      exact h2.tail
  · walk_at "hz.g"
    have e : keptUp M M.gone.length = M.keptL := by rw [g]; rfl
    rw [e] at h
    exact k _ _ (row_close1 h)

/-! D9: the copied way -/
abbrev CC (K : PySem.W.Frag) : Addr := He.ga K "Copied"
structure CopOk (M : Mdl) (S : PS) (ow : Nat → Nat) (kr : KD) (root : Nat → Nat) : Prop where
  wf : WF S dt0
  st : Stat S ow M.T M.W M.F M.Vs M.T.length
  ks : ∀ m : Nat, valV kr (ik m) = if M.kept m then some (.int (root m : Nat)) else none
  kl : kr.length ≤ M.T.length + 1
  rt : ∀ m, M.kept m → root m < S.gv ∧ S.al (root m) = true ∧ 0 < S.hd (root m) ∧ ow (root m) = m ∧ (S.ds (root m)).lo = 0 ∧ (S.ds (root m)).hi = M.F.length
  gv : S.gv ≤ 40 + 18 * M.T.length
abbrev copF (hv rt : Addr) : List (Str × V) := [("halves", .ref hv), ("roots", .ref rt)]
abbrev copB (rt : Addr) (kr : KD) (pb : Blk) : Blk := (rt, .dK kr) :: pb
def WP_Copied (K : PySem.W.Frag) : WPr := fun M ef eb => ∃ hv rt kr S ow pb root, ef = copF hv rt ∧ eb = copB rt kr pb ∧ Parts (CP K) hv S pb ∧ CopOk M S ow kr root
theorem CopOk.krK {M : Mdl} {S : PS} {ow : Nat → Nat} {kr : KD} {root : Nat → Nat} (h : CopOk M S ow kr root) {m : Nat} (hm : M.kept m) : valV kr (ik m) = some (.int (root m : Nat)) := (h.ks m).trans (if_pos hm)
theorem cop_open {H : Hp} {L : List Blk} {C a dx t wr gn rt : Addr} {c : Int} {M : Mdl} {ef : List (Str × V)} {tb pb : Blk} {kr : KD} (h : HB H (rowB C a dx t wr gn c M ef tb (copB rt kr pb) :: L)) :
    HB H (pb :: [(a, .ins C dx (rowF M.F.length t wr gn c ef))] :: [(rt, .dK kr)] :: [(wr, .lst (rm (M.T.length + 1) (wv M.W)))] :: [(gn, .lst (M.gone.map V.bl))] :: tb :: L) :=
  (show HB H ([(a, .ins C dx (rowF M.F.length t wr gn c ef))] :: [(wr, .lst (rm (M.T.length + 1) (wv M.W)))] :: [(gn, .lst (M.gone.map V.bl))] :: tb :: [(rt, .dK kr)] :: pb :: L) from row_open (eb := copB rt kr pb) h).sub_of
    (.cons (.next (.next (.next (.next (.next .here))))) (.cons .here (.cons (.next (.next (.next .here))) .refl)))
theorem cop_close {H : Hp} {L : List Blk} {C a dx t wr gn rt : Addr} {c : Int} {M : Mdl} {ef : List (Str × V)} {tb pb : Blk} {kr : KD}
    (h : HB H (pb :: [(a, .ins C dx (rowF M.F.length t wr gn c ef))] :: [(rt, .dK kr)] :: [(wr, .lst (rm (M.T.length + 1) (wv M.W)))] :: [(gn, .lst (M.gone.map V.bl))] :: tb :: L)) : HB H (rowB C a dx t wr gn c M ef tb (copB rt kr pb) :: L) :=
  row_close (eb := copB rt kr pb) (show HB H ([(a, .ins C dx (rowF M.F.length t wr gn c ef))] :: [(wr, .lst (rm (M.T.length + 1) (wv M.W)))] :: [(gn, .lst (M.gone.map V.bl))] :: tb :: [(rt, .dK kr)] :: pb :: L) from
    h.sub_of (.cons (.next .here) (.cons (.next (.next .here)) (.cons (.next (.next .here)) (.cons (.next (.next .here)) (.cons (.next .here) .refl))))))
def spMet (CL C CPa : Addr) (j : Nat) : Sp := fun vs H Q _ => ∃ (a hv rt : Addr) (M : Mdl) (kr : KD) (S : PS) (ow : Nat → Nat) (pb b : Blk) (x lo hi : Nat) (L : List Blk), vs = [.ref a, .int x, .int lo, .int hi] ∧ HB H (b :: L) ∧ Row CL C ["halves", "roots"] a M (copF hv rt) (copB rt kr pb) b ∧ Parts CPa hv S pb ∧ WF S dt0 ∧ Stat S ow M.T M.W M.F M.Vs M.T.length ∧
  S.al x = true ∧ lo < hi ∧ (S.ds x).len < j ∧ ∀ p H', HB H' ([(p, .lst (iv (metT S j x lo hi)))] :: b :: L) → Q (.ref p) H'
theorem met_zero {CL C CPa : Addr} {vs : List V} {H : Hp} {Q : VK} {E : XK} (h : spMet CL C CPa 0 vs H Q E) : False := by
  obtain ⟨_, _, _, _, _, _, _, _, _, _, _, _, _, _, _, _, _, _, _, _, _, hl, _⟩ := h
  exact Nat.not_lt_zero _ hl
def sRRoot (CL C CPa : Addr) : Sp := fun vs H Q _ => ∃ (a : Addr) (M : Mdl) (hv rt : Addr) (kr : KD) (S : PS) (ow : Nat → Nat) (pb : Blk) (root : Nat → Nat) (b : Blk) (m : Nat) (L : List Blk), vs = [.ref a, .int m] ∧ HB H (b :: L) ∧ Row CL C ["halves", "roots"] a M (copF hv rt) (copB rt kr pb) b ∧ Parts CPa hv S pb ∧ CopOk M S ow kr root ∧ M.kept m ∧ ∀ H', HB H' (b :: L) → Q (.int (root m : Nat)) H'
def sRPart (CL C CPa : Addr) : Sp := fun vs H Q _ => ∃ (a : Addr) (M : Mdl) (hv rt : Addr) (kr : KD) (S : PS) (ow : Nat → Nat) (pb : Blk) (root : Nat → Nat) (b : Blk) (x : Nat) (L : List Blk), vs = [.ref a, .int x] ∧ HB H (b :: L) ∧ Row CL C ["halves", "roots"] a M (copF hv rt) (copB rt kr pb) b ∧ Parts CPa hv S pb ∧ CopOk M S ow kr root ∧ S.al x = true ∧
  ∀ p H', HB H' ([(p, .tup (descV (S.ds x)))] :: b :: L) → Q (.ref p) H'
theorem sc_Copied_met : FnScope ["self", "number", "low", "high", "begin", "end", "found", "half"] ["self", "number", "low", "high"] (defScope (inClass (top 33) 4)) := ⟨rfl, rfl, rfl, by decide +kernel, rfl, by decide +kernel, by decide +kernel⟩
-- slots of Copied.met: self 0, number 1, low 2, high 3, begin 4, end 5, found 6, half 7
theorem ok_Copied_met (S : Sit P w K mg base) : ∀ j : Nat, MF P w K mg base CX0 (He.ga K "Copied") "met" ["self", "number", "low", "high"] (4 + j + 1) ((spMet (CT K) (CC K) (CP K)) j) := by
  intro j
  induction j with
  | zero => exact mf_Copied_met S fun f fd F => F.ok sc_Copied_met (fun vs H Q E h => (met_zero h).elim) (fun cdv A outer s H vs Q E hr h => (met_zero h).elim)
  | succ j ih =>
  refine mf_Copied_met S fun f fd F => F.ok sc_Copied_met (fun vs H Q E h => ?_) (fun cdv A outer s H vs Q E hr h => ?_)
  · first | (obtain ⟨_, rfl, _⟩ := h; rfl) | (obtain ⟨_, _, rfl, _⟩ := h; rfl) | (obtain ⟨_, _, _, rfl, _⟩ := h; rfl) | (obtain ⟨_, _, _, _, rfl, _⟩ := h; rfl) | (obtain ⟨_, _, _, _, _, rfl, _⟩ := h; rfl) | (obtain ⟨_, _, _, _, _, _, rfl, _⟩ := h; rfl) | (obtain ⟨_, _, _, _, _, _, _, rfl, _⟩ := h; rfl) | (obtain ⟨_, _, _, _, _, _, _, _, rfl, _⟩ := h; rfl) | (obtain ⟨_, _, _, _, _, _, _, _, _, rfl, _⟩ := h; rfl) | (obtain ⟨_, _, _, _, _, _, _, _, _, _, rfl, _⟩ := h; rfl) | (obtain ⟨_, _, _, _, _, _, _, _, _, _, _, rfl, _⟩ := h; rfl) | (obtain ⟨_, _, _, _, _, _, _, _, _, _, _, _, rfl, _⟩ := h; rfl) | (obtain ⟨_, _, _, _, _, _, _, _, _, _, _, _, _, rfl, _⟩ := h; rfl) | (obtain ⟨_, _, _, _, _, _, _, _, _, _, _, _, _, _, rfl, _⟩ := h; rfl) | (obtain ⟨_, _, _, _, _, _, _, _, _, _, _, _, _, _, _, rfl, _⟩ := h; rfl) | (obtain ⟨_, _, _, _, _, _, _, _, _, _, _, _, _, _, _, _, rfl, _⟩ := h; rfl) | (obtain ⟨_, _, _, _, _, _, _, _, _, _, _, _, _, _, _, _, _, rfl, _⟩ := h; rfl) | (obtain ⟨_, _, _, _, _, _, _, _, _, _, _, _, _, _, _, _, _, _, rfl, _⟩ := h; rfl) | (obtain ⟨_, _, _, _, _, _, _, _, _, _, _, _, _, _, _, _, _, _, _, rfl, _⟩ := h; rfl) | (obtain ⟨_, _, _, _, _, _, _, _, _, _, _, _, _, _, _, _, _, _, _, _, rfl, _⟩ := h; rfl) | (obtain ⟨_, _, _, _, _, _, _, _, _, _, _, _, _, _, _, _, _, _, _, _, _, rfl, _⟩ := h; rfl)
  obtain ⟨a, hv, rt, M, kr, S0, ow, pb, b, x, lo, hi, L, rfl, hb, hR, hP, wf, st, hx, hlh, hj, k⟩ := h
  obtain ⟨ok, hk, dx, t, wr, gn, c, tb, rfl, hT⟩ := id hR
  have hxg := wf.bd x hx
  have rx := st.rng x hxg
  have fl := ok.f
  replace hb := cop_open hb
  refine ⟨_, PSs.nox (pss_cons (ps_asg (pe_methC (pe_fldC (cls_Copied S) (na_Copied_halves S) (pv 0)) (ok_Parts_ends S) (hr.mono (by omega)) pass0 (pa_cons (pv 1) pa_nil)) (pg_tupK (n := 2) (K := K) rfl rfl (pgs_cons (pg_name (i := 4) sc_Copied_met.nd rfl (Or.inl rfl)) (pgs_cons (pg_name (i := 5) sc_Copied_met.nd rfl (Or.inl rfl)) pgs_nil))))
      (pss_cons (ps_if (PW.pt (pw_or (pt_cmpR op_le (pv 5) (pv 2) (nomark _)) (pw_or1 (pt_cmpR op_le (pv 3) (pv 4) (nomark _))))) (pss_one (ps_ret (pe_lst pa_nil))) pss_nil)
      (pss_cons (ps_set (i := 6) sc_Copied_met.nd rfl (Or.inl rfl) (pe_lst (pa_cons (pv 1) pa_nil)))
      (pss_cons (ps_for PassesOwn.never rfl (pi_tup (pe_slice (sl_tupAK (K := K) rfl) (pe_methC (pe_fldC (cls_Copied S) (na_Copied_halves S) (pv 0)) (ok_Parts_part S) (hr.mono (by omega)) pass0 (pa_cons (pv 1) pa_nil)) (po_some pe_int) po_none)) (pg_name (i := 7) sc_Copied_met.nd rfl (Or.inl rfl)) (pss_one (ps_expr (pe_bm PySem.F.plainAttrs_list PySem.F.slot_list_extend PySem.F.type_list_extend mt_extend (pv 6) (pa_cons (pe_methC (pv 0) ih (hr.mono (by omega)) pass0 (pa_cons (pv 7) (pa_cons (pv 2) (pa_cons (pv 3) pa_nil)))) pa_nil)))))
      (pss_one (ps_ret (pv 6))))))), ?_⟩
  walk_at "hz.st"
  walk_at "hz.g"
  refine ⟨hv, S0, pb, x, _, rfl, hb, hP, hx, fun p H1 h1 => ?_⟩
  walk_at "hz.g"
  have e0 : metT S0 (j + 1) x lo hi = if (S0.ds x).hi ≤ lo ∨ hi ≤ (S0.ds x).lo then [] else x :: (S0.ds x).halves.flatMap fun h => metT S0 j h lo hi := rfl
  have fin : ∀ (H : Hp) (p : Addr) (xs : List Nat), xs = metT S0 (j + 1) x lo hi → HB H ([(p, .lst (iv xs))] :: pb :: [(a, .ins (CC K) dx (rowF M.F.length t wr gn c (copF hv rt)))] :: [(rt, .dK kr)] :: [(wr, .lst (rm (M.T.length + 1) (wv M.W)))] :: [(gn, .lst (M.gone.map V.bl))] :: tb :: L) → Q (.ref p) H := fun H p xs e h => by
    subst e
    exact k p H (cop_close (L := [(p, .lst (iv (metT S0 (j + 1) x lo hi)))] :: L) (h.sub_of (by walk_at "hz.sub"))).swap
  by_cases c1 : (S0.ds x).hi ≤ lo ∨ hi ≤ (S0.ds x).lo
  · rw [if_pos c1] at e0
    by_cases c2 : (S0.ds x).hi ≤ lo
    · refine r_yes (decide_eq_true (by omega)) ?_
      walk_at "hz.g"
      rename_i p2 H2 h2
      exact fin _ _ [] e0.symm (show HB H2 ([(p2, .lst [])] :: _) from h2.sub_of (by walk_at "hz.sub"))
    · refine r_no (decide_eq_false (by omega)) ?_
      walk_at "hz.g"
      refine r_yes (decide_eq_true (by omega)) ?_
      walk_at "hz.g"
      rename_i p2 H2 h2
      exact fin _ _ [] e0.symm (show HB H2 ([(p2, .lst [])] :: _) from h2.sub_of (by walk_at "hz.sub"))
  · rw [if_neg c1] at e0
    refine r_no (decide_eq_false (by omega)) ?_
    walk_at "hz.g"
    refine r_no (decide_eq_false (by omega)) ?_
    walk_at "hz.g"
    rename_i fl2 H2 h2
    refine ⟨hv, S0, pb, x, _, rfl, h2.sub_of (Ts := pb :: [(fl2, .lst [.int x])] :: [(a, .ins (CC K) dx (rowF M.F.length t wr gn c (copF hv rt)))] :: [(rt, .dK kr)] :: [(wr, .lst (rm (M.T.length + 1) (wv M.W)))] :: [(gn, .lst (M.gone.map V.bl))] :: tb :: L) (by walk_at "hz.sub"), hP, hx, fun q H3 h3 => ?_⟩
    walk_at "hz.g"
    refine r_slT1 (.of (h3.at (by walk_at "hz.at"))) h3 (desc_part _) fun q2 H4 h4 => ?_
    rw [desc_cut] at h4
    walk_at "hz.g"
    refine for_w (walk_ivT (xs := (S0.ds x).halves)) (fun i σ H => ∃ z, σ = [some (.ref a), some (.int x), some (.int lo), some (.int hi), some (.int (S0.ds x).lo), some (.int (S0.ds x).hi), some (.ref fl2), z] ∧
      HB H ([(fl2, .lst (iv (x :: ((S0.ds x).halves.take i).flatMap fun h => metT S0 j h lo hi)))] :: [(q2, .tup (iv (S0.ds x).halves))] :: pb :: [(a, .ins (CC K) dx (rowF M.F.length t wr gn c (copF hv rt)))] :: [(rt, .dK kr)] :: [(wr, .lst (rm (M.T.length + 1) (wv M.W)))] :: [(gn, .lst (M.gone.map V.bl))] :: tb :: L)) ?_ (fun i σ H hi h => ?_) (fun i w2 σ H H' hi2 h y => ?_) (fun σ H h => ?_)
    · exact ⟨none, rfl, (show HB H4 ([(fl2, .lst [.int x])] :: _) from h4.sub_of (by walk_at "hz.sub"))⟩
    · obtain ⟨z, rfl, h⟩ := h
      exact SqT.of (h.at (by walk_at "hz.at"))
    · obtain ⟨z, rfl, h⟩ := h
      obtain ⟨rfl, y, hy, rfl⟩ := y
      have hym := List.mem_of_getElem? hy
      obtain ⟨y1, y2⟩ := wf.cl x hx y hym
      have y3 := (st.sh wf.bd) x hx y hym
      walk_at "hz.g"
      refine ⟨a, hv, rt, M, kr, S0, ow, pb, _, y, lo, hi, _, rfl, cop_close (h.sub_of (Ts := pb :: [(a, .ins (CC K) dx (rowF M.F.length t wr gn c (copF hv rt)))] :: [(rt, .dK kr)] :: [(wr, .lst (rm (M.T.length + 1) (wv M.W)))] :: [(gn, .lst (M.gone.map V.bl))] :: tb :: [(fl2, .lst (iv (x :: ((S0.ds x).halves.take i).flatMap fun h => metT S0 j h lo hi)))] :: [(q2, .tup (iv (S0.ds x).halves))] :: L) (by walk_at "hz.sub")), hR, hP, wf, st, y2, hlh, by omega, fun p5 H5 h5 => ?_⟩
      replace h5 := cop_open h5.swap
      walk_at "hz.g"
      refine r_extend h5 (h5.at (by walk_at "hz.at")) (by walk_at "hz.put") ?_ fun H6 h6 => ?_
      · have g1 : ∀ v ∈ (S0.ds x).halves, (metT S0 j v lo hi).length ≤ 32 := fun v hv => by
          obtain ⟨v1, v2⟩ := wf.cl x hx v hv
          have v3 := (st.sh wf.bd) x hx v hv
          have := (metT_leaf st hlh j v (wf.bd v v2) (by omega)).2.1
          have : (S0.ds x).len ≤ 16 := by unfold Prt.len; omega
          omega
        have g2 := flat_len (f := fun h => metT S0 j h lo hi) (l := (S0.ds x).halves.take i) fun v hv => g1 v (List.mem_of_mem_take hv)
        have g3 : ((S0.ds x).halves.take i).length ≤ 2 := Nat.le_trans (List.length_take_le' _ _) (by cases S0.ds x <;> simp [Prt.halves])
        have g4 := g1 y hym
        have g5 : ((S0.ds x).halves.take i).length * 32 ≤ 2 * 32 := Nat.mul_le_mul_right _ g3
        rw [iv_len, iv_len, List.length_cons]
        exact sz100 (by omega)
      walk_at "hz.g"
      refine ⟨_, rfl, ?_⟩
      rw [List.take_add_one, hy, List.flatMap_append, ← List.cons_append, iv_append]
      simp only [Option.toList_some, List.flatMap_cons, List.flatMap_nil, List.append_nil]
      exact h6.sub_of (by walk_at "hz.sub")
    · obtain ⟨z, rfl, h⟩ := h
      rw [List.take_length] at h
      walk_at "hz.g"
      exact fin _ _ _ e0.symm (h.sub_of (by walk_at "hz.sub"))
theorem sc_Copied_worths_in : FnScope ["self", "make", "low", "high", "found", "told", "number", "one"] ["self", "make", "low", "high"] (defScope (inClass (top 33) 5)) := ⟨rfl, rfl, rfl, by decide +kernel, rfl, by decide +kernel, by decide +kernel⟩
-- slots of Copied.worths_in: self 0, make 1, low 2, high 3, found 4, told 5, number 6, one 7
theorem ok_Copied_worths_in (S : Sit P w K mg base) : MF P w K mg base CX0 (He.ga K "Copied") "worths_in" ["self", "make", "low", "high"] 31 (sRWorths (CT K) (CC K) ["halves", "roots"] (WP_Copied K)) := by
  refine mf_Copied_worths_in S fun f fd F => F.ok sc_Copied_worths_in (fun vs H Q E h => ?_) (fun cdv A outer s H vs Q E hr h => ?_)
  · first | (obtain ⟨_, rfl, _⟩ := h; rfl) | (obtain ⟨_, _, rfl, _⟩ := h; rfl) | (obtain ⟨_, _, _, rfl, _⟩ := h; rfl) | (obtain ⟨_, _, _, _, rfl, _⟩ := h; rfl) | (obtain ⟨_, _, _, _, _, rfl, _⟩ := h; rfl) | (obtain ⟨_, _, _, _, _, _, rfl, _⟩ := h; rfl) | (obtain ⟨_, _, _, _, _, _, _, rfl, _⟩ := h; rfl) | (obtain ⟨_, _, _, _, _, _, _, _, rfl, _⟩ := h; rfl) | (obtain ⟨_, _, _, _, _, _, _, _, _, rfl, _⟩ := h; rfl) | (obtain ⟨_, _, _, _, _, _, _, _, _, _, rfl, _⟩ := h; rfl) | (obtain ⟨_, _, _, _, _, _, _, _, _, _, _, rfl, _⟩ := h; rfl) | (obtain ⟨_, _, _, _, _, _, _, _, _, _, _, _, rfl, _⟩ := h; rfl) | (obtain ⟨_, _, _, _, _, _, _, _, _, _, _, _, _, rfl, _⟩ := h; rfl) | (obtain ⟨_, _, _, _, _, _, _, _, _, _, _, _, _, _, rfl, _⟩ := h; rfl) | (obtain ⟨_, _, _, _, _, _, _, _, _, _, _, _, _, _, _, rfl, _⟩ := h; rfl) | (obtain ⟨_, _, _, _, _, _, _, _, _, _, _, _, _, _, _, _, rfl, _⟩ := h; rfl) | (obtain ⟨_, _, _, _, _, _, _, _, _, _, _, _, _, _, _, _, _, rfl, _⟩ := h; rfl) | (obtain ⟨_, _, _, _, _, _, _, _, _, _, _, _, _, _, _, _, _, _, rfl, _⟩ := h; rfl) | (obtain ⟨_, _, _, _, _, _, _, _, _, _, _, _, _, _, _, _, _, _, _, rfl, _⟩ := h; rfl) | (obtain ⟨_, _, _, _, _, _, _, _, _, _, _, _, _, _, _, _, _, _, _, _, rfl, _⟩ := h; rfl) | (obtain ⟨_, _, _, _, _, _, _, _, _, _, _, _, _, _, _, _, _, _, _, _, _, rfl, _⟩ := h; rfl)
  obtain ⟨a, M, ef, eb, b, m, lo, hi, L, rfl, hb, ⟨ok, hk, dx, t, wr, gn, c, tb, rfl, hT⟩, ⟨hv, rt, kr, S0, ow, pb, root, rfl, rfl, hP, co⟩, hm, hlh, hhi, k⟩ := h
  replace hb := cop_open hb
  obtain ⟨r1, r2, r3, r4, r5, r6⟩ := co.rt m hm
  have fl := ok.f
  refine ⟨_, PSs.nox (pss_cons (ps_set (i := 4) sc_Copied_worths_in.nd rfl (Or.inl rfl) (pe_methC (pv 0) (ok_Copied_met S 17) (hr.mono (by decide)) pass0 (pa_cons (pe_dget (hu_of hr) (pe_fldC (cls_Copied S) (na_Copied_roots S) (pv 0)) (pv 1) (fun _ _ => rfl)) (pa_cons (pv 2) (pa_cons (pv 3) pa_nil)))))
      (pss_cons (ps_expr (pe_methC (pv 0) (ok_Copied_add_steps S) (hr.mono (by decide)) pass0 (pa_cons (pe_callB (call_lenK (K := K) rfl) (by rfl) (fr_len S) bt_len (pa_cons (pv 4) pa_nil)) pa_nil)))
      (pss_cons (ps_setLc (i := 5) (own := [("number", 6)]) rfl sc_Copied_worths_in.nd rfl rfl (sw_true rfl rfl rfl (by decide +kernel)) (pi_list (pv 4)) (blkOk_by (N := ["self", "make", "low", "high", "found", "told", "number", "one"]) (by kernel_rfl)) (fun _ _ _ _ _ => (pg_name (i := 6) sc_Copied_worths_in.nd rfl (Or.inl rfl))) (fun _ _ _ _ _ => pts_nil) (fun _ _ _ _ _ => (pe_methC (pe_fldC (cls_Copied S) (na_Copied_halves S) (pv 0)) (ok_Parts_part S) (hr.mono (by decide)) pass0 (pa_cons (pv 6) pa_nil))))
      (pss_one (ps_ret (pe_lc (own := [("one", 7)]) rfl sc_Copied_worths_in.nd (pi_list (pv 5)) (blkOk_by (N := ["self", "make", "low", "high", "found", "told", "number", "one"]) (by kernel_rfl)) (fun _ _ _ _ _ => (pg_name (i := 7) sc_Copied_worths_in.nd rfl (Or.inl rfl))) (fun _ _ _ _ _ => (pts_one (pt_cmpR op_eq (pe_ix (ix_tupK (K := K) rfl) (pv 7) pe_int (fun _ _ => rfl)) pe_str (nomark _)))) (fun _ _ _ _ _ => (pe_ix (ix_tupK (K := K) rfl) (pv 7) pe_int (fun _ _ => rfl))))))))), ?_⟩
  walk_at "hz.st"
  walk_at "hz.g"
  · exact co.krK hm
  walk_at "hz.g"
  refine ⟨a, hv, rt, M, kr, S0, ow, pb, _, root m, lo, hi, L, rfl, cop_close hb, ⟨ok, hk, dx, t, wr, gn, c, tb, rfl, hT⟩, hP, co.wf, co.st, r2, hlh, by unfold Prt.len; omega, fun p1 H1 h1 => ?_⟩
  have ml := metT_leaf co.st hlh 17 (root m) r1 (by unfold Prt.len; omega)
  have ma := metT_al co.wf.cl (lo := lo) (hi := hi) 17 (root m) r2
  obtain ⟨ml1, ml2, ml3⟩ := ml
  have ml2' : (metT S0 17 (root m) lo hi).length ≤ 40 := by unfold Prt.len at ml2; omega
  generalize metT S0 17 (root m) lo hi = xs at *
  replace h1 := cop_open h1.swap
  walk_at "hz.g"
  refine ⟨a, M, _, _, _, (xs.length : Int), _, rfl, cop_close h1, ⟨ok, hk, dx, t, wr, gn, c, tb, rfl, hT⟩, fun b2 H2 hR2 h2 => ?_⟩
  obtain ⟨_, _, dx2, t2, wr2, gn2, c2, tb2, rfl, hT2⟩ := hR2
  replace h2 := cop_open h2
  walk_at "hz.g"
  refine lc_w (walk_iv (xs := xs)) h2 (fun i D H => ∃ g : Nat → Addr, HB H ([(D, .lst (rm i (lv g)))] :: rc i g (fun i => .tup (descV (S0.ds (xs.getD i 0)))) :: pb :: [(a, .ins (CC K) dx2 (rowF M.F.length t2 wr2 gn2 c2 (copF hv rt)))] :: [(rt, .dK kr)] :: [(wr2, .lst (rm (M.T.length + 1) (wv M.W)))] :: [(gn2, .lst (M.gone.map V.bl))] :: tb2 :: [(p1, .lst (iv xs))] :: L))
    (fun D H h => ⟨fun _ => 0, HB.rm0 h⟩) (fun i D H _ h => ?_) (fun i v D H H' hi2 h y => ?_) (fun D H h => ?_)
  · obtain ⟨g, h⟩ := h
    exact SqL.of (h.at (by walk_at "hz.at"))
  · obtain ⟨g, h⟩ := h
    obtain ⟨rfl, y, hy, rfl⟩ := y
    have hym := List.mem_of_getElem? hy
    walk_at "hz.g"
    refine ⟨hv, S0, pb, y, _, rfl, h.sub_of (Ts := pb :: [(D, .lst (rm i (lv g)))] :: rc i g (fun i => .tup (descV (S0.ds (xs.getD i 0)))) :: [(a, .ins (CC K) dx2 (rowF M.F.length t2 wr2 gn2 c2 (copF hv rt)))] :: [(rt, .dK kr)] :: [(wr2, .lst (rm (M.T.length + 1) (wv M.W)))] :: [(gn2, .lst (M.gone.map V.bl))] :: tb2 :: [(p1, .lst (iv xs))] :: L) (by walk_at "hz.sub"), hP, ma y hym, fun q H3 h3 => ?_⟩
    refine lc_put h3 (.next (.next .here)) (by rw [rm_len]; exact sz100' (by omega)) fun H4 h4 => ?_
    rw [lv_snoc] at h4
    have ey : xs.getD i 0 = y := by rw [List.getD_eq_getElem?_getD, hy]; rfl
    have h5 : HB H4 ([(q, .tup (descV (S0.ds y)))] :: rc i g (fun i => .tup (descV (S0.ds (xs.getD i 0)))) :: [(D, .lst (rm (i + 1) (lv (fset g i q))))] :: pb :: [(a, .ins (CC K) dx2 (rowF M.F.length t2 wr2 gn2 c2 (copF hv rt)))] :: [(rt, .dK kr)] :: [(wr2, .lst (rm (M.T.length + 1) (wv M.W)))] :: [(gn2, .lst (M.gone.map V.bl))] :: tb2 :: [(p1, .lst (iv xs))] :: L) := h4.sub_of (by walk_at "hz.sub")
    have h6 := h5.rc_new (o' := fun i => .tup (descV (S0.ds (xs.getD i 0)))) (fun _ _ => rfl) (by show HO.tup (descV (S0.ds (xs.getD i 0))) = _; rw [ey])
    exact ⟨fset g i q, h6.swap⟩
  · obtain ⟨g, h⟩ := h
    walk_at "hz.g"
    refine lc_w (walk_rm (n := xs.length) (f := lv g)) h (fun i D2 H => HB H ([(D2, .lst ((leafW S0 (xs.take i)).map V.int))] :: [(D, .lst (rm xs.length (lv g)))] :: rc xs.length g (fun i => .tup (descV (S0.ds (xs.getD i 0)))) :: pb :: [(a, .ins (CC K) dx2 (rowF M.F.length t2 wr2 gn2 c2 (copF hv rt)))] :: [(rt, .dK kr)] :: [(wr2, .lst (rm (M.T.length + 1) (wv M.W)))] :: [(gn2, .lst (M.gone.map V.bl))] :: tb2 :: [(p1, .lst (iv xs))] :: L))
      (fun D2 H h => h) (fun i D2 H _ h => SqL.of (h.at (by walk_at "hz.at"))) (fun i v D2 H H' hi2 h y => ?_) (fun D2 H h => ?_)
    · obtain ⟨rfl, hv2⟩ := y
      replace hv2 : v = .ref (g i) := hv2
      subst hv2
      have hx : xs[i]? = some xs[i] := List.getElem?_eq_getElem hi2
      have ex : xs.getD i 0 = xs[i] := by rw [List.getD_eq_getElem?_getD, hx]; rfl
      have ht := h.rc (n := xs.length) (g := g) (o := fun i => .tup (descV (S0.ds (xs.getD i 0)))) (by walk_at "hz.mem") hi2
      rw [ex] at ht
      replace h := h.dup ht
      clear ht
      have et : leafW S0 (xs.take (i + 1)) = leafW S0 (xs.take i) ++ leafW S0 [xs[i]] := by
        rw [List.take_add_one, hx]
        unfold leafW
        rw [List.filterMap_append]
        rfl
      have lw : (leafW S0 (xs.take i)).length ≤ 40 := by
        unfold leafW
        refine Nat.le_trans (List.length_filterMap_le _ _) ?_
        have := List.length_take_le i xs
        omega
      cases e : S0.ds xs[i] with
      | leaf p2 w2 =>
        rw [e] at h
        have el : leafW S0 [xs[i]] = [w2] := by unfold leafW; simp [e]
        walk_at "hz.g"
        refine lc_put h (.next .here) (by rw [List.length_map]; exact sz100' (by omega)) fun H3 h3 => ?_
        rw [et, el, List.map_append]
        exact h3.tail
      | fork a2 b2 l2 r2 =>
        rw [e] at h
        have el : leafW S0 [xs[i]] = [] := by unfold leafW; simp [e]
        walk_at "hz.g"
        rw [et, el, List.append_nil]
        exact h.tail
    · rw [List.take_length, ml1, r4, r5, r6, show max lo 0 = lo by omega, show min hi M.F.length = hi by omega] at h
      walk_at "hz.g"
      exact k D2 _ _ _ _ ⟨ok, hk, dx2, t2, wr2, gn2, c2, tb2, rfl, hT2⟩ ⟨hv, rt, kr, S0, ow, pb, root, rfl, rfl, hP, co⟩ ((cop_close (L := [(D2, .lst ((vals M m lo hi).map V.int))] :: L) ((show HB H ([(D2, .lst ((vals M m lo hi).map V.int))] :: _) from h).sub_of (by walk_at "hz.sub"))).swap)
theorem sc_Copied_root : FnScope ["self", "make"] ["self", "make"] (defScope (inClass (top 33) 7)) := ⟨rfl, rfl, rfl, by decide +kernel, rfl, by decide +kernel, by decide +kernel⟩
-- slots of Copied.root: self 0, make 1
theorem ok_Copied_root (S : Sit P w K mg base) : MF P w K mg base CX0 (He.ga K "Copied") "root" ["self", "make"] 3 (sRRoot (CT K) (CC K) (CP K)) := by
  refine mf_Copied_root S fun f fd F => F.ok sc_Copied_root (fun vs H Q E h => ?_) (fun cdv A outer s H vs Q E hr h => ?_)
  · first | (obtain ⟨_, rfl, _⟩ := h; rfl) | (obtain ⟨_, _, rfl, _⟩ := h; rfl) | (obtain ⟨_, _, _, rfl, _⟩ := h; rfl) | (obtain ⟨_, _, _, _, rfl, _⟩ := h; rfl) | (obtain ⟨_, _, _, _, _, rfl, _⟩ := h; rfl) | (obtain ⟨_, _, _, _, _, _, rfl, _⟩ := h; rfl) | (obtain ⟨_, _, _, _, _, _, _, rfl, _⟩ := h; rfl) | (obtain ⟨_, _, _, _, _, _, _, _, rfl, _⟩ := h; rfl) | (obtain ⟨_, _, _, _, _, _, _, _, _, rfl, _⟩ := h; rfl) | (obtain ⟨_, _, _, _, _, _, _, _, _, _, rfl, _⟩ := h; rfl) | (obtain ⟨_, _, _, _, _, _, _, _, _, _, _, rfl, _⟩ := h; rfl) | (obtain ⟨_, _, _, _, _, _, _, _, _, _, _, _, rfl, _⟩ := h; rfl) | (obtain ⟨_, _, _, _, _, _, _, _, _, _, _, _, _, rfl, _⟩ := h; rfl) | (obtain ⟨_, _, _, _, _, _, _, _, _, _, _, _, _, _, rfl, _⟩ := h; rfl) | (obtain ⟨_, _, _, _, _, _, _, _, _, _, _, _, _, _, _, rfl, _⟩ := h; rfl) | (obtain ⟨_, _, _, _, _, _, _, _, _, _, _, _, _, _, _, _, rfl, _⟩ := h; rfl) | (obtain ⟨_, _, _, _, _, _, _, _, _, _, _, _, _, _, _, _, _, rfl, _⟩ := h; rfl) | (obtain ⟨_, _, _, _, _, _, _, _, _, _, _, _, _, _, _, _, _, _, rfl, _⟩ := h; rfl) | (obtain ⟨_, _, _, _, _, _, _, _, _, _, _, _, _, _, _, _, _, _, _, rfl, _⟩ := h; rfl) | (obtain ⟨_, _, _, _, _, _, _, _, _, _, _, _, _, _, _, _, _, _, _, _, rfl, _⟩ := h; rfl) | (obtain ⟨_, _, _, _, _, _, _, _, _, _, _, _, _, _, _, _, _, _, _, _, _, rfl, _⟩ := h; rfl)
  obtain ⟨a, M, hv, rt, kr, S0, ow, pb, root, b, m, L, rfl, hb, hR, hP, co, hm, k⟩ := h
  refine ⟨_, PSs.nox (pss_cons (ps_expr (pe_methC (pv 0) (ok_Copied_need_make S) (hr.mono (by decide)) pass0 (pa_cons (pv 1) pa_nil)))
      (pss_one (ps_ret (pe_dget (hu_of hr) (pe_fldC (cls_Copied S) (na_Copied_roots S) (pv 0)) (pv 1) (fun _ _ => rfl))))), ?_⟩
  walk_at "hz.st"
  walk_at "hz.g"
  refine ⟨a, M, _, _, b, m, L, rfl, hb, hR, hm, fun H1 h1 => ?_⟩
  obtain ⟨ok, hk, dx, t, wr, gn, c, tb, rfl, hT⟩ := hR
  replace h1 := cop_open h1
  walk_at "hz.g"
  · exact co.krK hm
  walk_at "hz.g"
  exact k _ (cop_close h1)
theorem sc_Copied_part : FnScope ["self", "number"] ["self", "number"] (defScope (inClass (top 33) 8)) := ⟨rfl, rfl, rfl, by decide +kernel, rfl, by decide +kernel, by decide +kernel⟩
-- slots of Copied.part: self 0, number 1
theorem ok_Copied_part (S : Sit P w K mg base) : MF P w K mg base CX0 (He.ga K "Copied") "part" ["self", "number"] 5 (sRPart (CT K) (CC K) (CP K)) := by
  refine mf_Copied_part S fun f fd F => F.ok sc_Copied_part (fun vs H Q E h => ?_) (fun cdv A outer s H vs Q E hr h => ?_)
  · first | (obtain ⟨_, rfl, _⟩ := h; rfl) | (obtain ⟨_, _, rfl, _⟩ := h; rfl) | (obtain ⟨_, _, _, rfl, _⟩ := h; rfl) | (obtain ⟨_, _, _, _, rfl, _⟩ := h; rfl) | (obtain ⟨_, _, _, _, _, rfl, _⟩ := h; rfl) | (obtain ⟨_, _, _, _, _, _, rfl, _⟩ := h; rfl) | (obtain ⟨_, _, _, _, _, _, _, rfl, _⟩ := h; rfl) | (obtain ⟨_, _, _, _, _, _, _, _, rfl, _⟩ := h; rfl) | (obtain ⟨_, _, _, _, _, _, _, _, _, rfl, _⟩ := h; rfl) | (obtain ⟨_, _, _, _, _, _, _, _, _, _, rfl, _⟩ := h; rfl) | (obtain ⟨_, _, _, _, _, _, _, _, _, _, _, rfl, _⟩ := h; rfl) | (obtain ⟨_, _, _, _, _, _, _, _, _, _, _, _, rfl, _⟩ := h; rfl) | (obtain ⟨_, _, _, _, _, _, _, _, _, _, _, _, _, rfl, _⟩ := h; rfl) | (obtain ⟨_, _, _, _, _, _, _, _, _, _, _, _, _, _, rfl, _⟩ := h; rfl) | (obtain ⟨_, _, _, _, _, _, _, _, _, _, _, _, _, _, _, rfl, _⟩ := h; rfl) | (obtain ⟨_, _, _, _, _, _, _, _, _, _, _, _, _, _, _, _, rfl, _⟩ := h; rfl) | (obtain ⟨_, _, _, _, _, _, _, _, _, _, _, _, _, _, _, _, _, rfl, _⟩ := h; rfl) | (obtain ⟨_, _, _, _, _, _, _, _, _, _, _, _, _, _, _, _, _, _, rfl, _⟩ := h; rfl) | (obtain ⟨_, _, _, _, _, _, _, _, _, _, _, _, _, _, _, _, _, _, _, rfl, _⟩ := h; rfl) | (obtain ⟨_, _, _, _, _, _, _, _, _, _, _, _, _, _, _, _, _, _, _, _, rfl, _⟩ := h; rfl) | (obtain ⟨_, _, _, _, _, _, _, _, _, _, _, _, _, _, _, _, _, _, _, _, _, rfl, _⟩ := h; rfl)
  obtain ⟨a, M, hv, rt, kr, S0, ow, pb, root, b, x, L, rfl, hb, hR, hP, co, hx, k⟩ := h
  obtain ⟨ok, hk, dx, t, wr, gn, c, tb, rfl, hT⟩ := hR
  replace hb := cop_open hb
  refine ⟨_, PSs.nox (pss_one (ps_ret (pe_methC (pe_fldC (cls_Copied S) (na_Copied_halves S) (pv 0)) (ok_Parts_part S) (hr.mono (by decide)) pass0 (pa_cons (pv 1) pa_nil)))), ?_⟩
  walk_at "hz.st"
  walk_at "hz.g"
  refine ⟨hv, S0, pb, x, _, rfl, hb, hP, hx, fun q H1 h1 => ?_⟩
  exact k _ _ (cop_close (L := [(q, .tup (descV (S0.ds x)))] :: L) (h1.sub_of (by walk_at "hz.sub"))).swap
theorem sc_Copied_freed : FnScope ["self", "make"] ["self", "make"] (defScope (inClass (top 33) 6)) := ⟨rfl, rfl, rfl, by decide +kernel, rfl, by decide +kernel, by decide +kernel⟩
-- slots of Copied.freed: self 0, make 1
theorem ok_Copied_freed (S : Sit P w K mg base) : MF P w K mg base CX0 (He.ga K "Copied") "freed" ["self", "make"] 25 (sRFreed (CT K) (CC K) ["halves", "roots"] (WP_Copied K)) := by
  refine mf_Copied_freed S fun f fd F => F.ok sc_Copied_freed (fun vs H Q E h => ?_) (fun cdv A outer s H vs Q E hr h => ?_)
  · first | (obtain ⟨_, rfl, _⟩ := h; rfl) | (obtain ⟨_, _, rfl, _⟩ := h; rfl) | (obtain ⟨_, _, _, rfl, _⟩ := h; rfl) | (obtain ⟨_, _, _, _, rfl, _⟩ := h; rfl) | (obtain ⟨_, _, _, _, _, rfl, _⟩ := h; rfl) | (obtain ⟨_, _, _, _, _, _, rfl, _⟩ := h; rfl) | (obtain ⟨_, _, _, _, _, _, _, rfl, _⟩ := h; rfl) | (obtain ⟨_, _, _, _, _, _, _, _, rfl, _⟩ := h; rfl) | (obtain ⟨_, _, _, _, _, _, _, _, _, rfl, _⟩ := h; rfl) | (obtain ⟨_, _, _, _, _, _, _, _, _, _, rfl, _⟩ := h; rfl) | (obtain ⟨_, _, _, _, _, _, _, _, _, _, _, rfl, _⟩ := h; rfl) | (obtain ⟨_, _, _, _, _, _, _, _, _, _, _, _, rfl, _⟩ := h; rfl) | (obtain ⟨_, _, _, _, _, _, _, _, _, _, _, _, _, rfl, _⟩ := h; rfl) | (obtain ⟨_, _, _, _, _, _, _, _, _, _, _, _, _, _, rfl, _⟩ := h; rfl) | (obtain ⟨_, _, _, _, _, _, _, _, _, _, _, _, _, _, _, rfl, _⟩ := h; rfl) | (obtain ⟨_, _, _, _, _, _, _, _, _, _, _, _, _, _, _, _, rfl, _⟩ := h; rfl) | (obtain ⟨_, _, _, _, _, _, _, _, _, _, _, _, _, _, _, _, _, rfl, _⟩ := h; rfl) | (obtain ⟨_, _, _, _, _, _, _, _, _, _, _, _, _, _, _, _, _, _, rfl, _⟩ := h; rfl) | (obtain ⟨_, _, _, _, _, _, _, _, _, _, _, _, _, _, _, _, _, _, _, rfl, _⟩ := h; rfl) | (obtain ⟨_, _, _, _, _, _, _, _, _, _, _, _, _, _, _, _, _, _, _, _, rfl, _⟩ := h; rfl) | (obtain ⟨_, _, _, _, _, _, _, _, _, _, _, _, _, _, _, _, _, _, _, _, _, rfl, _⟩ := h; rfl)
  obtain ⟨a, M, ef, eb, b, m, L, rfl, hb, ⟨ok, hk, dx, t, wr, gn, c, tb, rfl, hT⟩, ⟨hv, rt, kr, S0, ow, pb, root, rfl, rfl, hP, co⟩, okM, hm, ho, k⟩ := h
  replace hb := cop_open hb
  obtain ⟨r1, r2, r3, r4, r5, r6⟩ := co.rt m hm
  have fl := okM.f
  refine ⟨_, PSs.nox (pss_one (ps_ret (pe_methC (pe_fldC (cls_Copied S) (na_Copied_halves S) (pv 0)) (ok_Parts_release S) (hr.mono (by decide)) pass0 (pa_cons (pe_dpop1 (pe_fldC (cls_Copied S) (na_Copied_roots S) (pv 0)) (pv 1) ⟨rfl, rfl, rfl, rfl⟩) pa_nil)))), ?_⟩
  walk_at "hz.st"
  walk_at "hz.g"
  · exact co.krK hm
  intro H1 h1
  walk_at "hz.g"
  refine ⟨hv, S0, pb, root m, dt0, _, rfl, h1, hP, co.wf, co.st.sh co.wf.bd, r1, r3, by unfold Prt.len; omega, fun S2 xs q pb2 H2 w2 f2 _ _ _ hP2 h2 => ?_⟩
  refine k _ _ _ _ _ ⟨ok, hk, dx, t, wr, gn, c, tb, rfl, hT⟩ ⟨hv, rt, dropK kr (ik m), S2, ow, pb2, root, rfl, rfl, hP2, ?_⟩ (cop_close (h2.sub_of (by walk_at "hz.sub")))
  have f3 : Frd S0 { S2 with hd := S0.hd } := ⟨f2.gv, f2.ds, rfl, f2.al⟩
  refine ⟨w2, (show Stat S2 ow M.T M.W M.F M.Vs M.T.length from ?_), fun x => ?_, Nat.le_trans (dropK_len kr (ik m)) co.kl, fun x hx => ?_, ?_⟩
  · have := co.st.frd f3
    exact ⟨this.own, this.rng, this.leaf, this.fork, this.idem, this.inj⟩
  · rw [valV_drop, co.ks x]
    by_cases c1 : x = m
    · subst c1
      rw [if_pos rfl, if_neg fun z => (kept_free.mp z).2 rfl]
    · rw [if_neg fun z => c1 (ik_inj.mp z)]
      by_cases c2 : M.kept x
      · rw [if_pos c2, if_pos (kept_free.mpr ⟨c2, c1⟩)]
      · rw [if_neg c2, if_neg fun z => c2 (kept_free.mp z).1]
  · obtain ⟨hx1, hx2⟩ := kept_free.mp hx
    obtain ⟨t1, t2, t3, t4, t5, t6⟩ := co.rt x hx1
    have hd2 : S2.hd (root x) = S0.hd (root x) := by
      rw [f2.hd]
      show upf S0.hd (root m) (S0.hd (root m) - 1) (root x) = _
      refine upf_ne fun z => hx2 ?_
      rw [← t4, ← r4, z]
    have g2 : S2.gv = S0.gv := f2.gv
    have d2 : S2.ds = S0.ds := f2.ds
    exact ⟨by rw [g2]; exact t1, w2.hk _ (by rw [g2]; exact t1) (by rw [hd2]; exact t3), by rw [hd2]; exact t3, t4, by rw [d2]; exact t5, by rw [d2]; exact t6⟩
  · have g2 : S2.gv = S0.gv := f2.gv
    rw [g2]
    exact co.gv

/-! D10: the copied way, laid and put on -/
theorem sc_Copied_store : FnScope ["self", "make", "number", "place", "worth", "before"] ["self", "make", "number", "place", "worth"] (defScope (inClass (top 33) 3)) := ⟨rfl, rfl, rfl, by decide +kernel, rfl, by decide +kernel, by decide +kernel⟩
-- slots of Copied.store: self 0, make 1, number 2, place 3, worth 4, before 5
theorem ok_Copied_store (S : Sit P w K mg base) : MF P w K mg base CX0 (He.ga K "Copied") "store" ["self", "make", "number", "place", "worth"] 31 (sRStore (CT K) (CC K) ["halves", "roots"] (WP_Copied K)) := by
  refine mf_Copied_store S fun f fd F => F.ok sc_Copied_store (fun vs H Q E h => ?_) (fun cdv A outer s H vs Q E hr h => ?_)
  · first | (obtain ⟨_, rfl, _⟩ := h; rfl) | (obtain ⟨_, _, rfl, _⟩ := h; rfl) | (obtain ⟨_, _, _, rfl, _⟩ := h; rfl) | (obtain ⟨_, _, _, _, rfl, _⟩ := h; rfl) | (obtain ⟨_, _, _, _, _, rfl, _⟩ := h; rfl) | (obtain ⟨_, _, _, _, _, _, rfl, _⟩ := h; rfl) | (obtain ⟨_, _, _, _, _, _, _, rfl, _⟩ := h; rfl) | (obtain ⟨_, _, _, _, _, _, _, _, rfl, _⟩ := h; rfl) | (obtain ⟨_, _, _, _, _, _, _, _, _, rfl, _⟩ := h; rfl) | (obtain ⟨_, _, _, _, _, _, _, _, _, _, rfl, _⟩ := h; rfl) | (obtain ⟨_, _, _, _, _, _, _, _, _, _, _, rfl, _⟩ := h; rfl) | (obtain ⟨_, _, _, _, _, _, _, _, _, _, _, _, rfl, _⟩ := h; rfl) | (obtain ⟨_, _, _, _, _, _, _, _, _, _, _, _, _, rfl, _⟩ := h; rfl) | (obtain ⟨_, _, _, _, _, _, _, _, _, _, _, _, _, _, rfl, _⟩ := h; rfl) | (obtain ⟨_, _, _, _, _, _, _, _, _, _, _, _, _, _, _, rfl, _⟩ := h; rfl) | (obtain ⟨_, _, _, _, _, _, _, _, _, _, _, _, _, _, _, _, rfl, _⟩ := h; rfl) | (obtain ⟨_, _, _, _, _, _, _, _, _, _, _, _, _, _, _, _, _, rfl, _⟩ := h; rfl) | (obtain ⟨_, _, _, _, _, _, _, _, _, _, _, _, _, _, _, _, _, _, rfl, _⟩ := h; rfl) | (obtain ⟨_, _, _, _, _, _, _, _, _, _, _, _, _, _, _, _, _, _, _, rfl, _⟩ := h; rfl) | (obtain ⟨_, _, _, _, _, _, _, _, _, _, _, _, _, _, _, _, _, _, _, _, rfl, _⟩ := h; rfl) | (obtain ⟨_, _, _, _, _, _, _, _, _, _, _, _, _, _, _, _, _, _, _, _, _, rfl, _⟩ := h; rfl)
  obtain ⟨a, M, ef, eb, b, m, p, w0, L, rfl, hb, ⟨ok, hk, dx, t, wr, gn, c, tb, rfl, hT⟩, ⟨hv, rt, kr, S0, ow, pb, root, rfl, rfl, hP, co⟩, okM, hm, hp, hw, hl, k⟩ := h
  replace hb := cop_open hb
  obtain ⟨r1, r2, r3, r4, r5, r6⟩ := co.rt m hm
  have fl := okM.f
  have hml := okM.le hm
  have hgv := co.gv
  have hkl := co.kl
  have st1 : Stat S0 ow (M.put m p w0).T (M.put m p w0).W (M.put m p w0).F (M.put m p w0).Vs (M.T.length + 1) := (co.st.snoc (x := m) (p := p) (w := w0) (Nat.le_refl _) okM.w okM.v).more (Nat.le_succ _)
  refine ⟨_, PSs.nox (pss_cons (ps_set (i := 5) sc_Copied_store.nd rfl (Or.inl rfl) (pe_methC0 (pe_fldC (cls_Copied S) (na_Copied_halves S) (pv 0)) (ok_Parts_many S) (hr.mono (by decide)) pass0))
      (pss_cons (ps_dput (hu_of hr) (pe_fldC (cls_Copied S) (na_Copied_roots S) (pv 0)) (pv 2) (pe_callC (ok_put_down S) (hr.mono (by decide)) (by rfl) pass0 (pa_cons (pe_fldC (cls_Copied S) (na_Copied_halves S) (pv 0)) (pa_cons (pe_dget (hu_of hr) (pe_fldC (cls_Copied S) (na_Copied_roots S) (pv 0)) (pv 1) (fun _ _ => rfl)) (pa_cons (pv 3) (pa_cons (pv 4) pa_nil))))) rfl)
      (pss_cons (ps_expr (pe_methC (pe_fldC (cls_Copied S) (na_Copied_halves S) (pv 0)) (ok_Parts_hold S) (hr.mono (by decide)) pass0 (pa_cons (pe_dget (hu_of hr) (pe_fldC (cls_Copied S) (na_Copied_roots S) (pv 0)) (pv 2) (fun _ _ => rfl)) pa_nil)))
      (pss_one (ps_expr (pe_methC (pv 0) (ok_Copied_add_steps S) (hr.mono (by decide)) pass0 (pa_cons (pe_op op_sub (pe_methC0 (pe_fldC (cls_Copied S) (na_Copied_halves S) (pv 0)) (ok_Parts_many S) (hr.mono (by decide)) pass0) (pv 5)) pa_nil))))))), ?_⟩
  walk_at "hz.st"
  walk_at "hz.g"
  refine ⟨hv, S0, pb, _, rfl, hb, hP, fun n1 H1 h1 => ?_⟩
  walk_at "hz.g"
  · exact co.krK hm
  walk_at "hz.g"
  have z1 : wsv (M.put m p w0).W (M.T.length + 1) = p := by
    show wsv (M.W ++ [p]) (M.T.length + 1) = p
    rw [← okM.w]; exact wsv_new
  have z2 : valT (M.put m p w0).T (M.put m p w0).W (M.put m p w0).F (M.put m p w0).Vs (M.T.length + 1) p = w0 := by
    have := valT_new (F := M.F) (V := M.Vs) (q := p) (w := w0) (p := p) okM.w okM.v hml
    rw [if_pos rfl] at this
    exact this
  have z3 : ow (root m) = last (M.put m p w0).T (M.put m p w0).W (par (M.put m p w0).T (M.T.length + 1)) (S0.ds (root m)).lo (S0.ds (root m)).hi := by
    rw [r4, r5, r6]
    show m = last (M.T ++ [m]) (M.W ++ [p]) (par (M.T ++ [m]) (M.T.length + 1)) 0 M.F.length
    rw [par_new hml, last_snoc okM.w hml, last_all okM.w okM.wp hml]
  refine ⟨hv, S0, pb, root m, p, w0, dt0, ow, (M.put m p w0).T, (M.put m p w0).W, (M.put m p w0).F, (M.put m p w0).Vs, M.T.length + 1, _, rfl, h1, hP, co.wf, st1, fun y hy => Nat.lt_succ_of_le (co.st.own y hy), r2, by omega, by rw [r6]; exact hp, fl.2, hw, z1, z2, z3, by omega, fun S2 ow2 y pb2 H2 x2 w2 st2 o2 y1 y2 y3 y4 y5 y6 g2 hP2 h2 => ?_⟩
  walk_at "hz.g"
  · exact sz100' (by omega)
  intro H3 h3
  walk_at "hz.g"
  · rw [valV_put, if_pos rfl]
  walk_at "hz.g"
  refine ⟨hv, S2, pb2, y, _, rfl, h3, hP2, y2, fun pb3 H4 hP3 h4 => ?_⟩
  walk_at "hz.g"
  refine ⟨hv, S2.hold y, pb3, _, rfl, h4, hP3, fun n2 H5 h5 => ?_⟩
  walk_at "hz.g"
  refine ⟨a, M.put m p w0, copF hv rt, copB rt _ pb3, _, _, L, rfl, cop_close (M := M.put m p w0) h5, ⟨ok, hk, dx, t, wr, gn, c, tb, rfl, hT⟩, fun b2 H6 hR6 h6 => ?_⟩
  refine k _ _ b2 _ hR6 ⟨hv, rt, _, S2.hold y, ow2, pb3, fun x => if x = M.T.length + 1 then y else root x, rfl, rfl, hP3, ?_⟩ h6
  have tl : (M.put m p w0).T.length = M.T.length + 1 := by
    show (M.T ++ [m]).length = _
    rw [List.length_append]; rfl
  refine ⟨w2.hold y2, (show Stat (S2.hold y) ow2 _ _ _ _ _ from ?_), fun x => ?_, ?_, fun x hx => ?_, ?_⟩
  · rw [tl]
    exact ⟨st2.own, st2.rng, st2.leaf, st2.fork, st2.idem, st2.inj⟩
  · rw [valV_put]
    by_cases c1 : x = M.T.length + 1
    · subst c1
      rw [if_pos rfl, if_pos ((kept_put okM).mpr (Or.inr rfl)), if_pos rfl]
    · rw [if_neg fun z => c1 (ik_inj.mp z), co.ks x]
      by_cases c2 : M.kept x
      · rw [if_pos c2, if_pos ((kept_put okM).mpr (Or.inl c2)), if_neg c1]
      · rw [if_neg c2, if_neg fun z => ((kept_put okM).mp z).elim c2 c1]
  · have := putK_len kr (ik (M.T.length + 1)) (V.int (y : Int))
    rw [tl]
    omega
  · show (if x = M.T.length + 1 then y else root x) < S2.gv ∧ S2.al (if x = M.T.length + 1 then y else root x) = true ∧ 0 < upf S2.hd y (S2.hd y + 1) (if x = M.T.length + 1 then y else root x) ∧ ow2 (if x = M.T.length + 1 then y else root x) = x ∧ (S2.ds (if x = M.T.length + 1 then y else root x)).lo = 0 ∧ (S2.ds (if x = M.T.length + 1 then y else root x)).hi = M.F.length
    by_cases c1 : x = M.T.length + 1
    · rw [if_pos c1, upf_same, x2.nh y y6 y1]
      exact ⟨y1, y2, by decide, by rw [y3, c1], by rw [y4, r5], by rw [y5, r6]⟩
    · rw [if_neg c1]
      have hx' := ((kept_put okM).mp hx).resolve_right c1
      obtain ⟨t1, t2, t3, t4, t5, t6⟩ := co.rt x hx'
      have := x2.gv
      rw [upf_ne (by omega), x2.hd _ t1, x2.ds _ t1, x2.al _ t1, o2 _ t1]
      exact ⟨by omega, t2, t3, t4, t5, t6⟩
  · show S2.gv ≤ _
    rw [tl]
    omega

/-! D9w: rows that are put on, class Copied -/
theorem sc_Rows_written : FnScope ["self", "make", "place", "worth", "number"] ["self", "make", "place", "worth"] (defScope (inClass (top 31) 24)) := ⟨rfl, rfl, rfl, by decide +kernel, rfl, by decide +kernel, by decide +kernel⟩
-- slots of Rows.written: self 0, make 1, place 2, worth 3, number 4
theorem ok_Copied_written (S : Sit P w K mg base) : MF P w K mg base CX0 (He.ga K "Copied") "written" ["self", "make", "place", "worth"] 41 (sRPut (CT K) (He.ga K "Copied") ["halves", "roots"] (WP_Copied K)) := by
  refine mf_Copied_written S fun f fd F => F.ok sc_Rows_written (fun vs H Q E h => ?_) (fun cdv A outer s H vs Q E hr h => ?_)
  · first | (obtain ⟨_, rfl, _⟩ := h; rfl) | (obtain ⟨_, _, rfl, _⟩ := h; rfl) | (obtain ⟨_, _, _, rfl, _⟩ := h; rfl) | (obtain ⟨_, _, _, _, rfl, _⟩ := h; rfl) | (obtain ⟨_, _, _, _, _, rfl, _⟩ := h; rfl) | (obtain ⟨_, _, _, _, _, _, rfl, _⟩ := h; rfl) | (obtain ⟨_, _, _, _, _, _, _, rfl, _⟩ := h; rfl) | (obtain ⟨_, _, _, _, _, _, _, _, rfl, _⟩ := h; rfl) | (obtain ⟨_, _, _, _, _, _, _, _, _, rfl, _⟩ := h; rfl) | (obtain ⟨_, _, _, _, _, _, _, _, _, _, rfl, _⟩ := h; rfl) | (obtain ⟨_, _, _, _, _, _, _, _, _, _, _, rfl, _⟩ := h; rfl) | (obtain ⟨_, _, _, _, _, _, _, _, _, _, _, _, rfl, _⟩ := h; rfl) | (obtain ⟨_, _, _, _, _, _, _, _, _, _, _, _, _, rfl, _⟩ := h; rfl) | (obtain ⟨_, _, _, _, _, _, _, _, _, _, _, _, _, _, rfl, _⟩ := h; rfl) | (obtain ⟨_, _, _, _, _, _, _, _, _, _, _, _, _, _, _, rfl, _⟩ := h; rfl) | (obtain ⟨_, _, _, _, _, _, _, _, _, _, _, _, _, _, _, _, rfl, _⟩ := h; rfl) | (obtain ⟨_, _, _, _, _, _, _, _, _, _, _, _, _, _, _, _, _, rfl, _⟩ := h; rfl) | (obtain ⟨_, _, _, _, _, _, _, _, _, _, _, _, _, _, _, _, _, _, rfl, _⟩ := h; rfl) | (obtain ⟨_, _, _, _, _, _, _, _, _, _, _, _, _, _, _, _, _, _, _, rfl, _⟩ := h; rfl) | (obtain ⟨_, _, _, _, _, _, _, _, _, _, _, _, _, _, _, _, _, _, _, _, rfl, _⟩ := h; rfl) | (obtain ⟨_, _, _, _, _, _, _, _, _, _, _, _, _, _, _, _, _, _, _, _, _, rfl, _⟩ := h; rfl)
  obtain ⟨a, M, ef, eb, b, m, p, w0, L, rfl, hb, ⟨ok, hk, dx, t, wr, gn, c, tb, rfl, hT⟩, hW, hm, hp, hw, hl, k⟩ := h
  replace hb := row_open hb
  have g := ok.g
  have wl := ok.w
  have hml := ok.le hm
  refine ⟨_, PSs.nox (pss_cons (ps_set (i := 4) sc_Rows_written.nd rfl (Or.inl rfl) (pe_methC (pe_fldC (cls_Copied S) (na_Copied_grown S) (pv 0)) (ok_LeapTree_grow S) (hr.mono (by decide)) pass0 (pa_cons (pv 1) pa_nil)))
      (pss_cons (ps_expr (pe_bm PySem.F.plainAttrs_list PySem.F.slot_list_append PySem.F.type_list_append mt_append (pe_fldC (cls_Copied S) (na_Copied_wrote S) (pv 0)) (pa_cons (pv 2) pa_nil)))
      (pss_cons (ps_expr (pe_bm PySem.F.plainAttrs_list PySem.F.slot_list_append PySem.F.type_list_append mt_append (pe_fldC (cls_Copied S) (na_Copied_gone S) (pv 0)) (pa_cons pe_bl pa_nil)))
      (pss_cons (ps_expr (pe_methC (pv 0) (ok_Copied_store S) (hr.mono (by decide)) pass0 (pa_cons (pv 1) (pa_cons (pv 4) (pa_cons (pv 2) (pa_cons (pv 3) pa_nil))))))
      (pss_one (ps_ret (pv 4))))))), ?_⟩
  walk_at "hz.st"
  walk_at "hz.g"
  refine ⟨t, M.T, tb, m, _, rfl, hb.sub_of (Ts := tb :: [(a, .ins (He.ga K "Copied") dx (rowF M.F.length t wr gn c ef))] :: [(wr, .lst (rm (M.T.length + 1) (wv M.W)))] :: [(gn, .lst (M.gone.map V.bl))] :: eb :: L) (by walk_at "hz.sub"), hT, hml, hl, fun tb2 H1 hT2 h1 => ?_⟩
  walk_at "hz.g"
  · rw [rm_len]; exact sz100' (by omega)
  intro H2 h2
  walk_at "hz.g"
  · rw [List.length_map]; exact sz100' (by omega)
  intro H3 h3
  walk_at "hz.g"
  have e1 : rm (M.T.length + 1) (wv M.W) ++ [.int (p : Int)] = rm ((M.put m p w0).T.length + 1) (wv (M.put m p w0).W) := by
    rw [← wl, wr_snoc]
    show _ = rm ((M.T ++ [m]).length + 1) (wv (M.W ++ [p]))
    rw [List.length_append, List.length_append, wl]
    rfl
  have e2 : M.gone.map V.bl ++ [.bl false] = (M.put m p w0).gone.map V.bl := by
    show _ = (M.gone ++ [false]).map V.bl
    rw [List.map_append]; rfl
  rw [e1, e2] at h3
  rw [show ((M.T.length : Int) + 1) = ((M.T.length + 1 : Nat) : Int) by omega]
  have h4 : HB H3 ([(a, .ins (He.ga K "Copied") dx (rowF M.F.length t wr gn c ef))] :: [(wr, .lst (rm ((M.put m p w0).T.length + 1) (wv (M.put m p w0).W)))] :: [(gn, .lst ((M.put m p w0).gone.map V.bl))] :: tb2 :: eb :: L) := h3.sub_of (by walk_at "hz.sub")
  refine ⟨a, M, ef, eb, _, m, p, w0, L, rfl, row_close (M := M.put m p w0) h4, ⟨ok.put hml hl hp hw, hk, dx, t, wr, gn, c, tb2, rfl, hT2⟩, hW, ok, hm, hp, hw, hl, fun ef' eb' b' H4 hR hW2 h4 => ?_⟩
  walk_at "hz.g"
  exact k ef' eb' b' _ hR hW2 h4
theorem sc_Rows_put : FnScope ["self", "make", "place", "worth"] ["self", "make", "place", "worth"] (defScope (inClass (top 31) 22)) := ⟨rfl, rfl, rfl, by decide +kernel, rfl, by decide +kernel, by decide +kernel⟩
-- slots of Rows.put: self 0, make 1, place 2, worth 3
theorem ok_Copied_put (S : Sit P w K mg base) : MF P w K mg base CX0 (He.ga K "Copied") "put" ["self", "make", "place", "worth"] 45 (sRPut (CT K) (He.ga K "Copied") ["halves", "roots"] (WP_Copied K)) := by
  refine mf_Copied_put S fun f fd F => F.ok sc_Rows_put (fun vs H Q E h => ?_) (fun cdv A outer s H vs Q E hr h => ?_)
  · first | (obtain ⟨_, rfl, _⟩ := h; rfl) | (obtain ⟨_, _, rfl, _⟩ := h; rfl) | (obtain ⟨_, _, _, rfl, _⟩ := h; rfl) | (obtain ⟨_, _, _, _, rfl, _⟩ := h; rfl) | (obtain ⟨_, _, _, _, _, rfl, _⟩ := h; rfl) | (obtain ⟨_, _, _, _, _, _, rfl, _⟩ := h; rfl) | (obtain ⟨_, _, _, _, _, _, _, rfl, _⟩ := h; rfl) | (obtain ⟨_, _, _, _, _, _, _, _, rfl, _⟩ := h; rfl) | (obtain ⟨_, _, _, _, _, _, _, _, _, rfl, _⟩ := h; rfl) | (obtain ⟨_, _, _, _, _, _, _, _, _, _, rfl, _⟩ := h; rfl) | (obtain ⟨_, _, _, _, _, _, _, _, _, _, _, rfl, _⟩ := h; rfl) | (obtain ⟨_, _, _, _, _, _, _, _, _, _, _, _, rfl, _⟩ := h; rfl) | (obtain ⟨_, _, _, _, _, _, _, _, _, _, _, _, _, rfl, _⟩ := h; rfl) | (obtain ⟨_, _, _, _, _, _, _, _, _, _, _, _, _, _, rfl, _⟩ := h; rfl) | (obtain ⟨_, _, _, _, _, _, _, _, _, _, _, _, _, _, _, rfl, _⟩ := h; rfl) | (obtain ⟨_, _, _, _, _, _, _, _, _, _, _, _, _, _, _, _, rfl, _⟩ := h; rfl) | (obtain ⟨_, _, _, _, _, _, _, _, _, _, _, _, _, _, _, _, _, rfl, _⟩ := h; rfl) | (obtain ⟨_, _, _, _, _, _, _, _, _, _, _, _, _, _, _, _, _, _, rfl, _⟩ := h; rfl) | (obtain ⟨_, _, _, _, _, _, _, _, _, _, _, _, _, _, _, _, _, _, _, rfl, _⟩ := h; rfl) | (obtain ⟨_, _, _, _, _, _, _, _, _, _, _, _, _, _, _, _, _, _, _, _, rfl, _⟩ := h; rfl) | (obtain ⟨_, _, _, _, _, _, _, _, _, _, _, _, _, _, _, _, _, _, _, _, _, rfl, _⟩ := h; rfl)
  obtain ⟨a, M, ef, eb, b, m, p, w0, L, rfl, hb, hR, hW, hm, hp, hw, hl, k⟩ := h
  have ok := hR.1
  refine ⟨_, PSs.nox (pss_cons (ps_expr (pe_methC (pv 0) (ok_Copied_need_make S) (hr.mono (by decide)) pass0 (pa_cons (pv 1) pa_nil)))
      (pss_cons (ps_expr (pe_methC (pv 0) (ok_Copied_need_place S) (hr.mono (by decide)) pass0 (pa_cons (pv 2) pa_nil)))
      (pss_cons (ps_if (pt_not (pt_val (pe_callC (ok_is_worth S) (hr.mono (by decide)) (by rfl) pass0 (pa_cons (pv 3) pa_nil)))) (pss_one ps_never) pss_nil)
      (pss_cons (ps_expr (pe_methC (pv 0) (ok_Copied_need_new S) (hr.mono (by decide)) pass0 (pa_cons (pv 1) pa_nil)))
      (pss_cons (ps_expr (pe_methC (pv 0) (ok_Copied_need_room S) (hr.mono (by decide)) pass0 (pa_cons pe_int pa_nil)))
      (pss_one (ps_ret (pe_methC (pv 0) (ok_Copied_written S) (hr.mono (by decide)) pass0 (pa_cons (pv 1) (pa_cons (pv 2) (pa_cons (pv 3) pa_nil))))))))))), ?_⟩
  walk_at "hz.st"
  walk_at "hz.g"
  refine ⟨a, M, ef, eb, b, m, L, rfl, hb, hR, hm, fun H1 h1 => ?_⟩
  walk_at "hz.g"
  refine ⟨a, M, ef, eb, b, p, L, rfl, h1, hR, hp, fun H2 h2 => ?_⟩
  walk_at "hz.g"
  refine r_worth hw ?_
  walk_at "hz.g"
  refine ⟨a, M, ef, eb, b, m, L, rfl, h2, hR, hm, fun H3 h3 => ?_⟩
  walk_at "hz.g"
  refine ⟨a, M, ef, eb, b, 1, L, rfl, h3, hR, by omega, fun H4 h4 => ?_⟩
  walk_at "hz.g"
  exact ⟨a, M, ef, eb, b, m, p, w0, L, rfl, h4, hR, hW, hm, hp, hw, hl, k⟩
theorem sc_Rows_at : FnScope ["self", "make", "place"] ["self", "make", "place"] (defScope (inClass (top 31) 25)) := ⟨rfl, rfl, rfl, by decide +kernel, rfl, by decide +kernel, by decide +kernel⟩
-- slots of Rows.at: self 0, make 1, place 2
theorem ok_Copied_at (S : Sit P w K mg base) : MF P w K mg base CX0 (He.ga K "Copied") "at" ["self", "make", "place"] 41 (sRAt (CT K) (He.ga K "Copied") ["halves", "roots"] (WP_Copied K)) := by
  refine mf_Copied_at S fun f fd F => F.ok sc_Rows_at (fun vs H Q E h => ?_) (fun cdv A outer s H vs Q E hr h => ?_)
  · first | (obtain ⟨_, rfl, _⟩ := h; rfl) | (obtain ⟨_, _, rfl, _⟩ := h; rfl) | (obtain ⟨_, _, _, rfl, _⟩ := h; rfl) | (obtain ⟨_, _, _, _, rfl, _⟩ := h; rfl) | (obtain ⟨_, _, _, _, _, rfl, _⟩ := h; rfl) | (obtain ⟨_, _, _, _, _, _, rfl, _⟩ := h; rfl) | (obtain ⟨_, _, _, _, _, _, _, rfl, _⟩ := h; rfl) | (obtain ⟨_, _, _, _, _, _, _, _, rfl, _⟩ := h; rfl) | (obtain ⟨_, _, _, _, _, _, _, _, _, rfl, _⟩ := h; rfl) | (obtain ⟨_, _, _, _, _, _, _, _, _, _, rfl, _⟩ := h; rfl) | (obtain ⟨_, _, _, _, _, _, _, _, _, _, _, rfl, _⟩ := h; rfl) | (obtain ⟨_, _, _, _, _, _, _, _, _, _, _, _, rfl, _⟩ := h; rfl) | (obtain ⟨_, _, _, _, _, _, _, _, _, _, _, _, _, rfl, _⟩ := h; rfl) | (obtain ⟨_, _, _, _, _, _, _, _, _, _, _, _, _, _, rfl, _⟩ := h; rfl) | (obtain ⟨_, _, _, _, _, _, _, _, _, _, _, _, _, _, _, rfl, _⟩ := h; rfl) | (obtain ⟨_, _, _, _, _, _, _, _, _, _, _, _, _, _, _, _, rfl, _⟩ := h; rfl) | (obtain ⟨_, _, _, _, _, _, _, _, _, _, _, _, _, _, _, _, _, rfl, _⟩ := h; rfl) | (obtain ⟨_, _, _, _, _, _, _, _, _, _, _, _, _, _, _, _, _, _, rfl, _⟩ := h; rfl) | (obtain ⟨_, _, _, _, _, _, _, _, _, _, _, _, _, _, _, _, _, _, _, rfl, _⟩ := h; rfl) | (obtain ⟨_, _, _, _, _, _, _, _, _, _, _, _, _, _, _, _, _, _, _, _, rfl, _⟩ := h; rfl) | (obtain ⟨_, _, _, _, _, _, _, _, _, _, _, _, _, _, _, _, _, _, _, _, _, rfl, _⟩ := h; rfl)
  obtain ⟨a, M, ef, eb, b, m, p, L, rfl, hb, hR, hW, hm, hp, k⟩ := h
  refine ⟨_, PSs.nox (pss_cons (ps_expr (pe_methC (pv 0) (ok_Copied_need_make S) (hr.mono (by decide)) pass0 (pa_cons (pv 1) pa_nil)))
      (pss_cons (ps_expr (pe_methC (pv 0) (ok_Copied_need_place S) (hr.mono (by decide)) pass0 (pa_cons (pv 2) pa_nil)))
      (pss_one (ps_ret (pe_ix (ix_listK (K := K) rfl) (pe_methC (pv 0) (ok_Copied_worths_in S) (hr.mono (by decide)) pass0 (pa_cons (pv 1) (pa_cons (pv 2) (pa_cons (pe_op op_add (pv 2) pe_int) pa_nil)))) pe_int (fun _ _ => rfl)))))), ?_⟩
  walk_at "hz.st"
  walk_at "hz.g"
  refine ⟨a, M, ef, eb, b, m, L, rfl, hb, hR, hm, fun H1 h1 => ?_⟩
  walk_at "hz.g"
  refine ⟨a, M, ef, eb, b, p, L, rfl, h1, hR, hp, fun H2 h2 => ?_⟩
  walk_at "hz.g"
  refine ⟨a, M, ef, eb, b, m, p, p + 1, L, rfl, h2, hR, hW, hm, by omega, by omega, fun q ef' eb' b' H3 hR2 hW2 h3 => ?_⟩
  walk_at "hz.g"
  · exact (show atI ((vals M m p (p + 1)).map V.int) ((0 : Nat) : Int) = some (.int (M.val m p)) from atI_nat (by unfold vals; rw [show p + 1 - p = 1 by omega]; rfl))
  walk_at "hz.g"
  exact k _ _ _ _ hR2 hW2 h3.tail
theorem sc_Rows_let_go : FnScope ["self", "make"] ["self", "make"] (defScope (inClass (top 31) 29)) := ⟨rfl, rfl, rfl, by decide +kernel, rfl, by decide +kernel, by decide +kernel⟩
-- slots of Rows.let_go: self 0, make 1
theorem ok_Copied_let_go (S : Sit P w K mg base) : MF P w K mg base CX0 (He.ga K "Copied") "let_go" ["self", "make"] 45 (sRLetGo (CT K) (He.ga K "Copied") ["halves", "roots"] (WP_Copied K)) := by
  refine mf_Copied_let_go S fun f fd F => F.ok sc_Rows_let_go (fun vs H Q E h => ?_) (fun cdv A outer s H vs Q E hr h => ?_)
  · first | (obtain ⟨_, rfl, _⟩ := h; rfl) | (obtain ⟨_, _, rfl, _⟩ := h; rfl) | (obtain ⟨_, _, _, rfl, _⟩ := h; rfl) | (obtain ⟨_, _, _, _, rfl, _⟩ := h; rfl) | (obtain ⟨_, _, _, _, _, rfl, _⟩ := h; rfl) | (obtain ⟨_, _, _, _, _, _, rfl, _⟩ := h; rfl) | (obtain ⟨_, _, _, _, _, _, _, rfl, _⟩ := h; rfl) | (obtain ⟨_, _, _, _, _, _, _, _, rfl, _⟩ := h; rfl) | (obtain ⟨_, _, _, _, _, _, _, _, _, rfl, _⟩ := h; rfl) | (obtain ⟨_, _, _, _, _, _, _, _, _, _, rfl, _⟩ := h; rfl) | (obtain ⟨_, _, _, _, _, _, _, _, _, _, _, rfl, _⟩ := h; rfl) | (obtain ⟨_, _, _, _, _, _, _, _, _, _, _, _, rfl, _⟩ := h; rfl) | (obtain ⟨_, _, _, _, _, _, _, _, _, _, _, _, _, rfl, _⟩ := h; rfl) | (obtain ⟨_, _, _, _, _, _, _, _, _, _, _, _, _, _, rfl, _⟩ := h; rfl) | (obtain ⟨_, _, _, _, _, _, _, _, _, _, _, _, _, _, _, rfl, _⟩ := h; rfl) | (obtain ⟨_, _, _, _, _, _, _, _, _, _, _, _, _, _, _, _, rfl, _⟩ := h; rfl) | (obtain ⟨_, _, _, _, _, _, _, _, _, _, _, _, _, _, _, _, _, rfl, _⟩ := h; rfl) | (obtain ⟨_, _, _, _, _, _, _, _, _, _, _, _, _, _, _, _, _, _, rfl, _⟩ := h; rfl) | (obtain ⟨_, _, _, _, _, _, _, _, _, _, _, _, _, _, _, _, _, _, _, rfl, _⟩ := h; rfl) | (obtain ⟨_, _, _, _, _, _, _, _, _, _, _, _, _, _, _, _, _, _, _, _, rfl, _⟩ := h; rfl) | (obtain ⟨_, _, _, _, _, _, _, _, _, _, _, _, _, _, _, _, _, _, _, _, _, rfl, _⟩ := h; rfl)
  obtain ⟨a, M, ef, eb, b, m, L, rfl, hb, hR, hW, hm, h2, k⟩ := h
  have ok := hR.1
  refine ⟨_, PSs.nox (pss_cons (ps_expr (pe_methC (pv 0) (ok_Copied_need_make S) (hr.mono (by decide)) pass0 (pa_cons (pv 1) pa_nil)))
      (pss_cons (ps_if (pt_cmpR op_eq (pe_callB (call_lenK (K := K) rfl) (by rfl) (fr_len S) bt_len (pa_cons (pe_methC0 (pv 0) (ok_Copied_makes S) (hr.mono (by decide)) pass0) pa_nil)) pe_int (nomark _)) (pss_one ps_never) pss_nil)
      (pss_cons (ps_asg pe_bl (pg_sub (pe_fldC (cls_Copied S) (na_Copied_gone S) (pv 0)) (pv 1) set_list))
      (pss_one (ps_ret (pe_methC (pv 0) (ok_Copied_freed S) (hr.mono (by decide)) pass0 (pa_cons (pv 1) pa_nil))))))), ?_⟩
  walk_at "hz.st"
  walk_at "hz.g"
  refine ⟨a, M, ef, eb, b, m, L, rfl, hb, hR, hm, fun H1 h1 => ?_⟩
  walk_at "hz.g"
  refine ⟨a, M, ef, eb, b, L, rfl, h1, hR, fun q H2 k2 => ?_⟩
  walk_at "hz.g"
  refine r_no (decide_eq_false (by omega)) ?_
  obtain ⟨_, hk, dx, t, wr, gn, c, tb, rfl, hT⟩ := hR
  replace k2 := row_open k2.tail
  have g := ok.g
  have hml := ok.le hm
  walk_at "hz.g"
  · rw [List.length_map]; omega
  intro H3 h3
  walk_at "hz.g"
  have e2 : (M.gone.map V.bl).set m (.bl true) = (M.free m).gone.map V.bl := by
    show _ = (M.gone.set m true).map V.bl
    rw [List.map_set]
  rw [e2] at h3
  refine ⟨a, M, ef, eb, _, m, L, rfl, row_close (M := M.free m) h3, ⟨ok.free, hk, dx, t, wr, gn, c, tb, rfl, hT⟩, hW, ok, hm, ?_, k⟩
  refine Classical.byContradiction fun z => ?_
  have : M.keptL.length ≤ [m].length := few_ofN (List.Pairwise.filter _ List.nodup_range) fun x hx => by
    refine Classical.byContradiction fun c => z ⟨x, fun e => c (by rw [e]; simp), (keptL_mem ok).mp hx⟩
  simp at this
  omega

/-! D11: the copied way begun -/
def M0 (F : List Int) : Mdl := ⟨[], [], F, [], [false]⟩
def sRBegin (C : Addr) (WP : WPr) : Sp := fun vs H Q _ => ∃ (a dx wl t wr gn : Addr) (n : Nat) (c : Int) (F : List Int) (L : List Blk), vs = [.ref a, .ref wl] ∧ HB H ([(a, .ins C dx (rowF n t wr gn c []))] :: [(wl, .lst (F.map V.int))] :: L) ∧ (1 ≤ F.length ∧ F.length ≤ 16 ∧ ∀ x ∈ F, isW x = true) ∧
  ∀ ef eb H', WP (M0 F) ef eb → HB H' ([(a, .ins C dx (rowF n t wr gn c ef))] :: eb :: L) → Q .non H'
def sRInit (CL C : Addr) (ks : List Str) (WP : WPr) : Sp := fun vs H Q _ => ∃ (a dx wl : Addr) (F : List Int) (L : List Blk), vs = [.ref a, .ref wl] ∧ HB H ([(a, .ins C dx [])] :: L) ∧ At L wl (.lst (F.map V.int)) ∧ (1 ≤ F.length ∧ F.length ≤ 16 ∧ ∀ x ∈ F, isW x = true) ∧
  ∀ ef eb b H', Row CL C ks a (M0 F) ef eb b → WP (M0 F) ef eb → HB H' (b :: L) → Q .non H'
theorem sc_Copied_begin : FnScope ["self", "worths"] ["self", "worths"] (defScope (inClass (top 33) 0)) := ⟨rfl, rfl, rfl, by decide +kernel, rfl, by decide +kernel, by decide +kernel⟩
-- slots of Copied.begin: self 0, worths 1
theorem ok_Copied_begin (S : Sit P w K mg base) : MF P w K mg base CX0 (He.ga K "Copied") "begin" ["self", "worths"] 35 (sRBegin (CC K) (WP_Copied K)) := by
  refine mf_Copied_begin S fun f fd F => F.ok sc_Copied_begin (fun vs H Q E h => ?_) (fun cdv A outer s H vs Q E hr h => ?_)
  · first | (obtain ⟨_, rfl, _⟩ := h; rfl) | (obtain ⟨_, _, rfl, _⟩ := h; rfl) | (obtain ⟨_, _, _, rfl, _⟩ := h; rfl) | (obtain ⟨_, _, _, _, rfl, _⟩ := h; rfl) | (obtain ⟨_, _, _, _, _, rfl, _⟩ := h; rfl) | (obtain ⟨_, _, _, _, _, _, rfl, _⟩ := h; rfl) | (obtain ⟨_, _, _, _, _, _, _, rfl, _⟩ := h; rfl) | (obtain ⟨_, _, _, _, _, _, _, _, rfl, _⟩ := h; rfl) | (obtain ⟨_, _, _, _, _, _, _, _, _, rfl, _⟩ := h; rfl) | (obtain ⟨_, _, _, _, _, _, _, _, _, _, rfl, _⟩ := h; rfl) | (obtain ⟨_, _, _, _, _, _, _, _, _, _, _, rfl, _⟩ := h; rfl) | (obtain ⟨_, _, _, _, _, _, _, _, _, _, _, _, rfl, _⟩ := h; rfl) | (obtain ⟨_, _, _, _, _, _, _, _, _, _, _, _, _, rfl, _⟩ := h; rfl) | (obtain ⟨_, _, _, _, _, _, _, _, _, _, _, _, _, _, rfl, _⟩ := h; rfl) | (obtain ⟨_, _, _, _, _, _, _, _, _, _, _, _, _, _, _, rfl, _⟩ := h; rfl) | (obtain ⟨_, _, _, _, _, _, _, _, _, _, _, _, _, _, _, _, rfl, _⟩ := h; rfl) | (obtain ⟨_, _, _, _, _, _, _, _, _, _, _, _, _, _, _, _, _, rfl, _⟩ := h; rfl) | (obtain ⟨_, _, _, _, _, _, _, _, _, _, _, _, _, _, _, _, _, _, rfl, _⟩ := h; rfl) | (obtain ⟨_, _, _, _, _, _, _, _, _, _, _, _, _, _, _, _, _, _, _, rfl, _⟩ := h; rfl) | (obtain ⟨_, _, _, _, _, _, _, _, _, _, _, _, _, _, _, _, _, _, _, _, rfl, _⟩ := h; rfl) | (obtain ⟨_, _, _, _, _, _, _, _, _, _, _, _, _, _, _, _, _, _, _, _, _, rfl, _⟩ := h; rfl)
  obtain ⟨a, dx, wl, t, wr, gn, n, c, F, L, rfl, hb, hF, k⟩ := h
  refine ⟨_, PSs.nox (pss_cons (ps_fldC (cls_Copied S) (na_Copied_halves S) (pv 0) (pe_makeC0 (ok_Parts S) (hr.mono (by decide)) (by rfl) pass0))
      (pss_cons (ps_fldC (cls_Copied S) (na_Copied_roots S) (pv 0) (pe_disp (pps_cons pe_int (pe_callC (ok_built S) (hr.mono (by decide)) (by rfl) pass0 (pa_cons (pe_fldC (cls_Copied S) (na_Copied_halves S) (pv 0)) (pa_cons (pv 1) pa_nil))) pps_nil) (by rfl) (by rfl) (fun z => by cases z) (by decide)))
      (pss_one (ps_expr (pe_methC (pe_fldC (cls_Copied S) (na_Copied_halves S) (pv 0)) (ok_Parts_hold S) (hr.mono (by decide)) pass0 (pa_cons (pe_dget (hu_of hr) (pe_fldC (cls_Copied S) (na_Copied_roots S) (pv 0)) pe_int (fun _ _ => rfl)) pa_nil)))))), ?_⟩
  walk_at "hz.st"
  walk_at "hz.g"
  rename_i x dx2 H1 h1
  refine ⟨x, dx2, _, rfl, h1, fun pb H2 hP h2 => ?_⟩
  walk_at "hz.g"
  rename_i H3 h3 rt H4 h4
  refine ⟨x, wl, pb, F, _, rfl, h4.sub_of (Ts := pb :: [(wl, .lst (F.map V.int))] :: [(rt, .dK [])] :: [(a, .ins (CC K) dx (rowF n t wr gn c [("halves", .ref x)]))] :: L) (by walk_at "hz.sub"), hP, hF, fun S2 y pb2 H5 w2 st2 g2 a2 y1 y2 y3 hP2 h5 => ?_⟩
  walk_at "hz.g"
  refine r_disp2 [(ik 0, .int (y : Nat))] h5 (by walk_at "hz.put") rfl rfl (by show 1 ≤ 15; decide) fun H6 h6 => ?_
  walk_at "hz.g"
  · exact (show valV [(ik 0, V.int (y : Int))] (.inl 0) = some (V.int (y : Int)) from rfl)
  rename_i H7 h7
  walk_at "hz.g"
  refine ⟨x, S2, pb2, y, _, rfl, h7, hP2, (a2 y y1).1, fun pb3 H8 hP3 h8 => ?_⟩
  refine k (copF x rt) (copB rt [(ik 0, .int (y : Nat))] pb3) _ ⟨x, rt, _, S2.hold y, fun _ => 0, pb3, fun _ => y, rfl, rfl, hP3, ?_⟩ (show HB H8 (_ :: [(rt, .dK [(ik 0, .int (y : Nat))])] :: pb3 :: L) from h8.sub_of (by walk_at "hz.sub"))
  have kz : ∀ m, (M0 F).kept m ↔ m = 0 := fun m => by
    show ([false] : List Bool)[m]? = some false ↔ m = 0
    cases m with
    | zero => simp
    | succ m => simp
  refine ⟨w2.hold (a2 y y1).1, (show Stat (S2.hold y) (fun _ => 0) [] [] F [] 0 from ⟨st2.own, st2.rng, st2.leaf, st2.fork, st2.idem, st2.inj⟩), fun m => ?_, (by show 1 ≤ 0 + 1; decide), fun m hm => ?_, (by show S2.gv ≤ 40 + 18 * 0; omega)⟩
  · by_cases c1 : m = 0
    · rw [if_pos ((kz m).mpr c1), c1]
      rfl
    · rw [if_neg fun z => c1 ((kz m).mp z)]
      show valV [(ik 0, V.int (y : Int))] (ik m) = none
      rw [valV_neg (fun z => c1 (ik_inj.mp z.symm)), valV_nil]
  · obtain rfl := (kz m).mp hm
    refine ⟨y1, (a2 y y1).1, ?_, rfl, y2, y3⟩
    show 0 < upf S2.hd y (S2.hd y + 1) y
    rw [upf_same, (a2 y y1).2]
    decide
theorem sc_Rows___init__ : FnScope ["self", "worths"] ["self", "worths"] (defScope (inClass (top 31) 0)) := ⟨rfl, rfl, rfl, by decide +kernel, rfl, by decide +kernel, by decide +kernel⟩
-- slots of Rows.__init__: self 0, worths 1
theorem ok_Copied (S : Sit P w K mg base) : KF P w K mg base CX0 "Copied" (He.ga K "Copied") ["self", "worths"] 39 (sRInit (CT K) (CC K) ["halves", "roots"] (WP_Copied K)) := by
  refine kf_Copied S fun f fd F => F.ok sc_Rows___init__ (fun vs H Q E h => ?_) (fun cdv A outer s H vs Q E hr h => ?_)
  · first | (obtain ⟨_, rfl, _⟩ := h; rfl) | (obtain ⟨_, _, rfl, _⟩ := h; rfl) | (obtain ⟨_, _, _, rfl, _⟩ := h; rfl) | (obtain ⟨_, _, _, _, rfl, _⟩ := h; rfl) | (obtain ⟨_, _, _, _, _, rfl, _⟩ := h; rfl) | (obtain ⟨_, _, _, _, _, _, rfl, _⟩ := h; rfl) | (obtain ⟨_, _, _, _, _, _, _, rfl, _⟩ := h; rfl) | (obtain ⟨_, _, _, _, _, _, _, _, rfl, _⟩ := h; rfl) | (obtain ⟨_, _, _, _, _, _, _, _, _, rfl, _⟩ := h; rfl) | (obtain ⟨_, _, _, _, _, _, _, _, _, _, rfl, _⟩ := h; rfl) | (obtain ⟨_, _, _, _, _, _, _, _, _, _, _, rfl, _⟩ := h; rfl) | (obtain ⟨_, _, _, _, _, _, _, _, _, _, _, _, rfl, _⟩ := h; rfl) | (obtain ⟨_, _, _, _, _, _, _, _, _, _, _, _, _, rfl, _⟩ := h; rfl) | (obtain ⟨_, _, _, _, _, _, _, _, _, _, _, _, _, _, rfl, _⟩ := h; rfl) | (obtain ⟨_, _, _, _, _, _, _, _, _, _, _, _, _, _, _, rfl, _⟩ := h; rfl) | (obtain ⟨_, _, _, _, _, _, _, _, _, _, _, _, _, _, _, _, rfl, _⟩ := h; rfl) | (obtain ⟨_, _, _, _, _, _, _, _, _, _, _, _, _, _, _, _, _, rfl, _⟩ := h; rfl) | (obtain ⟨_, _, _, _, _, _, _, _, _, _, _, _, _, _, _, _, _, _, rfl, _⟩ := h; rfl) | (obtain ⟨_, _, _, _, _, _, _, _, _, _, _, _, _, _, _, _, _, _, _, rfl, _⟩ := h; rfl) | (obtain ⟨_, _, _, _, _, _, _, _, _, _, _, _, _, _, _, _, _, _, _, _, rfl, _⟩ := h; rfl) | (obtain ⟨_, _, _, _, _, _, _, _, _, _, _, _, _, _, _, _, _, _, _, _, _, rfl, _⟩ := h; rfl)
  obtain ⟨a, dx, wl, F, L, rfl, hb, hl, hF, k⟩ := h
  refine ⟨_, PSs.nox (pss_cons (ps_if (pt_not (pt_val (pe_callC (ok_is_worths S) (hr.mono (by decide)) (by rfl) pass0 (pa_cons (pv 1) pa_nil)))) (pss_one ps_never) pss_nil)
      (pss_cons (ps_fldC (cls_Copied S) (na_Copied_wide S) (pv 0) (pe_callB (call_lenK (K := K) rfl) (by rfl) (fr_len S) bt_len (pa_cons (pv 1) pa_nil)))
      (pss_cons (ps_fldC (cls_Copied S) (na_Copied_grown S) (pv 0) (pe_makeC0 (ok_LeapTree S) (hr.mono (by decide)) (by rfl) pass0))
      (pss_cons (ps_fldC (cls_Copied S) (na_Copied_wrote S) (pv 0) (pe_lst (pa_cons pe_non pa_nil)))
      (pss_cons (ps_fldC (cls_Copied S) (na_Copied_gone S) (pv 0) (pe_lst (pa_cons pe_bl pa_nil)))
      (pss_cons (ps_fldC (cls_Copied S) (na_Copied_counted S) (pv 0) pe_int)
      (pss_one (ps_expr (pe_methC (pv 0) (ok_Copied_begin S) (hr.mono (by decide)) pass0 (pa_cons (pe_callTy (call_listK (K := K) rfl) (by rfl) (fr_list S) bt_list (pa_cons (pv 1) pa_nil)) pa_nil)))))))))), ?_⟩
  walk_at "hz.st"
  walk_at "hz.g"
  refine ⟨wl, F, _, rfl, hb, .next hl, hF, fun H1 h1 => ?_⟩
  walk_at "hz.g"
  rename_i H2 h2 t dx2 H3 h3
  refine ⟨t, dx2, _, rfl, h3, fun tb H4 hT h4 => ?_⟩
  walk_at "hz.g"
  rename_i H5 h5 wr H6 h6 H7 h7 gn H8 h8 H9 h9 H10 h10 wl2 H11 h11
  rw [List.length_map] at h11
  refine ⟨a, dx, wl2, t, wr, gn, F.length, 0, F, tb :: [(wr, .lst [.non])] :: [(gn, .lst [.bl false])] :: L, rfl, h11.sub_of (by walk_at "hz.sub"), hF, fun ef eb H12 hW h12 => ?_⟩
  have ek : ef.map (·.1) = (["halves", "roots"] : List Str) := by
    obtain ⟨hv, rt, kr, S2, ow, pb, root, rfl, rfl, hP, co⟩ := hW
    rfl
  refine k ef eb _ _ ⟨⟨hT.1, rfl, rfl, rfl, ⟨hF.1, hF.2.1⟩, hF.2.2, (fun p hp => by cases hp), (fun x hx => by cases hx)⟩, ek, dx, t, wr, gn, 0, tb, rfl, hT⟩ hW (row_close (M := M0 F) ?_)
  exact (show HB H12 ([(a, .ins (CC K) dx (rowF F.length t wr gn 0 ef))] :: [(wr, .lst [.non])] :: [(gn, .lst [.bl false])] :: tb :: eb :: L) from h12.sub_of (by walk_at "hz.sub"))

/-! D12: what parts two makes, class Copied -/
def sNRows_Copied (K : PySem.W.Frag) : Sp := fun vs H Q _ => ∃ (a : Addr) (M : Mdl) (ef : List (Str × V)) (eb b : Blk) (L : List Blk), vs = [.ref a] ∧ HB H (b :: L) ∧ Row (CT K) (He.ga K "Copied") ["halves", "roots"] a M ef eb b ∧ ∀ H', HB H' (b :: L) → Q .non H'
def sNMakes_Copied (K : PySem.W.Frag) : Sp := fun vs H Q _ => ∃ (a : Addr) (M : Mdl) (ef : List (Str × V)) (eb b : Blk) (m n : Nat) (L : List Blk), vs = [.ref a, .int m, .int n] ∧ HB H (b :: L) ∧ Row (CT K) (He.ga K "Copied") ["halves", "roots"] a M ef eb b ∧ M.kept m ∧ M.kept n ∧ ∀ H', HB H' (b :: L) → Q .non H'
theorem sc_need_rows : FnScope ["thing"] ["thing"] (defScope (top 35)) := ⟨rfl, rfl, rfl, by decide +kernel, rfl, by decide +kernel, by decide +kernel⟩
-- slots of need_rows: thing 0
theorem ok_need_rows_Copied (S : Sit P w K mg base) : CF P w K mg base CX0 "need_rows" ["thing"] 1 (sNRows_Copied K) := by
  refine cf_need_rows S fun f fd F => F.ok sc_need_rows (fun vs H Q E h => ?_) (fun cdv A outer s H vs Q E hr h => ?_)
  · first | (obtain ⟨_, rfl, _⟩ := h; rfl) | (obtain ⟨_, _, rfl, _⟩ := h; rfl) | (obtain ⟨_, _, _, rfl, _⟩ := h; rfl) | (obtain ⟨_, _, _, _, rfl, _⟩ := h; rfl) | (obtain ⟨_, _, _, _, _, rfl, _⟩ := h; rfl) | (obtain ⟨_, _, _, _, _, _, rfl, _⟩ := h; rfl) | (obtain ⟨_, _, _, _, _, _, _, rfl, _⟩ := h; rfl) | (obtain ⟨_, _, _, _, _, _, _, _, rfl, _⟩ := h; rfl) | (obtain ⟨_, _, _, _, _, _, _, _, _, rfl, _⟩ := h; rfl) | (obtain ⟨_, _, _, _, _, _, _, _, _, _, rfl, _⟩ := h; rfl) | (obtain ⟨_, _, _, _, _, _, _, _, _, _, _, rfl, _⟩ := h; rfl) | (obtain ⟨_, _, _, _, _, _, _, _, _, _, _, _, rfl, _⟩ := h; rfl) | (obtain ⟨_, _, _, _, _, _, _, _, _, _, _, _, _, rfl, _⟩ := h; rfl) | (obtain ⟨_, _, _, _, _, _, _, _, _, _, _, _, _, _, rfl, _⟩ := h; rfl) | (obtain ⟨_, _, _, _, _, _, _, _, _, _, _, _, _, _, _, rfl, _⟩ := h; rfl) | (obtain ⟨_, _, _, _, _, _, _, _, _, _, _, _, _, _, _, _, rfl, _⟩ := h; rfl) | (obtain ⟨_, _, _, _, _, _, _, _, _, _, _, _, _, _, _, _, _, rfl, _⟩ := h; rfl) | (obtain ⟨_, _, _, _, _, _, _, _, _, _, _, _, _, _, _, _, _, _, rfl, _⟩ := h; rfl) | (obtain ⟨_, _, _, _, _, _, _, _, _, _, _, _, _, _, _, _, _, _, _, rfl, _⟩ := h; rfl) | (obtain ⟨_, _, _, _, _, _, _, _, _, _, _, _, _, _, _, _, _, _, _, _, rfl, _⟩ := h; rfl) | (obtain ⟨_, _, _, _, _, _, _, _, _, _, _, _, _, _, _, _, _, _, _, _, _, rfl, _⟩ := h; rfl)
  obtain ⟨a, M, ef, eb, b, L, rfl, hb, hR, k⟩ := h
  obtain ⟨dx, fs, ea⟩ := row_ins hb hR List.mem_cons_self
  refine ⟨_, PSs.nox (pss_one (ps_if (pt_not (pt_val (pe_callB (call_isiK (K := K) rfl) (by rfl) (fr_isinstance S) bt_isinstance (pa_cons (pv 0) (pa_cons (pe_glob (v := .ref (He.ga K "Rows")) rfl (gl_Rows S) rfl) pa_nil))))) (pss_one ps_never) pss_nil)), ?_⟩
  walk_at "hz.st"
  walk_at "hz.g"
  refine r_isIns (x := "Copied") (y := "Rows") ea (ki_Copied_Rows S) (cls_Copied S) ?_
  walk_at "hz.g"
  exact k _ hb
theorem sc_need_makes : FnScope ["rows", "one", "other", "kept", "make"] ["rows", "one", "other"] (defScope (top 36)) := ⟨rfl, rfl, rfl, by decide +kernel, rfl, by decide +kernel, by decide +kernel⟩
-- slots of need_makes: rows 0, one 1, other 2, kept 3, make 4
theorem ok_need_makes_Copied (S : Sit P w K mg base) : CF P w K mg base CX0 "need_makes" ["rows", "one", "other"] 5 (sNMakes_Copied K) := by
  refine cf_need_makes S fun f fd F => F.ok sc_need_makes (fun vs H Q E h => ?_) (fun cdv A outer s H vs Q E hr h => ?_)
  · first | (obtain ⟨_, rfl, _⟩ := h; rfl) | (obtain ⟨_, _, rfl, _⟩ := h; rfl) | (obtain ⟨_, _, _, rfl, _⟩ := h; rfl) | (obtain ⟨_, _, _, _, rfl, _⟩ := h; rfl) | (obtain ⟨_, _, _, _, _, rfl, _⟩ := h; rfl) | (obtain ⟨_, _, _, _, _, _, rfl, _⟩ := h; rfl) | (obtain ⟨_, _, _, _, _, _, _, rfl, _⟩ := h; rfl) | (obtain ⟨_, _, _, _, _, _, _, _, rfl, _⟩ := h; rfl) | (obtain ⟨_, _, _, _, _, _, _, _, _, rfl, _⟩ := h; rfl) | (obtain ⟨_, _, _, _, _, _, _, _, _, _, rfl, _⟩ := h; rfl) | (obtain ⟨_, _, _, _, _, _, _, _, _, _, _, rfl, _⟩ := h; rfl) | (obtain ⟨_, _, _, _, _, _, _, _, _, _, _, _, rfl, _⟩ := h; rfl) | (obtain ⟨_, _, _, _, _, _, _, _, _, _, _, _, _, rfl, _⟩ := h; rfl) | (obtain ⟨_, _, _, _, _, _, _, _, _, _, _, _, _, _, rfl, _⟩ := h; rfl) | (obtain ⟨_, _, _, _, _, _, _, _, _, _, _, _, _, _, _, rfl, _⟩ := h; rfl) | (obtain ⟨_, _, _, _, _, _, _, _, _, _, _, _, _, _, _, _, rfl, _⟩ := h; rfl) | (obtain ⟨_, _, _, _, _, _, _, _, _, _, _, _, _, _, _, _, _, rfl, _⟩ := h; rfl) | (obtain ⟨_, _, _, _, _, _, _, _, _, _, _, _, _, _, _, _, _, _, rfl, _⟩ := h; rfl) | (obtain ⟨_, _, _, _, _, _, _, _, _, _, _, _, _, _, _, _, _, _, _, rfl, _⟩ := h; rfl) | (obtain ⟨_, _, _, _, _, _, _, _, _, _, _, _, _, _, _, _, _, _, _, _, rfl, _⟩ := h; rfl) | (obtain ⟨_, _, _, _, _, _, _, _, _, _, _, _, _, _, _, _, _, _, _, _, _, rfl, _⟩ := h; rfl)
  obtain ⟨a, M, ef, eb, b, m, n, L, rfl, hb, hR, hm, hn, k⟩ := h
  refine ⟨_, PSs.nox (pss_cons (ps_set (i := 3) sc_need_makes.nd rfl (Or.inl rfl) (pe_methC0 (pv 0) (ok_Copied_makes S) (hr.mono (by decide)) pass0))
      (pss_one (ps_for PassesOwn.never rfl (pi_list (pe_lst (pa_cons (pv 1) (pa_cons (pv 2) pa_nil)))) (pg_name (i := 4) sc_need_makes.nd rfl (Or.inl rfl)) (pss_one (ps_if (PW.pt (pw_or (pt_not (pt_val (pe_callC (ok_is_whole S) (hr.mono (by decide)) (by rfl) pass0 (pa_cons (pv 4) (pa_cons pe_int (pa_cons (pe_op op_sub (pe_methC0 (pv 0) (ok_Copied_many S) (hr.mono (by decide)) pass0) pe_int) pa_nil)))))) (pw_or1 (pt_cmpR (op_notIn_seqK (K := K) rfl) (pv 4) (pv 3) rfl)))) (pss_one ps_never) pss_nil))))), ?_⟩
  walk_at "hz.st"
  walk_at "hz.g"
  refine ⟨a, M, ef, eb, b, L, rfl, hb, hR, fun p H1 h1 => ?_⟩
  walk_at "hz.g"
  rename_i q H2 h2
  refine for_w (walk_iv (xs := [m, n])) (fun i σ H => ∃ z, σ = [some (.ref a), some (.int m), some (.int n), some (.ref p), z] ∧ HB H ([(q, .lst (iv [m, n]))] :: [(p, .lst (iv M.keptL))] :: b :: L)) ⟨_, rfl, h2⟩ (fun i σ H hi h => ?_) (fun i x σ H H' hi h y => ?_) (fun σ H h => ?_)
  · obtain ⟨z, rfl, h⟩ := h
    exact SqL.of (h.at (by walk_at "hz.at"))
  · obtain ⟨z, rfl, h⟩ := h
    obtain ⟨rfl, y, hy, rfl⟩ := y
    have hyk : M.kept y := by
      rcases List.mem_cons.mp (List.mem_of_getElem? hy) with c | c
      · rw [c]; exact hm
      · rw [List.mem_singleton.mp c]; exact hn
    have hyl := hR.1.le hyk
    walk_at "hz.g"
    refine ⟨a, M, ef, eb, b, _, rfl, h.sub_of (Ts := b :: [(q, .lst (iv [m, n]))] :: [(p, .lst (iv M.keptL))] :: L) (by walk_at "hz.sub"), hR, fun H3 h3 => ?_⟩
    walk_at "hz.g"
    refine r_whole (by omega) ?_
    walk_at "hz.g"
    refine r_no (by simp [(keptL_mem hR.1).mpr hyk]) ?_
    walk_at "hz.g"
    exact ⟨_, rfl, h3.sub_of (by walk_at "hz.sub")⟩
  · obtain ⟨z, rfl, h⟩ := h
    walk_at "hz.g"
    exact k _ (h.sub_of (by walk_at "hz.sub"))
def sTouched_Copied (K : PySem.W.Frag) : Sp := fun vs H Q _ => ∃ (a : Addr) (M : Mdl) (ef : List (Str × V)) (eb b : Blk) (m n : Nat) (L : List Blk), vs = [.ref a, .int m, .int n] ∧ HB H (b :: L) ∧ Row (CT K) (He.ga K "Copied") ["halves", "roots"] a M ef eb b ∧ M.kept m ∧ M.kept n ∧
  ∀ (ns : List Int) p H', ns.Pairwise (· < ·) → (∀ k : Int, k ∈ ns ↔ ∃ y ∈ wayN M.T m n, k = (wsv M.W y : Nat)) → HB H' ([(p, .lst (ns.map V.int))] :: b :: L) → Q (.ref p) H'
theorem sc_touched : FnScope ["rows", "one", "other", "tree", "nearest", "make"] ["rows", "one", "other"] (defScope (top 37)) := ⟨rfl, rfl, rfl, by decide +kernel, rfl, by decide +kernel, by decide +kernel⟩
-- slots of touched: rows 0, one 1, other 2, tree 3, nearest 4, make 5
theorem ok_touched_Copied (S : Sit P w K mg base) : CF P w K mg base CX0 "touched" ["rows", "one", "other"] 9 (sTouched_Copied K) := by
  refine cf_touched S fun f fd F => F.ok sc_touched (fun vs H Q E h => ?_) (fun cdv A outer s H vs Q E hr h => ?_)
  · first | (obtain ⟨_, rfl, _⟩ := h; rfl) | (obtain ⟨_, _, rfl, _⟩ := h; rfl) | (obtain ⟨_, _, _, rfl, _⟩ := h; rfl) | (obtain ⟨_, _, _, _, rfl, _⟩ := h; rfl) | (obtain ⟨_, _, _, _, _, rfl, _⟩ := h; rfl) | (obtain ⟨_, _, _, _, _, _, rfl, _⟩ := h; rfl) | (obtain ⟨_, _, _, _, _, _, _, rfl, _⟩ := h; rfl) | (obtain ⟨_, _, _, _, _, _, _, _, rfl, _⟩ := h; rfl) | (obtain ⟨_, _, _, _, _, _, _, _, _, rfl, _⟩ := h; rfl) | (obtain ⟨_, _, _, _, _, _, _, _, _, _, rfl, _⟩ := h; rfl) | (obtain ⟨_, _, _, _, _, _, _, _, _, _, _, rfl, _⟩ := h; rfl) | (obtain ⟨_, _, _, _, _, _, _, _, _, _, _, _, rfl, _⟩ := h; rfl) | (obtain ⟨_, _, _, _, _, _, _, _, _, _, _, _, _, rfl, _⟩ := h; rfl) | (obtain ⟨_, _, _, _, _, _, _, _, _, _, _, _, _, _, rfl, _⟩ := h; rfl) | (obtain ⟨_, _, _, _, _, _, _, _, _, _, _, _, _, _, _, rfl, _⟩ := h; rfl) | (obtain ⟨_, _, _, _, _, _, _, _, _, _, _, _, _, _, _, _, rfl, _⟩ := h; rfl) | (obtain ⟨_, _, _, _, _, _, _, _, _, _, _, _, _, _, _, _, _, rfl, _⟩ := h; rfl) | (obtain ⟨_, _, _, _, _, _, _, _, _, _, _, _, _, _, _, _, _, _, rfl, _⟩ := h; rfl) | (obtain ⟨_, _, _, _, _, _, _, _, _, _, _, _, _, _, _, _, _, _, _, rfl, _⟩ := h; rfl) | (obtain ⟨_, _, _, _, _, _, _, _, _, _, _, _, _, _, _, _, _, _, _, _, rfl, _⟩ := h; rfl) | (obtain ⟨_, _, _, _, _, _, _, _, _, _, _, _, _, _, _, _, _, _, _, _, _, rfl, _⟩ := h; rfl)
  obtain ⟨a, M, ef, eb, b, m, n, L, rfl, hb, hR, hm, hn, k⟩ := h
  have ok := hR.1
  have hml := ok.le hm
  have hnl := ok.le hn
  have tl := ok.t.le
  refine ⟨_, PSs.nox (pss_cons (ps_expr (pe_callC (ok_need_rows_Copied S) (hr.mono (by decide)) (by rfl) pass0 (pa_cons (pv 0) pa_nil)))
      (pss_cons (ps_expr (pe_callC (ok_need_makes_Copied S) (hr.mono (by decide)) (by rfl) pass0 (pa_cons (pv 0) (pa_cons (pv 1) (pa_cons (pv 2) pa_nil)))))
      (pss_cons (ps_set (i := 3) sc_touched.nd rfl (Or.inl rfl) (pe_methC0 (pv 0) (ok_Copied_tree S) (hr.mono (by decide)) pass0))
      (pss_cons (ps_set (i := 4) sc_touched.nd rfl (Or.inr rfl) (pe_methC (pv 3) (ok_LeapTree_nearest S) (hr.mono (by decide)) pass0 (pa_cons (pv 1) (pa_cons (pv 2) pa_nil))))
      (pss_one (ps_ret (pe_callB (cr_sortedSet rfl) (by rfl) (fr_sorted S) bt_sorted (pa_cons (pe_callTy (call_setL (K := K) rfl rfl) (by rfl) (fr_set S) bt_set (pa_cons (pe_lc (own := [("make", 5)]) rfl sc_touched.nd (pi_list (pe_methC (pv 3) (ok_LeapTree_way S) (hr.mono (by decide)) pass0 (pa_cons (pv 1) (pa_cons (pv 2) pa_nil)))) (blkOk_by (N := ["rows", "one", "other", "tree", "nearest", "make"]) (by kernel_rfl)) (fun _ _ _ _ _ => (pg_name (i := 5) sc_touched.nd rfl (Or.inl rfl))) (fun _ _ _ _ _ => (pts_one (pt_cmpR op_ne (pv 5) (pv 4) (nomark _)))) (fun _ _ _ _ _ => (pe_methC (pv 0) (ok_Copied_place_of S) (hr.mono (by decide)) pass0 (pa_cons (pv 5) pa_nil)))) pa_nil)) pa_nil)))))))), ?_⟩
  walk_at "hz.st"
  walk_at "hz.g"
  refine ⟨a, M, ef, eb, b, L, rfl, hb, hR, fun H1 h1 => ?_⟩
  walk_at "hz.g"
  refine ⟨a, M, ef, eb, b, m, n, L, rfl, h1, hR, hm, hn, fun H2 h2 => ?_⟩
  walk_at "hz.g"
  refine ⟨a, M, ef, eb, b, L, rfl, h2, hR, fun t2 c2 H3 hT h3 => ?_⟩
  walk_at "hz.g"
  refine ⟨t2, M.T, c2, m, n, _, rfl, h3, hT, hml, hnl, fun H4 h4 => ?_⟩
  walk_at "hz.g"
  refine ⟨t2, M.T, c2, m, n, _, rfl, h4, hT, hml, hnl, fun wp H5 h5 => ?_⟩
  walk_at "hz.g"
  have wl := wayT_len (T := M.T) (m := m) (n := n)
  refine lc_w (walk_iv (xs := wayT M.T m n)) h5 (fun i D H => HB H ([(D, .lst (iv ((((wayT M.T m n).take i).filter fun y => decide (y ≠ lca M.T m n)).map (wsv M.W))))] :: [(wp, .lst (iv (wayT M.T m n)))] :: c2 :: b :: L)) (fun D H h => h) (fun i D H _ h => SqL.of (h.at (by walk_at "hz.at"))) (fun i v D H H' hi h y => ?_) (fun D H h => ?_)
  · obtain ⟨rfl, y, hy, rfl⟩ := y
    have hyw := List.mem_of_getElem? hy
    have hyl := way_le hyw hml hnl
    have et : ((wayT M.T m n).take (i + 1)).filter (fun y => decide (y ≠ lca M.T m n)) = ((wayT M.T m n).take i).filter (fun y => decide (y ≠ lca M.T m n)) ++ (if y ≠ lca M.T m n then [y] else []) := by
      rw [List.take_add_one, hy, List.filter_append]
      congr 1
      by_cases c : y ≠ lca M.T m n
      · simp [c]
      · simp [c]
    walk_at "hz.g"
    by_cases c : y = lca M.T m n
    · rw [if_neg (by simpa using c), List.append_nil] at et
      refine r_no (by simp [c]) ?_
      rw [et]
      exact h
    · rw [if_pos c] at et
      refine r_yes (by simp; omega) ?_
      walk_at "hz.g"
      refine ⟨a, M, ef, eb, b, y, _, rfl, h.sub_of (Ts := b :: [(D, .lst (iv ((((wayT M.T m n).take i).filter fun y => decide (y ≠ lca M.T m n)).map (wsv M.W))))] :: [(wp, .lst (iv (wayT M.T m n)))] :: c2 :: L) (by walk_at "hz.sub"), hR, hyl, fun H6 h6 => ?_⟩
      rw [wv_pos (wayN_pos hyw c)]
      have fl : (((wayT M.T m n).take i).filter fun y => decide (y ≠ lca M.T m n)).length ≤ 200 := by
        have := List.length_filter_le (fun y => decide (y ≠ lca M.T m n)) ((wayT M.T m n).take i)
        have := List.length_take_le i (wayT M.T m n)
        omega
      refine lc_put h6 (.next .here) (by rw [iv_len, List.length_map]; exact sz100' (by omega)) fun H7 h7 => ?_
      rw [et, List.map_append, iv_append, show iv ([y].map (wsv M.W)) = [.int (wsv M.W y : Nat)] from rfl]
      exact h7.sub_of (by walk_at "hz.sub")
  · rw [List.take_length] at h
    walk_at "hz.g"
    rw [iv_ints] at h
    have fl : ((wayT M.T m n).filter fun y => decide (y ≠ lca M.T m n)).length ≤ 200 := by
      have := List.length_filter_le (fun y => decide (y ≠ lca M.T m n)) (wayT M.T m n)
      omega
    refine r_setL (.of (h.at (by walk_at "hz.at"))) (by simp only [List.length_map]; omega) h fun q c3 H6 hc h6 => ?_
    walk_at "hz.g"
    have few : c3 ≤ 16 := by
      have := hc ((List.range M.F.length).map fun (i : Nat) => (i : Int)) fun x hx => by
        simp only [List.mem_map] at hx ⊢
        obtain ⟨z, ⟨y, hy, rfl⟩, rfl⟩ := hx
        obtain ⟨hy1, hy2⟩ := List.mem_filter.mp hy
        have y0 := wayN_pos hy1 (of_decide_eq_true hy2)
        have y1 := way_le hy1 hml hnl
        refine ⟨_, List.mem_range.mpr (ok.wp _ ?_), rfl⟩
        have := ok.w
        unfold wsv
        rw [List.getD_eq_getElem?_getD, List.getElem?_eq_getElem (by omega)]
        exact List.getElem_mem _
      rw [List.length_map, List.length_range] at this
      have := ok.f.2
      omega
    refine r_sortedSet (h6.at .here) (by omega) h6 fun ns p2 H7 pw hmem h7 => ?_
    refine k ns p2 _ pw (fun x => ?_) (h7.sub_of (by walk_at "hz.sub"))
    rw [hmem, decide_eq_true_eq]
    simp only [List.mem_map]
    constructor
    · rintro ⟨z, ⟨y, hy, rfl⟩, rfl⟩
      exact ⟨y, hy, rfl⟩
    · rintro ⟨y, hy, rfl⟩
      exact ⟨_, ⟨y, hy, rfl⟩, rfl⟩

/-! D13: unlike places, class Copied -/
def sUnlike_Copied (K : PySem.W.Frag) : Sp := fun vs H Q _ => ∃ (a : Addr) (M : Mdl) (ef : List (Str × V)) (eb b : Blk) (m n : Nat) (L : List Blk), vs = [.ref a, .int m, .int n] ∧ HB H (b :: L) ∧ Row (CT K) (He.ga K "Copied") ["halves", "roots"] a M ef eb b ∧ WP_Copied K M ef eb ∧ M.kept m ∧ M.kept n ∧
  ∀ p g ef' eb' b' H', Row (CT K) (He.ga K "Copied") ["halves", "roots"] a M ef' eb' b' → WP_Copied K M ef' eb' → HB H' ([(p, .lst (rm (M.due m n).length (lv g)))] :: rc (M.due m n).length g (chO (M.due m n)) :: b' :: L) → Q (.ref p) H'
def dpre (M : Mdl) (m n : Nat) (ns : List Int) : List (Nat × Int × Int) := (ns.filter fun k => decide (M.val m k.toNat ≠ M.val n k.toNat)).map fun k => (k.toNat, M.val m k.toNat, M.val n k.toNat)
theorem sc_unlike_places : FnScope ["rows", "one", "other", "changes", "place", "before", "behind"] ["rows", "one", "other"] (defScope (top 38)) := ⟨rfl, rfl, rfl, by decide +kernel, rfl, by decide +kernel, by decide +kernel⟩
-- slots of unlike_places: rows 0, one 1, other 2, changes 3, place 4, before 5, behind 6
theorem ok_unlike_places_Copied (S : Sit P w K mg base) : CF P w K mg base CX0 "unlike_places" ["rows", "one", "other"] 51 (sUnlike_Copied K) := by
  refine cf_unlike_places S fun f fd F => F.ok sc_unlike_places (fun vs H Q E h => ?_) (fun cdv A outer s H vs Q E hr h => ?_)
  · first | (obtain ⟨_, rfl, _⟩ := h; rfl) | (obtain ⟨_, _, rfl, _⟩ := h; rfl) | (obtain ⟨_, _, _, rfl, _⟩ := h; rfl) | (obtain ⟨_, _, _, _, rfl, _⟩ := h; rfl) | (obtain ⟨_, _, _, _, _, rfl, _⟩ := h; rfl) | (obtain ⟨_, _, _, _, _, _, rfl, _⟩ := h; rfl) | (obtain ⟨_, _, _, _, _, _, _, rfl, _⟩ := h; rfl) | (obtain ⟨_, _, _, _, _, _, _, _, rfl, _⟩ := h; rfl) | (obtain ⟨_, _, _, _, _, _, _, _, _, rfl, _⟩ := h; rfl) | (obtain ⟨_, _, _, _, _, _, _, _, _, _, rfl, _⟩ := h; rfl) | (obtain ⟨_, _, _, _, _, _, _, _, _, _, _, rfl, _⟩ := h; rfl) | (obtain ⟨_, _, _, _, _, _, _, _, _, _, _, _, rfl, _⟩ := h; rfl) | (obtain ⟨_, _, _, _, _, _, _, _, _, _, _, _, _, rfl, _⟩ := h; rfl) | (obtain ⟨_, _, _, _, _, _, _, _, _, _, _, _, _, _, rfl, _⟩ := h; rfl) | (obtain ⟨_, _, _, _, _, _, _, _, _, _, _, _, _, _, _, rfl, _⟩ := h; rfl) | (obtain ⟨_, _, _, _, _, _, _, _, _, _, _, _, _, _, _, _, rfl, _⟩ := h; rfl) | (obtain ⟨_, _, _, _, _, _, _, _, _, _, _, _, _, _, _, _, _, rfl, _⟩ := h; rfl) | (obtain ⟨_, _, _, _, _, _, _, _, _, _, _, _, _, _, _, _, _, _, rfl, _⟩ := h; rfl) | (obtain ⟨_, _, _, _, _, _, _, _, _, _, _, _, _, _, _, _, _, _, _, rfl, _⟩ := h; rfl) | (obtain ⟨_, _, _, _, _, _, _, _, _, _, _, _, _, _, _, _, _, _, _, _, rfl, _⟩ := h; rfl) | (obtain ⟨_, _, _, _, _, _, _, _, _, _, _, _, _, _, _, _, _, _, _, _, _, rfl, _⟩ := h; rfl)
  obtain ⟨a, M, ef, eb, b, m, n, L, rfl, hb, hR, hW, hm, hn, k⟩ := h
  have ok := hR.1
  have hml := ok.le hm
  have hnl := ok.le hn
  refine ⟨_, PSs.nox (pss_cons (ps_set (i := 3) sc_unlike_places.nd rfl (Or.inl rfl) (pe_lst pa_nil))
      (pss_cons (ps_for PassesOwn.never rfl (pi_list (pe_callC (ok_touched_Copied S) (hr.mono (by decide)) (by rfl) pass0 (pa_cons (pv 0) (pa_cons (pv 1) (pa_cons (pv 2) pa_nil))))) (pg_name (i := 4) sc_unlike_places.nd rfl (Or.inl rfl)) (pss_cons (ps_set (i := 5) sc_unlike_places.nd rfl (Or.inl rfl) (pe_methC (pv 0) (ok_Copied_at S) (hr.mono (by decide)) pass0 (pa_cons (pv 1) (pa_cons (pv 4) pa_nil))))
      (pss_cons (ps_set (i := 6) sc_unlike_places.nd rfl (Or.inl rfl) (pe_methC (pv 0) (ok_Copied_at S) (hr.mono (by decide)) pass0 (pa_cons (pv 2) (pa_cons (pv 4) pa_nil))))
      (pss_one (ps_if (pt_cmpR op_ne (pv 5) (pv 6) (nomark _)) (pss_one (ps_expr (pe_bm PySem.F.plainAttrs_list PySem.F.slot_list_append PySem.F.type_list_append mt_append (pv 3) (pa_cons (pe_tup (pa_cons (pv 4) (pa_cons (pv 5) (pa_cons (pv 6) pa_nil)))) pa_nil)))) pss_nil)))))
      (pss_one (ps_ret (pv 3))))), ?_⟩
  walk_at "hz.st"
  walk_at "hz.g"
  rename_i D H1 h1
  refine ⟨a, M, ef, eb, b, m, n, _, rfl, h1.sub_of (Ts := b :: [(D, .lst [])] :: L) (by walk_at "hz.sub"), hR, hm, hn, fun ns tp H2 pw mem h2 => ?_⟩
  walk_at "hz.g"
  have nl : ns.length ≤ 16 := by
    have z1 := few_ofN (B := (List.range M.F.length).map fun (i : Nat) => (i : Int)) (List.nodup_iff_pairwise_ne.mpr (pw.imp fun hab => by omega)) fun x hx => by
      obtain ⟨yy, y1, y2⟩ := (mem x).mp hx
      obtain ⟨y3, y4⟩ := List.mem_filter.mp y1
      rw [y2]
      exact List.mem_map.mpr ⟨_, List.mem_range.mpr (wsv_lt ok (wayN_pos y3 (of_decide_eq_true y4)) (way_le y3 hml hnl)), rfl⟩
    rw [List.length_map, List.length_range] at z1
    have := ok.f.2
    omega
  refine for_w (walk_list (xs := ns.map V.int)) (fun i σ H => ∃ (g : Nat → Addr) (ef' : List (Str × V)) (eb' b' : Blk) (z4 z5 z6 : Option V), σ = [some (.ref a), some (.int m), some (.int n), some (.ref D), z4, z5, z6] ∧ Row (CT K) (He.ga K "Copied") ["halves", "roots"] a M ef' eb' b' ∧ WP_Copied K M ef' eb' ∧
    HB H ([(D, .lst (rm (dpre M m n (ns.take i)).length (lv g)))] :: rc (dpre M m n (ns.take i)).length g (chO (dpre M m n (ns.take i))) :: [(tp, .lst (ns.map V.int))] :: b' :: L)) ?_ (fun i σ H hi h => ?_) (fun i x σ H H' hi h y => ?_) (fun σ H h => ?_)
  · exact ⟨fun _ => 0, ef, eb, b, _, _, _, rfl, hR, hW, HB.rm0 (h2.sub_of (by walk_at "hz.sub"))⟩
  · obtain ⟨g, ef', eb', b', z4, z5, z6, rfl, _, _, h⟩ := h
    exact SqL.of (h.at (by walk_at "hz.at"))
  · obtain ⟨g, ef', eb', b', z4, z5, z6, rfl, hR', hW', h⟩ := h
    obtain ⟨rfl, hx⟩ := y
    rw [List.getElem?_map] at hx
    cases ek : ns[i]? with
    | none => rw [ek] at hx; cases hx
    | some kk =>
      rw [ek] at hx
      cases hx
      obtain ⟨yy, y1, y2⟩ := (mem kk).mp (List.mem_of_getElem? ek)
      obtain ⟨y3, y4⟩ := List.mem_filter.mp y1
      have pl := wsv_lt ok (wayN_pos y3 (of_decide_eq_true y4)) (way_le y3 hml hnl)
      generalize wsv M.W yy = p at y2 pl
      subst y2
      have ed : dpre M m n (ns.take (i + 1)) = dpre M m n (ns.take i) ++ (if M.val m p ≠ M.val n p then [(p, M.val m p, M.val n p)] else []) := by
        unfold dpre
        rw [List.take_add_one, ek, List.filter_append, List.map_append]
        congr 1
        by_cases c : M.val m p ≠ M.val n p
        · simp [c]
        · simp at c
          simp [c]
      walk_at "hz.g"
      refine ⟨a, M, ef', eb', b', m, p, _, rfl, h.sub_of (Ts := b' :: [(D, .lst (rm (dpre M m n (ns.take i)).length (lv g)))] :: rc (dpre M m n (ns.take i)).length g (chO (dpre M m n (ns.take i))) :: [(tp, .lst (ns.map V.int))] :: L) (by walk_at "hz.sub"), hR', hW', hm, pl, fun ef2 eb2 b2 H3 hR2 hW2 h3 => ?_⟩
      walk_at "hz.g"
      refine ⟨a, M, ef2, eb2, b2, n, p, _, rfl, h3, hR2, hW2, hn, pl, fun ef3 eb3 b3 H4 hR3 hW3 h4 => ?_⟩
      walk_at "hz.g"
      by_cases c : M.val m p = M.val n p
      · rw [if_neg (fun z => z c), List.append_nil] at ed
        refine r_no (by simp [c]) ?_
        walk_at "hz.g"
        rw [ed]
        exact ⟨g, ef3, eb3, b3, _, _, _, rfl, hR3, hW3, h4.sub_of (by walk_at "hz.sub")⟩
      · rw [if_pos c] at ed
        refine r_yes (by simp [c]) ?_
        have dl : (dpre M m n (ns.take i)).length ≤ 16 := by
          unfold dpre
          rw [List.length_map]
          have z1 := List.length_filter_le (fun k => decide (M.val m k.toNat ≠ M.val n k.toNat)) (ns.take i)
          have z2 := List.length_take_le' i ns
          omega
        walk_at "hz.g"
        · rw [rm_len]; exact sz100' (by omega)
        intro H6 h6
        walk_at "hz.g"
        rename_i q H5 h5
        rw [lv_snoc] at h6
        have ln : (dpre M m n (ns.take (i + 1))).length = (dpre M m n (ns.take i)).length + 1 := by rw [ed, List.length_append]; rfl
        have h7 : HB H6 ([(q, .tup [.int (p : Nat), .int (M.val m p), .int (M.val n p)])] :: rc (dpre M m n (ns.take i)).length g (chO (dpre M m n (ns.take i))) :: [(D, .lst (rm ((dpre M m n (ns.take i)).length + 1) (lv (fset g (dpre M m n (ns.take i)).length q))))] :: [(tp, .lst (ns.map V.int))] :: b3 :: L) := h6.sub_of (by walk_at "hz.sub")
        have h8 := h7.rc_new (o' := chO (dpre M m n (ns.take (i + 1)))) (fun j hj => by
          show HO.tup _ = HO.tup _
          rw [ed, List.getD_eq_getElem?_getD, List.getD_eq_getElem?_getD, List.getElem?_append_left hj]) (by
          show HO.tup _ = HO.tup _
          rw [ed, List.getD_eq_getElem?_getD, List.getElem?_append_right (Nat.le_refl _), Nat.sub_self]
          rfl)
        refine ⟨fset g (dpre M m n (ns.take i)).length q, ef3, eb3, b3, _, _, _, rfl, hR3, hW3, ?_⟩
        rw [ln]
        exact h8.sub_of (by walk_at "hz.sub")
  · obtain ⟨g, ef', eb', b', z4, z5, z6, rfl, hR', hW', h⟩ := h
    rw [List.length_map, List.take_length] at h
    have e : dpre M m n ns = M.due m n := by
      unfold dpre Mdl.due
      rw [uneq_of ok hml hnl pw mem, List.map_map]
      exact List.map_congr_left fun p _ => rfl
    rw [e] at h
    walk_at "hz.g"
    exact k D g ef' eb' b' _ hR' hW' (h.sub_of (by walk_at "hz.sub"))

/-! D14: what parts two makes, class Copied -/
def sParted_Copied (K : PySem.W.Frag) : Sp := fun vs H Q _ => ∃ (a : Addr) (M : Mdl) (ef : List (Str × V)) (eb b : Blk) (m n : Nat) (L : List Blk), vs = [.ref a, .int m, .int n] ∧ HB H (b :: L) ∧ Row (CT K) (He.ga K "Copied") ["halves", "roots"] a M ef eb b ∧ WP_Copied K M ef eb ∧ M.kept m ∧ M.kept n ∧
  ∀ t p g ef' eb' b' H', Row (CT K) (He.ga K "Copied") ["halves", "roots"] a M ef' eb' b' → WP_Copied K M ef' eb' → HB H' ([(t, .tup [.int (lca M.T m n : Nat), .ref p])] :: [(p, .lst (rm (M.due m n).length (lv g)))] :: rc (M.due m n).length g (chO (M.due m n)) :: b' :: L) → Q (.ref t) H'
theorem sc_parted : FnScope ["rows", "one", "other", "changes"] ["rows", "one", "other"] (defScope (top 39)) := ⟨rfl, rfl, rfl, by decide +kernel, rfl, by decide +kernel, by decide +kernel⟩
-- slots of parted: rows 0, one 1, other 2, changes 3
theorem ok_parted_Copied (S : Sit P w K mg base) : CF P w K mg base CX0 "parted" ["rows", "one", "other"] 55 (sParted_Copied K) := by
  refine cf_parted S fun f fd F => F.ok sc_parted (fun vs H Q E h => ?_) (fun cdv A outer s H vs Q E hr h => ?_)
  · first | (obtain ⟨_, rfl, _⟩ := h; rfl) | (obtain ⟨_, _, rfl, _⟩ := h; rfl) | (obtain ⟨_, _, _, rfl, _⟩ := h; rfl) | (obtain ⟨_, _, _, _, rfl, _⟩ := h; rfl) | (obtain ⟨_, _, _, _, _, rfl, _⟩ := h; rfl) | (obtain ⟨_, _, _, _, _, _, rfl, _⟩ := h; rfl) | (obtain ⟨_, _, _, _, _, _, _, rfl, _⟩ := h; rfl) | (obtain ⟨_, _, _, _, _, _, _, _, rfl, _⟩ := h; rfl) | (obtain ⟨_, _, _, _, _, _, _, _, _, rfl, _⟩ := h; rfl) | (obtain ⟨_, _, _, _, _, _, _, _, _, _, rfl, _⟩ := h; rfl) | (obtain ⟨_, _, _, _, _, _, _, _, _, _, _, rfl, _⟩ := h; rfl) | (obtain ⟨_, _, _, _, _, _, _, _, _, _, _, _, rfl, _⟩ := h; rfl) | (obtain ⟨_, _, _, _, _, _, _, _, _, _, _, _, _, rfl, _⟩ := h; rfl) | (obtain ⟨_, _, _, _, _, _, _, _, _, _, _, _, _, _, rfl, _⟩ := h; rfl) | (obtain ⟨_, _, _, _, _, _, _, _, _, _, _, _, _, _, _, rfl, _⟩ := h; rfl) | (obtain ⟨_, _, _, _, _, _, _, _, _, _, _, _, _, _, _, _, rfl, _⟩ := h; rfl) | (obtain ⟨_, _, _, _, _, _, _, _, _, _, _, _, _, _, _, _, _, rfl, _⟩ := h; rfl) | (obtain ⟨_, _, _, _, _, _, _, _, _, _, _, _, _, _, _, _, _, _, rfl, _⟩ := h; rfl) | (obtain ⟨_, _, _, _, _, _, _, _, _, _, _, _, _, _, _, _, _, _, _, rfl, _⟩ := h; rfl) | (obtain ⟨_, _, _, _, _, _, _, _, _, _, _, _, _, _, _, _, _, _, _, _, rfl, _⟩ := h; rfl) | (obtain ⟨_, _, _, _, _, _, _, _, _, _, _, _, _, _, _, _, _, _, _, _, _, rfl, _⟩ := h; rfl)
  obtain ⟨a, M, ef, eb, b, m, n, L, rfl, hb, hR, hW, hm, hn, k⟩ := h
  have ok := hR.1
  refine ⟨_, PSs.nox (pss_cons (ps_set (i := 3) sc_parted.nd rfl (Or.inl rfl) (pe_callC (ok_unlike_places_Copied S) (hr.mono (by decide)) (by rfl) pass0 (pa_cons (pv 0) (pa_cons (pv 1) (pa_cons (pv 2) pa_nil)))))
      (pss_one (ps_ret (pe_tup (pa_cons (pe_methC (pe_methC0 (pv 0) (ok_Copied_tree S) (hr.mono (by decide)) pass0) (ok_LeapTree_nearest S) (hr.mono (by decide)) pass0 (pa_cons (pv 1) (pa_cons (pv 2) pa_nil))) (pa_cons (pv 3) pa_nil)))))), ?_⟩
  walk_at "hz.st"
  walk_at "hz.g"
  refine ⟨a, M, ef, eb, b, m, n, L, rfl, hb, hR, hW, hm, hn, fun p g ef' eb' b' H1 hR1 hW1 h1 => ?_⟩
  walk_at "hz.g"
  refine ⟨a, M, ef', eb', b', _, rfl, h1.sub_of (Ts := b' :: [(p, .lst (rm (M.due m n).length (lv g)))] :: rc (M.due m n).length g (chO (M.due m n)) :: L) (by walk_at "hz.sub"), hR1, fun t2 c2 H2 hT h2 => ?_⟩
  walk_at "hz.g"
  refine ⟨t2, M.T, c2, m, n, _, rfl, h2, hT, ok.le hm, ok.le hn, fun H3 h3 => ?_⟩
  walk_at "hz.g"
  rename_i t H4 h4
  exact k t p g _ _ _ _ hR1 hW1 (h4.sub_of (by walk_at "hz.sub"))

/-! D15: by parts -/
def sHPairs : Sp := fun vs H Q _ => ∃ (s t : Addr) (a b l r a' b' l' r' : Nat) (Bs : List Blk), vs = [.ref s, .ref t] ∧ HB H Bs ∧ H s = some (.tup (descV (.fork a b l r))) ∧ H t = some (.tup (descV (.fork a' b' l' r'))) ∧
  ∀ p q1 q2 H', HB H' ([(p, .lst [.ref q1, .ref q2])] :: [(q2, .tup [.int (l : Nat), .int (l' : Nat)])] :: [(q1, .tup [.int (r : Nat), .int (r' : Nat)])] :: Bs) → Q (.ref p) H'
theorem sc_halves_pairs : FnScope ["one", "other"] ["one", "other"] (defScope (top 40)) := ⟨rfl, rfl, rfl, by decide +kernel, rfl, by decide +kernel, by decide +kernel⟩
-- slots of halves_pairs: one 0, other 1
theorem ok_halves_pairs (S : Sit P w K mg base) : CF P w K mg base CX0 "halves_pairs" ["one", "other"] 1 (sHPairs) := by
  refine cf_halves_pairs S fun f fd F => F.ok sc_halves_pairs (fun vs H Q E h => ?_) (fun cdv A outer s H vs Q E hr h => ?_)
  · first | (obtain ⟨_, rfl, _⟩ := h; rfl) | (obtain ⟨_, _, rfl, _⟩ := h; rfl) | (obtain ⟨_, _, _, rfl, _⟩ := h; rfl) | (obtain ⟨_, _, _, _, rfl, _⟩ := h; rfl) | (obtain ⟨_, _, _, _, _, rfl, _⟩ := h; rfl) | (obtain ⟨_, _, _, _, _, _, rfl, _⟩ := h; rfl) | (obtain ⟨_, _, _, _, _, _, _, rfl, _⟩ := h; rfl) | (obtain ⟨_, _, _, _, _, _, _, _, rfl, _⟩ := h; rfl) | (obtain ⟨_, _, _, _, _, _, _, _, _, rfl, _⟩ := h; rfl) | (obtain ⟨_, _, _, _, _, _, _, _, _, _, rfl, _⟩ := h; rfl) | (obtain ⟨_, _, _, _, _, _, _, _, _, _, _, rfl, _⟩ := h; rfl) | (obtain ⟨_, _, _, _, _, _, _, _, _, _, _, _, rfl, _⟩ := h; rfl) | (obtain ⟨_, _, _, _, _, _, _, _, _, _, _, _, _, rfl, _⟩ := h; rfl) | (obtain ⟨_, _, _, _, _, _, _, _, _, _, _, _, _, _, rfl, _⟩ := h; rfl) | (obtain ⟨_, _, _, _, _, _, _, _, _, _, _, _, _, _, _, rfl, _⟩ := h; rfl) | (obtain ⟨_, _, _, _, _, _, _, _, _, _, _, _, _, _, _, _, rfl, _⟩ := h; rfl) | (obtain ⟨_, _, _, _, _, _, _, _, _, _, _, _, _, _, _, _, _, rfl, _⟩ := h; rfl) | (obtain ⟨_, _, _, _, _, _, _, _, _, _, _, _, _, _, _, _, _, _, rfl, _⟩ := h; rfl) | (obtain ⟨_, _, _, _, _, _, _, _, _, _, _, _, _, _, _, _, _, _, _, rfl, _⟩ := h; rfl) | (obtain ⟨_, _, _, _, _, _, _, _, _, _, _, _, _, _, _, _, _, _, _, _, rfl, _⟩ := h; rfl) | (obtain ⟨_, _, _, _, _, _, _, _, _, _, _, _, _, _, _, _, _, _, _, _, _, rfl, _⟩ := h; rfl)
  obtain ⟨s1, t1, a, b, l, r, a', b', l', r', Bs, rfl, hb, e1, e2, k⟩ := h
  replace hb := (hb.dup e1)
  replace hb := (hb.dup e2)
  clear e1 e2
  refine ⟨_, PSs.nox (pss_one (ps_ret (pe_lst (pa_cons (pe_tup (pa_cons (pe_ix (ix_tupK (K := K) rfl) (pv 0) pe_int (fun _ _ => rfl)) (pa_cons (pe_ix (ix_tupK (K := K) rfl) (pv 1) pe_int (fun _ _ => rfl)) pa_nil))) (pa_cons (pe_tup (pa_cons (pe_ix (ix_tupK (K := K) rfl) (pv 0) pe_int (fun _ _ => rfl)) (pa_cons (pe_ix (ix_tupK (K := K) rfl) (pv 1) pe_int (fun _ _ => rfl)) pa_nil))) pa_nil))))), ?_⟩
  walk_at "hz.st"
  walk_at "hz.g"
  rename_i H3 h3
  exact k _ _ _ _ (h3.sub_of (by walk_at "hz.sub"))

/-! D16: parted by parts -/
theorem dueK_snoc {M : Mdl} {S : PS} {m n : Nat} {st : List (Nat × Nat)} {s : Nat × Nat} : dueK M S m n (st ++ [s]) = dueS M m n (S.ds s.1).lo (S.ds s.1).hi ++ dueK M S m n st := by
  unfold dueK
  rw [List.reverse_append]
  rfl
theorem sumP_snoc {M : Mdl} {S : PS} {m n : Nat} {st : List (Nat × Nat)} {s : Nat × Nat} : sumP M S m n (st ++ [s]) = sumP M S m n st + cntP M m n (S.ds s.1).lo (S.ds s.1).hi := by
  unfold sumP
  simp
theorem szK_snoc {S : PS} {st : List (Nat × Nat)} {s : Nat × Nat} : szK S (st ++ [s]) = szK S st + (2 * (S.ds s.1).len - 1) := by
  unfold szK
  simp
theorem szK_len {S : PS} {st : List (Nat × Nat)} (h : ∀ s ∈ st, 1 ≤ (S.ds s.1).len) : st.length ≤ szK S st := by
  induction st with
  | nil => exact Nat.zero_le _
  | cons s st ih =>
    have h1 := h s List.mem_cons_self
    have h2 := ih fun x hx => h x (List.mem_cons_of_mem _ hx)
    unfold szK at h2 ⊢
    rw [List.map_cons, List.sum_cons, List.length_cons]
    omega
theorem r_neDI {K : PySem.W.Frag} {i j : Int} {H : Hp} {Q : VK} (h : Q (.bl (!decide (i = j))) H) : rNeD K (.int i) (.int j) H Q :=
  ⟨.int i, .int j, .int _, .int _, rfl, rfl, by
    have e : PyData.eqv (.int i) (.int j) = decide (i = j) := rfl
    rw [e]
    exact h⟩
def sPBP (K : PySem.W.Frag) : Sp := fun vs H Q _ => ∃ (a : Addr) (M : Mdl) (ef : List (Str × V)) (eb b : Blk) (m n : Nat) (L : List Blk), vs = [.ref a, .int m, .int n] ∧ HB H (b :: L) ∧ Row (CT K) (CC K) ["halves", "roots"] a M ef eb b ∧ WP_Copied K M ef eb ∧ M.kept m ∧ M.kept n ∧
  ∀ t p g H', HB H' ([(t, .tup [.ref p, .int (cntP M m n 0 M.F.length : Nat)])] :: [(p, .lst (rm (M.due m n).length (lv g)))] :: rc (M.due m n).length g (chO (M.due m n)) :: b :: L) → Q (.ref t) H'
theorem sc_parted_by_parts : FnScope ["rows", "one", "other", "pairs", "changes", "looks", "mine", "theirs", "first", "second"] ["rows", "one", "other"] (defScope (top 41)) := ⟨rfl, rfl, rfl, by decide +kernel, rfl, by decide +kernel, by decide +kernel⟩
-- slots of parted_by_parts: rows 0, one 1, other 2, pairs 3, changes 4, looks 5, mine 6, theirs 7, first 8, second 9
theorem ok_parted_by_parts_Copied (S : Sit P w K mg base) : CF P w K mg base CX0 "parted_by_parts" ["rows", "one", "other"] 55 (sPBP K) := by
  refine cf_parted_by_parts S fun f fd F => F.ok sc_parted_by_parts (fun vs H Q E h => ?_) (fun cdv A outer s H vs Q E hr h => ?_)
  · first | (obtain ⟨_, rfl, _⟩ := h; rfl) | (obtain ⟨_, _, rfl, _⟩ := h; rfl) | (obtain ⟨_, _, _, rfl, _⟩ := h; rfl) | (obtain ⟨_, _, _, _, rfl, _⟩ := h; rfl) | (obtain ⟨_, _, _, _, _, rfl, _⟩ := h; rfl) | (obtain ⟨_, _, _, _, _, _, rfl, _⟩ := h; rfl) | (obtain ⟨_, _, _, _, _, _, _, rfl, _⟩ := h; rfl) | (obtain ⟨_, _, _, _, _, _, _, _, rfl, _⟩ := h; rfl) | (obtain ⟨_, _, _, _, _, _, _, _, _, rfl, _⟩ := h; rfl) | (obtain ⟨_, _, _, _, _, _, _, _, _, _, rfl, _⟩ := h; rfl) | (obtain ⟨_, _, _, _, _, _, _, _, _, _, _, rfl, _⟩ := h; rfl) | (obtain ⟨_, _, _, _, _, _, _, _, _, _, _, _, rfl, _⟩ := h; rfl) | (obtain ⟨_, _, _, _, _, _, _, _, _, _, _, _, _, rfl, _⟩ := h; rfl) | (obtain ⟨_, _, _, _, _, _, _, _, _, _, _, _, _, _, rfl, _⟩ := h; rfl) | (obtain ⟨_, _, _, _, _, _, _, _, _, _, _, _, _, _, _, rfl, _⟩ := h; rfl) | (obtain ⟨_, _, _, _, _, _, _, _, _, _, _, _, _, _, _, _, rfl, _⟩ := h; rfl) | (obtain ⟨_, _, _, _, _, _, _, _, _, _, _, _, _, _, _, _, _, rfl, _⟩ := h; rfl) | (obtain ⟨_, _, _, _, _, _, _, _, _, _, _, _, _, _, _, _, _, _, rfl, _⟩ := h; rfl) | (obtain ⟨_, _, _, _, _, _, _, _, _, _, _, _, _, _, _, _, _, _, _, rfl, _⟩ := h; rfl) | (obtain ⟨_, _, _, _, _, _, _, _, _, _, _, _, _, _, _, _, _, _, _, _, rfl, _⟩ := h; rfl) | (obtain ⟨_, _, _, _, _, _, _, _, _, _, _, _, _, _, _, _, _, _, _, _, _, rfl, _⟩ := h; rfl)
  obtain ⟨a, M, ef, eb, b, m, n, L, rfl, hb, hR, hW, hm, hn, k⟩ := h
  obtain ⟨hv, rt, kr, S0, ow, pb, root, rfl, rfl, hP, co⟩ := hW
  obtain ⟨dx, fs, ea⟩ := row_ins hb hR List.mem_cons_self
  have ok := hR.1
  have hF := ok.f
  have stt := co.st
  have wf := co.wf
  obtain ⟨m1, m2, m3, m4, m5, m6⟩ := co.rt m hm
  obtain ⟨n1, n2, n3, n4, n5, n6⟩ := co.rt n hn
  refine ⟨_, PSs.nox (pss_cons (ps_if (pt_not (pt_val (pe_callB (call_isiK (K := K) rfl) (by rfl) (fr_isinstance S) bt_isinstance (pa_cons (pv 0) (pa_cons (pe_glob (v := .ref (He.ga K "Copied")) rfl (gl_Copied S) rfl) pa_nil))))) (pss_one ps_never) pss_nil)
      (pss_cons (ps_expr (pe_callC (ok_need_makes_Copied S) (hr.mono (by decide)) (by rfl) pass0 (pa_cons (pv 0) (pa_cons (pv 1) (pa_cons (pv 2) pa_nil)))))
      (pss_cons (ps_set (i := 3) sc_parted_by_parts.nd rfl (Or.inl rfl) (pe_lst (pa_cons (pe_tup (pa_cons (pe_methC (pv 0) (ok_Copied_root S) (hr.mono (by decide)) pass0 (pa_cons (pv 1) pa_nil)) (pa_cons (pe_methC (pv 0) (ok_Copied_root S) (hr.mono (by decide)) pass0 (pa_cons (pv 2) pa_nil)) pa_nil))) pa_nil)))
      (pss_cons (ps_set (i := 4) sc_parted_by_parts.nd rfl (Or.inl rfl) (pe_lst pa_nil))
      (pss_cons (ps_set (i := 5) sc_parted_by_parts.nd rfl (Or.inl rfl) pe_int)
      (pss_cons (ps_while PassesOwn.never (pt_cmpR (op_neDK (K := K) (hu64 hr) rfl) (pv 3) (pe_lst pa_nil) (nomark _)) (pss_cons (ps_asg (pe_bm0 PySem.F.plainAttrs_list PySem.F.slot_list_pop PySem.F.type_list_pop mt_pop (pv 3)) (pg_tupK (n := 2) (K := K) rfl rfl (pgs_cons (pg_name (i := 6) sc_parted_by_parts.nd rfl (Or.inl rfl)) (pgs_cons (pg_name (i := 7) sc_parted_by_parts.nd rfl (Or.inl rfl)) pgs_nil))))
      (pss_cons (ps_aug (i := 5) sc_parted_by_parts.nd rfl (Or.inl rfl) pe_int ip_add)
      (pss_one (ps_if (pt_cmpR op_ne (pv 6) (pv 7) (nomark _)) (pss_cons (ps_set (i := 8) sc_parted_by_parts.nd rfl (Or.inl rfl) (pe_methC (pv 0) (ok_Copied_part S) (hr.mono (by decide)) pass0 (pa_cons (pv 6) pa_nil)))
      (pss_cons (ps_set (i := 9) sc_parted_by_parts.nd rfl (Or.inl rfl) (pe_methC (pv 0) (ok_Copied_part S) (hr.mono (by decide)) pass0 (pa_cons (pv 7) pa_nil)))
      (pss_one (ps_if (pt_cmpR op_eq (pe_ix (ix_tupK (K := K) rfl) (pv 8) pe_int (fun _ _ => rfl)) pe_str (nomark _)) (pss_one (ps_expr (pe_bm PySem.F.plainAttrs_list PySem.F.slot_list_extend PySem.F.type_list_extend mt_extend (pv 3) (pa_cons (pe_callC (ok_halves_pairs S) (hr.mono (by decide)) (by rfl) pass0 (pa_cons (pv 8) (pa_cons (pv 9) pa_nil))) pa_nil)))) (pss_one (ps_if (pt_cmpR (op_neDK (K := K) (hu64 hr) rfl) (pe_ix (ix_tupK (K := K) rfl) (pv 8) pe_int (fun _ _ => rfl)) (pe_ix (ix_tupK (K := K) rfl) (pv 9) pe_int (fun _ _ => rfl)) (nomark _)) (pss_one (ps_expr (pe_bm PySem.F.plainAttrs_list PySem.F.slot_list_append PySem.F.type_list_append mt_append (pv 4) (pa_cons (pe_tup (pa_cons (pe_ix (ix_tupK (K := K) rfl) (pv 8) pe_int (fun _ _ => rfl)) (pa_cons (pe_ix (ix_tupK (K := K) rfl) (pv 8) pe_int (fun _ _ => rfl)) (pa_cons (pe_ix (ix_tupK (K := K) rfl) (pv 9) pe_int (fun _ _ => rfl)) pa_nil)))) pa_nil)))) pss_nil)))))) pss_nil)))))
      (pss_one (ps_ret (pe_tup (pa_cons (pv 4) (pa_cons (pv 5) pa_nil))))))))))), ?_⟩
  walk_at "hz.st"
  walk_at "hz.g"
  refine r_isIns (x := "Copied") (y := "Copied") ea (ki_Copied_Copied S) (cls_Copied S) ?_
  walk_at "hz.g"
  refine ⟨a, M, _, _, b, m, n, L, rfl, hb, hR, hm, hn, fun H1 h1 => ?_⟩
  walk_at "hz.g"
  refine ⟨a, M, hv, rt, kr, S0, ow, pb, root, b, m, L, rfl, h1, hR, hP, co, hm, fun H2 h2 => ?_⟩
  walk_at "hz.g"
  refine ⟨a, M, hv, rt, kr, S0, ow, pb, root, b, n, L, rfl, h2, hR, hP, co, hn, fun H3 h3 => ?_⟩
  walk_at "hz.g"
  rename_i q0 H4 h4 sk H5 h5 ch H6 h6
  clear ea
  refine while_w (fun z σ H => ∃ (st : List (Nat × Nat)) (cs : List (Nat × Int × Int)) (lk : Nat) (g g2 : Nat → Addr) (z6 z7 z8 z9 : Option V), z = szK S0 st ∧ σ = [some (.ref a), some (.int m), some (.int n), some (.ref sk), some (.ref ch), some (.int lk), z6, z7, z8, z9] ∧
    (∀ s ∈ st, PairOk M S0 ow m n s) ∧ cs ++ dueK M S0 m n st = M.due m n ∧ lk + sumP M S0 m n st = cntP M m n 0 M.F.length ∧ szK S0 st ≤ 31 ∧
    HB H ([(sk, .lst (rm st.length (lv g)))] :: rc st.length g (prO st) :: [(ch, .lst (rm cs.length (lv g2)))] :: rc cs.length g2 (chO cs) :: b :: L)) (szK S0 [(root m, root n)])
    ⟨[(root m, root n)], [], 0, fun _ => q0, fun _ => 0, _, _, _, _, rfl, rfl, fun s hs => ?_, ?_, ?_, ?_, ?_⟩ ?_
  · rw [List.mem_singleton.mp hs]
    refine ⟨⟨m1, m2⟩, ⟨n1, n2⟩, by show (S0.ds (root n)).lo = (S0.ds (root m)).lo; rw [m5, n5], by show (S0.ds (root n)).hi = (S0.ds (root m)).hi; rw [m6, n6], ?_, ?_⟩
    · show ow (root m) = M.last m (S0.ds (root m)).lo (S0.ds (root m)).hi
      rw [m4, m5, m6]
      have h := stt.idem (root m) m1
      rw [m4, m5, m6] at h
      exact h.symm
    · show ow (root n) = M.last n (S0.ds (root m)).lo (S0.ds (root m)).hi
      rw [n4, m5, m6]
      have h := stt.idem (root n) n1
      rw [n4, n5, n6] at h
      exact h.symm
  · show [] ++ dueK M S0 m n [(root m, root n)] = _
    rw [List.nil_append, show [(root m, root n)] = [] ++ [(root m, root n)] from rfl, dueK_snoc]
    show dueS M m n (S0.ds (root m)).lo (S0.ds (root m)).hi ++ [] = _
    rw [List.append_nil, m5, m6, dueS_all]
  · rw [show [(root m, root n)] = [] ++ [(root m, root n)] from rfl, sumP_snoc]
    show 0 + (0 + cntP M m n (S0.ds (root m)).lo (S0.ds (root m)).hi) = _
    rw [m5, m6]
    omega
  · rw [show [(root m, root n)] = [] ++ [(root m, root n)] from rfl, szK_snoc]
    show 0 + (2 * (S0.ds (root m)).len - 1) ≤ 31
    unfold Prt.len
    omega
  · exact (show HB H6 ([(sk, .lst [.ref q0])] :: [(q0, .tup [.int (root m : Nat), .int (root n : Nat)])] :: [(ch, .lst [])] :: b :: L) from h6.sub_of (by walk_at "hz.sub"))
  rintro z σ H7 ⟨st, cs, lk, g, g2, z6, z7, z8, z9, rfl, rfl, hst, hdue, hsum, hsz, h7⟩
  have hlen : ∀ s ∈ st, 1 ≤ (S0.ds s.1).len := fun s hs => by
    have h := stt.rng _ (hst s hs).x.1
    unfold Prt.len
    omega
  have hl := szK_len hlen
  walk_at "hz.g"
  rename_i nl H8 h8
  refine r_neNil (dp_pr (h8.at (by walk_at "hz.at")) h8 (by walk_at "hz.mem")) (dp_nil (SqL.of (h8.at (by walk_at "hz.at")))) (flat_dPr fun c hc => ?_) (by have := depth_dPr (cs := st); omega) ?_
  · have h := hst c hc
    have g0 := co.gv
    have t0 := ok.t.le
    have x1 := h.x.1
    have y1 := h.y.1
    omega
  rcases List.eq_nil_or_concat st with rfl | ⟨st, s, rfl⟩
  · walk_at "hz.g"
    rename_i t H9 h9
    have e1 : cs = M.due m n := by
      rw [← hdue]
      show cs = cs ++ []
      rw [List.append_nil]
    have e2 : lk = cntP M m n 0 M.F.length := by
      rw [← hsum]
      rfl
    rw [e1, e2] at h9
    exact k t ch g2 _ (h9.sub_of (by walk_at "hz.sub"))
  rw [List.concat_eq_append] at *
  walk_at "hz.g"
  refine r_yes (by simp [dPr]) ?_
  replace h8 := h8.sub_of (Ts := [(sk, .lst (rm (st ++ [s]).length (lv g)))] :: rc (st ++ [s]).length g (prO (st ++ [s])) :: [(ch, .lst (rm cs.length (lv g2)))] :: rc cs.length g2 (chO cs) :: b :: L) (by walk_at "hz.sub")
  have ln : (st ++ [s]).length = st.length + 1 := by rw [List.length_append]; rfl
  rw [ln] at h8
  have hl2 := szK_len (fun x hx => hlen x (List.mem_append_left _ hx))
  clear hl
  rw [dueK_snoc] at hdue
  rw [sumP_snoc] at hsum
  rw [szK_snoc] at hsz
  rw [szK_snoc]
  have hs := hst s (by simp)
  have hst' : ∀ x ∈ st, PairOk M S0 ow m n x := fun x hx => hst x (List.mem_append_left _ hx)
  replace h8 := (h8.swap.rc_pop).sub_of (Ts := [(sk, .lst (rm (st.length + 1) (lv g)))] :: rc st.length g (prO (st ++ [s])) :: [(g st.length, prO (st ++ [s]) st.length)] :: [(ch, .lst (rm cs.length (lv g2)))] :: rc cs.length g2 (chO cs) :: b :: L) (by walk_at "hz.sub")
  rw [prO_last, rc_congr (g' := g) (o' := prO st) (fun _ _ => rfl) (fun i hi => prO_app hi)] at h8
  refine r_wh ?_
  walk_at "hz.g"
  rename_i H9 h9
  rw [show prV s = [.int (s.1 : Int), .int (s.2 : Int)] from rfl] at h9 ⊢
  walk_at "hz.g"
  by_cases ce : s.1 = s.2
  · refine r_no (by simp [ce]) ?_
    have e0 := (pair_last stt hs).mp ce
    rw [dueS_same e0, List.nil_append] at hdue
    rw [cntP_same (Or.inl e0)] at hsum
    walk_at "hz.g"
    have l1 := stt.rng _ hs.x.1
    refine ⟨szK S0 st, by unfold Prt.len; omega, st, cs, lk + 1, g, g2, _, _, _, _, rfl, rfl, hst', hdue, by omega, by omega, ?_⟩
    exact h9.sub_of (by walk_at "hz.sub")
  · refine r_yes (by simp; omega) ?_
    have e0 : ¬ M.last m (S0.ds s.1).lo (S0.ds s.1).hi = M.last n (S0.ds s.1).lo (S0.ds s.1).hi := fun z => ce ((pair_last stt hs).mpr z)
    walk_at "hz.g"
    refine ⟨a, M, hv, rt, kr, S0, ow, pb, root, b, s.1, _, rfl, h9.sub_of (Ts := b :: [(sk, .lst (rm st.length (lv g)))] :: rc st.length g (prO st) :: [(ch, .lst (rm cs.length (lv g2)))] :: rc cs.length g2 (chO cs) :: L) (by walk_at "hz.sub"), hR, hP, co, hs.x.2, fun t1 H10 h10 => ?_⟩
    walk_at "hz.g"
    refine ⟨a, M, hv, rt, kr, S0, ow, pb, root, b, s.2, _, rfl, h10.swap, hR, hP, co, hs.y.2, fun t2 H11 h11 => ?_⟩
    walk_at "hz.g"
    cases ed : S0.ds s.1 with
    | fork lo hi l r =>
      rw [ed] at h11
      obtain ⟨l', r', ed2, p1, p2⟩ := pair_fork stt (fun x hx => wf.cl x hx) hs ed
      rw [ed2] at h11
      rw [ed] at hdue hsum hsz e0
      replace hdue : cs ++ (dueS M m n lo hi ++ dueK M S0 m n st) = M.due m n := hdue
      replace hsum : lk + (sumP M S0 m n st + cntP M m n lo hi) = cntP M m n 0 M.F.length := hsum
      replace hsz : szK S0 st + (2 * (hi - lo) - 1) ≤ 31 := hsz
      replace e0 : ¬ M.last m lo hi = M.last n lo hi := e0
      obtain ⟨f1, f2, f3, f4, f5, f6, f7, f8, f9⟩ := stt.fork _ lo hi l r hs.x.1 ed
      have rg := stt.rng _ hs.x.1
      rw [ed] at rg
      replace rg : lo < hi ∧ hi ≤ M.F.length := rg
      walk_at "hz.g"
      refine ⟨t1, t2, lo, hi, l, r, lo, hi, l', r', _, rfl, h11, h11.at (by walk_at "hz.at"), h11.at (by walk_at "hz.at"), fun pq q1 q2 H12 h12 => ?_⟩
      walk_at "hz.g"
      refine r_extend h12 (h12.at (by walk_at "hz.at")) (by walk_at "hz.put") (by rw [rm_len]; exact sz100 (by simp; omega)) fun H13 h13 => ?_
      walk_at "hz.g"
      rw [show [V.ref q1, V.ref q2] = [V.ref q1] ++ [V.ref q2] from rfl, ← List.append_assoc, lv_snoc, lv_snoc] at h13
      have h14 : HB H13 ([(q1, .tup (prV (r, r')))] :: rc st.length g (prO st) :: [(q2, .tup (prV (l, l')))] :: [(sk, .lst (rm (st.length + 1 + 1) (lv (fset (fset g st.length q1) (st.length + 1) q2))))] :: [(ch, .lst (rm cs.length (lv g2)))] :: rc cs.length g2 (chO cs) :: b :: L) := h13.sub_of (Ts := [(q1, .tup [.int (r : Int), .int (r' : Int)])] :: rc st.length g (prO st) :: [(q2, .tup [.int (l : Int), .int (l' : Int)])] :: [(sk, .lst (rm (st.length + 1 + 1) (lv (fset (fset g st.length q1) (st.length + 1) q2))))] :: [(ch, .lst (rm cs.length (lv g2)))] :: rc cs.length g2 (chO cs) :: b :: L) (by walk_at "hz.sub")
      have h15 := h14.rc_new (o' := prO (st ++ [(r, r')])) (fun i hi => (prO_app hi).symm) prO_last
      have h16 := (h15.sub_of (Ts := [(q2, .tup (prV (l, l')))] :: rc (st.length + 1) (fset g st.length q1) (prO (st ++ [(r, r')])) :: [(sk, .lst (rm (st.length + 1 + 1) (lv (fset (fset g st.length q1) (st.length + 1) q2))))] :: [(ch, .lst (rm cs.length (lv g2)))] :: rc cs.length g2 (chO cs) :: b :: L) (by walk_at "hz.sub")).rc_new (o' := prO (st ++ [(r, r')] ++ [(l, l')]))
        (fun i hi => (prO_app (by rw [List.length_append]; exact hi)).symm) (by have e := prO_last (ps := st ++ [(r, r')]) (q := (l, l')); rw [List.length_append] at e; exact e)
      have ln2 : (st ++ [(r, r')] ++ [(l, l')]).length = st.length + 1 + 1 := by rw [List.length_append, List.length_append]; rfl
      have zz : szK S0 (st ++ [(r, r')] ++ [(l, l')]) + 1 = szK S0 st + (2 * (hi - lo) - 1) := by
        rw [szK_snoc, szK_snoc]
        show szK S0 st + (2 * (S0.ds r).len - 1) + (2 * (S0.ds l).len - 1) + 1 = _
        unfold Prt.len
        rw [f4, f5, f6, f7]
        omega
      refine ⟨szK S0 (st ++ [(r, r')] ++ [(l, l')]), by show _ < szK S0 st + (2 * (hi - lo) - 1); omega, st ++ [(r, r')] ++ [(l, l')], cs, lk + 1, fset (fset g st.length q1) (st.length + 1) q2, g2, _, _, _, _, rfl, rfl, fun x hx => ?_, ?_, ?_, by omega, ?_⟩
      · rcases List.mem_append.mp hx with c | c
        · rcases List.mem_append.mp c with c | c
          · exact hst' x c
          · rw [List.mem_singleton.mp c]; exact p2
        · rw [List.mem_singleton.mp c]; exact p1
      · rw [dueK_snoc, dueK_snoc, ← hdue]
        show cs ++ (dueS M m n (S0.ds l).lo (S0.ds l).hi ++ (dueS M m n (S0.ds r).lo (S0.ds r).hi ++ _)) = _
        rw [f4, f5, f6, f7, ← List.append_assoc (dueS _ _ _ _ _) (dueS _ _ _ _ _), dueS_app (by omega) (by omega)]
      · rw [sumP_snoc, sumP_snoc]
        show lk + 1 + (sumP M S0 m n st + cntP M m n (S0.ds r).lo (S0.ds r).hi + cntP M m n (S0.ds l).lo (S0.ds l).hi) = _
        rw [f4, f5, f6, f7]
        rw [cntP_fork (by intro z; rcases z with z | z; exact e0 z; omega) (by omega) (by omega)] at hsum
        omega
      · rw [ln2]
        exact h16.sub_of (by walk_at "hz.sub")
    | leaf p w0 =>
      rw [ed] at h11
      obtain ⟨ew, ed2⟩ := pair_leaf stt hs ed
      rw [ed2] at h11
      rw [ed] at hdue hsum hsz
      replace hdue : cs ++ (dueS M m n p (p + 1) ++ dueK M S0 m n st) = M.due m n := hdue
      replace hsum : lk + (sumP M S0 m n st + cntP M m n p (p + 1)) = cntP M m n 0 M.F.length := hsum
      replace hsz : szK S0 st + (2 * (p + 1 - p) - 1) ≤ 31 := hsz
      rw [cntP_same (Or.inr (by omega))] at hsum
      rw [dueS_one] at hdue
      walk_at "hz.g"
      refine r_neDI ?_
      walk_at "hz.g"
      by_cases c : w0 = M.val n p
      · refine r_no (by simp [c]) ?_
        walk_at "hz.g"
        rw [if_neg (fun z => z (by rw [← ew]; exact c)), List.nil_append] at hdue
        refine ⟨szK S0 st, by show _ < szK S0 st + (2 * (p + 1 - p) - 1); omega, st, cs, lk + 1, g, g2, _, _, _, _, rfl, rfl, hst', hdue, by omega, by omega, ?_⟩
        exact h11.sub_of (by walk_at "hz.sub")
      · refine r_yes (by simp [c]) ?_
        rw [if_pos (fun z => c (by rw [ew]; exact z)), ← List.append_assoc] at hdue
        have hcl : cs.length + 1 ≤ 16 := by
          have z1 := congrArg List.length hdue
          have z2 := due_le (M := M) (m := m) (n := n)
          rw [List.length_append, List.length_append] at z1
          simp at z1
          omega
        walk_at "hz.g"
        · rw [rm_len]; exact sz100' (by omega)
        intro H12 h12
        walk_at "hz.g"
        rename_i q _ _
        rw [lv_snoc] at h12
        have h13 : HB H12 ([(q, .tup (chV (p, M.val m p, M.val n p)))] :: rc cs.length g2 (chO cs) :: [(sk, .lst (rm st.length (lv g)))] :: rc st.length g (prO st) :: [(ch, .lst (rm (cs.length + 1) (lv (fset g2 cs.length q))))] :: b :: L) := by
          rw [← ew]
          exact h12.sub_of (Ts := [(q, .tup [.int (p : Int), .int w0, .int (M.val n p)])] :: rc cs.length g2 (chO cs) :: [(sk, .lst (rm st.length (lv g)))] :: rc st.length g (prO st) :: [(ch, .lst (rm (cs.length + 1) (lv (fset g2 cs.length q))))] :: b :: L) (by walk_at "hz.sub")
        have h14 := h13.rc_new (o' := chO (cs ++ [(p, M.val m p, M.val n p)])) (fun i hi => (chO_app hi).symm) chO_last
        refine ⟨szK S0 st, by show _ < szK S0 st + (2 * (p + 1 - p) - 1); omega, st, cs ++ [(p, M.val m p, M.val n p)], lk + 1, g, fset g2 cs.length q, _, _, _, _, rfl, rfl, hst', hdue, by omega, by omega, ?_⟩
        rw [show (cs ++ [(p, M.val m p, M.val n p)]).length = cs.length + 1 by rw [List.length_append]; rfl]
        exact h14.sub_of (by walk_at "hz.sub")

/-! L1: the law's box, from which is drawn; its worths -/
def sLCell (K : PySem.W.Frag) : Sp := fun vs H Q _ => ∃ (a : Addr) (ns : List Int) (k : Nat), vs = [.ref a, .int k] ∧ SqL K H a (ns.map V.int) ∧ ∀ c, Q (.int c) H
theorem sc__law_cell : FnScope ["_law_script", "_law_k"] ["_law_script", "_law_k"] (defScope (top 43)) := ⟨rfl, rfl, rfl, by decide +kernel, rfl, by decide +kernel, by decide +kernel⟩
-- slots of _law_cell: _law_script 0, _law_k 1
theorem ok__law_cell (S : Sit P w K mg base) : CF P w K mg base CX0 "_law_cell" ["_law_script", "_law_k"] 1 (sLCell K) := by
  refine cf__law_cell S fun f fd F => F.ok sc__law_cell (fun vs H Q E h => ?_) (fun cdv A outer s H vs Q E hr h => ?_)
  · first | (obtain ⟨_, rfl, _⟩ := h; rfl) | (obtain ⟨_, _, rfl, _⟩ := h; rfl) | (obtain ⟨_, _, _, rfl, _⟩ := h; rfl) | (obtain ⟨_, _, _, _, rfl, _⟩ := h; rfl) | (obtain ⟨_, _, _, _, _, rfl, _⟩ := h; rfl) | (obtain ⟨_, _, _, _, _, _, rfl, _⟩ := h; rfl) | (obtain ⟨_, _, _, _, _, _, _, rfl, _⟩ := h; rfl) | (obtain ⟨_, _, _, _, _, _, _, _, rfl, _⟩ := h; rfl) | (obtain ⟨_, _, _, _, _, _, _, _, _, rfl, _⟩ := h; rfl) | (obtain ⟨_, _, _, _, _, _, _, _, _, _, rfl, _⟩ := h; rfl) | (obtain ⟨_, _, _, _, _, _, _, _, _, _, _, rfl, _⟩ := h; rfl) | (obtain ⟨_, _, _, _, _, _, _, _, _, _, _, _, rfl, _⟩ := h; rfl) | (obtain ⟨_, _, _, _, _, _, _, _, _, _, _, _, _, rfl, _⟩ := h; rfl) | (obtain ⟨_, _, _, _, _, _, _, _, _, _, _, _, _, _, rfl, _⟩ := h; rfl) | (obtain ⟨_, _, _, _, _, _, _, _, _, _, _, _, _, _, _, rfl, _⟩ := h; rfl) | (obtain ⟨_, _, _, _, _, _, _, _, _, _, _, _, _, _, _, _, rfl, _⟩ := h; rfl) | (obtain ⟨_, _, _, _, _, _, _, _, _, _, _, _, _, _, _, _, _, rfl, _⟩ := h; rfl) | (obtain ⟨_, _, _, _, _, _, _, _, _, _, _, _, _, _, _, _, _, _, rfl, _⟩ := h; rfl) | (obtain ⟨_, _, _, _, _, _, _, _, _, _, _, _, _, _, _, _, _, _, _, rfl, _⟩ := h; rfl) | (obtain ⟨_, _, _, _, _, _, _, _, _, _, _, _, _, _, _, _, _, _, _, _, rfl, _⟩ := h; rfl) | (obtain ⟨_, _, _, _, _, _, _, _, _, _, _, _, _, _, _, _, _, _, _, _, _, rfl, _⟩ := h; rfl)
  obtain ⟨a, ns, n, rfl, hb, k⟩ := h
  refine ⟨_, PSs.nox (pss_cons (ps_if (pt_cmpR op_lt (pv 1) (pe_callB (call_lenK (K := K) rfl) (by rfl) (fr_len S) bt_len (pa_cons (pv 0) pa_nil)) (nomark _)) (pss_one (ps_ret (pe_ix (ix_listK (K := K) rfl) (pv 0) (pv 1) (fun _ _ => rfl)))) pss_nil)
      (pss_one (ps_ret (pe_op op_add (pe_op op_mul pe_int (pv 1)) pe_int)))), ?_⟩
  walk_at "hz.st"
  walk_at "hz.g"
  refine r_lenL hb ?_
  walk_at "hz.g"
  rw [List.length_map]
  by_cases c : n < ns.length
  · refine r_yes (decide_eq_true (by omega)) ?_
    walk_at "hz.g"
    refine r_ixL hb (atI_nat (v := .int ns[n]) (by rw [List.getElem?_map, List.getElem?_eq_getElem c]; rfl)) ?_
    exact k _
  · refine r_no (decide_eq_false (by omega)) ?_
    walk_at "hz.g"
    exact k _
def sLBox : Sp := fun vs H Q _ => ∃ (c : Int) (Bs : List Blk), vs = [.int c] ∧ HB H Bs ∧ ∀ bx x y H', y < 2147483629 → HB H' (bxB bx x y 0 :: Bs) → Q (.ref bx) H'
theorem sc__law_box : FnScope ["_law_cell_here"] ["_law_cell_here"] (defScope (top 44)) := ⟨rfl, rfl, rfl, by decide +kernel, rfl, by decide +kernel, by decide +kernel⟩
-- slots of _law_box: _law_cell_here 0
theorem ok__law_box (S : Sit P w K mg base) : CF P w K mg base CX0 "_law_box" ["_law_cell_here"] 1 (sLBox) := by
  refine cf__law_box S fun f fd F => F.ok sc__law_box (fun vs H Q E h => ?_) (fun cdv A outer s H vs Q E hr h => ?_)
  · first | (obtain ⟨_, rfl, _⟩ := h; rfl) | (obtain ⟨_, _, rfl, _⟩ := h; rfl) | (obtain ⟨_, _, _, rfl, _⟩ := h; rfl) | (obtain ⟨_, _, _, _, rfl, _⟩ := h; rfl) | (obtain ⟨_, _, _, _, _, rfl, _⟩ := h; rfl) | (obtain ⟨_, _, _, _, _, _, rfl, _⟩ := h; rfl) | (obtain ⟨_, _, _, _, _, _, _, rfl, _⟩ := h; rfl) | (obtain ⟨_, _, _, _, _, _, _, _, rfl, _⟩ := h; rfl) | (obtain ⟨_, _, _, _, _, _, _, _, _, rfl, _⟩ := h; rfl) | (obtain ⟨_, _, _, _, _, _, _, _, _, _, rfl, _⟩ := h; rfl) | (obtain ⟨_, _, _, _, _, _, _, _, _, _, _, rfl, _⟩ := h; rfl) | (obtain ⟨_, _, _, _, _, _, _, _, _, _, _, _, rfl, _⟩ := h; rfl) | (obtain ⟨_, _, _, _, _, _, _, _, _, _, _, _, _, rfl, _⟩ := h; rfl) | (obtain ⟨_, _, _, _, _, _, _, _, _, _, _, _, _, _, rfl, _⟩ := h; rfl) | (obtain ⟨_, _, _, _, _, _, _, _, _, _, _, _, _, _, _, rfl, _⟩ := h; rfl) | (obtain ⟨_, _, _, _, _, _, _, _, _, _, _, _, _, _, _, _, rfl, _⟩ := h; rfl) | (obtain ⟨_, _, _, _, _, _, _, _, _, _, _, _, _, _, _, _, _, rfl, _⟩ := h; rfl) | (obtain ⟨_, _, _, _, _, _, _, _, _, _, _, _, _, _, _, _, _, _, rfl, _⟩ := h; rfl) | (obtain ⟨_, _, _, _, _, _, _, _, _, _, _, _, _, _, _, _, _, _, _, rfl, _⟩ := h; rfl) | (obtain ⟨_, _, _, _, _, _, _, _, _, _, _, _, _, _, _, _, _, _, _, _, rfl, _⟩ := h; rfl) | (obtain ⟨_, _, _, _, _, _, _, _, _, _, _, _, _, _, _, _, _, _, _, _, _, rfl, _⟩ := h; rfl)
  obtain ⟨c, Bs, rfl, hb, k⟩ := h
  refine ⟨_, PSs.nox (pss_one (ps_ret (pe_lst (pa_cons (pe_callB (call_max2C rfl) (by rfl) (fr_max S) bt_max (pa_cons pe_int (pa_cons (pe_op op_sub (pv 0) (pe_op op_pow pe_int pe_int)) pa_nil))) (pa_cons (pe_op op_mod (pv 0) pe_int) (pa_cons pe_int pa_nil)))))), ?_⟩
  walk_at "hz.st"
  walk_at "hz.g"
  rename_i p H1 h1
  have e1 : (if c - 10 ^ Int.toNat 18 > 0 then c - 10 ^ Int.toNat 18 else 0) = (((if c - 10 ^ Int.toNat 18 > 0 then c - 10 ^ Int.toNat 18 else 0).toNat : Nat) : Int) := by
    generalize c - 10 ^ Int.toNat 18 = d
    split <;> omega
  have e2 : c % 2147483629 = ((c % 2147483629).toNat : Int) := by omega
  rw [e1, e2] at h1
  exact k p _ _ _ (by omega) h1
def sLTake : Sp := fun vs H Q _ => ∃ (bx : Addr) (x y z many : Nat) (L : List Blk), vs = [.ref bx, .int many] ∧ HB H (bxB bx x y z :: L) ∧ (1 ≤ many ∧ many < 2 ^ 30) ∧ y < 2147483629 ∧
  ∀ d x' z' H', d < many → HB H' (bxB bx x' y z' :: L) → Q (.int (d : Nat)) H'
theorem sc__law_take : FnScope ["_law_box_here", "_law_many", "_law_digit", "_law_number"] ["_law_box_here", "_law_many"] (defScope (top 45)) := ⟨rfl, rfl, rfl, by decide +kernel, rfl, by decide +kernel, by decide +kernel⟩
-- slots of _law_take: _law_box_here 0, _law_many 1, _law_digit 2, _law_number 3
theorem ok__law_take (S : Sit P w K mg base) : CF P w K mg base CX0 "_law_take" ["_law_box_here", "_law_many"] 1 (sLTake) := by
  refine cf__law_take S fun f fd F => F.ok sc__law_take (fun vs H Q E h => ?_) (fun cdv A outer s H vs Q E hr h => ?_)
  · first | (obtain ⟨_, rfl, _⟩ := h; rfl) | (obtain ⟨_, _, rfl, _⟩ := h; rfl) | (obtain ⟨_, _, _, rfl, _⟩ := h; rfl) | (obtain ⟨_, _, _, _, rfl, _⟩ := h; rfl) | (obtain ⟨_, _, _, _, _, rfl, _⟩ := h; rfl) | (obtain ⟨_, _, _, _, _, _, rfl, _⟩ := h; rfl) | (obtain ⟨_, _, _, _, _, _, _, rfl, _⟩ := h; rfl) | (obtain ⟨_, _, _, _, _, _, _, _, rfl, _⟩ := h; rfl) | (obtain ⟨_, _, _, _, _, _, _, _, _, rfl, _⟩ := h; rfl) | (obtain ⟨_, _, _, _, _, _, _, _, _, _, rfl, _⟩ := h; rfl) | (obtain ⟨_, _, _, _, _, _, _, _, _, _, _, rfl, _⟩ := h; rfl) | (obtain ⟨_, _, _, _, _, _, _, _, _, _, _, _, rfl, _⟩ := h; rfl) | (obtain ⟨_, _, _, _, _, _, _, _, _, _, _, _, _, rfl, _⟩ := h; rfl) | (obtain ⟨_, _, _, _, _, _, _, _, _, _, _, _, _, _, rfl, _⟩ := h; rfl) | (obtain ⟨_, _, _, _, _, _, _, _, _, _, _, _, _, _, _, rfl, _⟩ := h; rfl) | (obtain ⟨_, _, _, _, _, _, _, _, _, _, _, _, _, _, _, _, rfl, _⟩ := h; rfl) | (obtain ⟨_, _, _, _, _, _, _, _, _, _, _, _, _, _, _, _, _, rfl, _⟩ := h; rfl) | (obtain ⟨_, _, _, _, _, _, _, _, _, _, _, _, _, _, _, _, _, _, rfl, _⟩ := h; rfl) | (obtain ⟨_, _, _, _, _, _, _, _, _, _, _, _, _, _, _, _, _, _, _, rfl, _⟩ := h; rfl) | (obtain ⟨_, _, _, _, _, _, _, _, _, _, _, _, _, _, _, _, _, _, _, _, rfl, _⟩ := h; rfl) | (obtain ⟨_, _, _, _, _, _, _, _, _, _, _, _, _, _, _, _, _, _, _, _, _, rfl, _⟩ := h; rfl)
  obtain ⟨bx, x, y, z, many, L, rfl, hb, ⟨h1, h2⟩, hy, k⟩ := h
  refine ⟨_, PSs.nox (pss_cons (ps_if (pt_cmpR op_gt (pe_ix (ix_listK (K := K) rfl) (pv 0) pe_int (fun _ _ => rfl)) pe_int (nomark _)) (pss_cons (ps_set (i := 2) sc__law_take.nd rfl (Or.inl rfl) (pe_op op_mod (pe_ix (ix_listK (K := K) rfl) (pv 0) pe_int (fun _ _ => rfl)) (pv 1)))
      (pss_cons (ps_asg (pe_op op_fdiv (pe_ix (ix_listK (K := K) rfl) (pv 0) pe_int (fun _ _ => rfl)) (pv 1)) (pg_sub (pv 0) pe_int set_list))
      (pss_one (ps_ret (pv 2))))) pss_nil)
      (pss_cons (ps_asg (pe_op op_add (pe_ix (ix_listK (K := K) rfl) (pv 0) pe_int (fun _ _ => rfl)) pe_int) (pg_sub (pv 0) pe_int set_list))
      (pss_cons (ps_set (i := 3) sc__law_take.nd rfl (Or.inl rfl) (pe_op op_mod (pe_op op_mul (pe_op op_add (pe_ix (ix_listK (K := K) rfl) (pv 0) pe_int (fun _ _ => rfl)) pe_int) (pe_op op_add (pe_op op_mul pe_int (pe_ix (ix_listK (K := K) rfl) (pv 0) pe_int (fun _ _ => rfl))) pe_int)) pe_int))
      (pss_cons (ps_set (i := 3) sc__law_take.nd rfl (Or.inl rfl) (pe_op op_mod (pe_op op_pow (pv 3) pe_int) pe_int))
      (pss_one (ps_ret (pe_op op_mod (pe_op op_fdiv (pe_op op_mod (pe_op op_pow (pe_op op_add (pv 3) (pe_op op_fdiv (pe_ix (ix_listK (K := K) rfl) (pv 0) pe_int (fun _ _ => rfl)) pe_int)) pe_int) pe_int) pe_int) (pv 1)))))))), ?_⟩
  walk_at "hz.st"
  walk_at "hz.g"
  by_cases c : 0 < x
  · refine r_yes (decide_eq_true (by omega)) ?_
    walk_at "hz.g"
    refine r_I ⟨by omega, by omega⟩ ?_
    walk_at "hz.g"
    rename_i H1 k1
    have e1 : ((x : Int) / (many : Int)) = ((x / many : Nat) : Int) := by norm_cast
    have e2 : ((x : Int) % (many : Int)) = ((x % many : Nat) : Int) := by norm_cast
    rw [e1] at k1
    rw [e2]
    exact k _ _ _ _ (Nat.mod_lt _ (by omega)) k1
  · refine r_no (decide_eq_false (by omega)) ?_
    walk_at "hz.g"
    rename_i H1 k1
    generalize ((((y : Int) + 31337) * (2 * ((z : Int) + 1) + 1) % 2147483647) ^ Int.toNat 5 % 2147483629 + (y : Int) / 65536) ^ Int.toNat 3 % 2147483587 / 16 = q
    have e1 : q % (many : Int) = ((q % (many : Int)).toNat : Int) := by
      have := Int.emod_nonneg q (b := (many : Int)) (by omega)
      omega
    have e2 : (q % (many : Int)).toNat < many := by
      have := Int.emod_lt_of_pos q (b := (many : Int)) (by omega)
      omega
    rw [e1]
    exact k _ x (z + 1) _ e2 k1
def sLWorth : Sp := fun vs H Q _ => ∃ (bx : Addr) (x y z : Nat) (L : List Blk), vs = [.ref bx] ∧ HB H (bxB bx x y z :: L) ∧ y < 2147483629 ∧
  ∀ w x' z' H', isW w = true → HB H' (bxB bx x' y z' :: L) → Q (.int w) H'
theorem sc__law_worth : FnScope ["_law_box_here", "_law_way"] ["_law_box_here"] (defScope (top 46)) := ⟨rfl, rfl, rfl, by decide +kernel, rfl, by decide +kernel, by decide +kernel⟩
-- slots of _law_worth: _law_box_here 0, _law_way 1
theorem ok__law_worth (S : Sit P w K mg base) : CF P w K mg base CX0 "_law_worth" ["_law_box_here"] 3 (sLWorth) := by
  refine cf__law_worth S fun f fd F => F.ok sc__law_worth (fun vs H Q E h => ?_) (fun cdv A outer s H vs Q E hr h => ?_)
  · first | (obtain ⟨_, rfl, _⟩ := h; rfl) | (obtain ⟨_, _, rfl, _⟩ := h; rfl) | (obtain ⟨_, _, _, rfl, _⟩ := h; rfl) | (obtain ⟨_, _, _, _, rfl, _⟩ := h; rfl) | (obtain ⟨_, _, _, _, _, rfl, _⟩ := h; rfl) | (obtain ⟨_, _, _, _, _, _, rfl, _⟩ := h; rfl) | (obtain ⟨_, _, _, _, _, _, _, rfl, _⟩ := h; rfl) | (obtain ⟨_, _, _, _, _, _, _, _, rfl, _⟩ := h; rfl) | (obtain ⟨_, _, _, _, _, _, _, _, _, rfl, _⟩ := h; rfl) | (obtain ⟨_, _, _, _, _, _, _, _, _, _, rfl, _⟩ := h; rfl) | (obtain ⟨_, _, _, _, _, _, _, _, _, _, _, rfl, _⟩ := h; rfl) | (obtain ⟨_, _, _, _, _, _, _, _, _, _, _, _, rfl, _⟩ := h; rfl) | (obtain ⟨_, _, _, _, _, _, _, _, _, _, _, _, _, rfl, _⟩ := h; rfl) | (obtain ⟨_, _, _, _, _, _, _, _, _, _, _, _, _, _, rfl, _⟩ := h; rfl) | (obtain ⟨_, _, _, _, _, _, _, _, _, _, _, _, _, _, _, rfl, _⟩ := h; rfl) | (obtain ⟨_, _, _, _, _, _, _, _, _, _, _, _, _, _, _, _, rfl, _⟩ := h; rfl) | (obtain ⟨_, _, _, _, _, _, _, _, _, _, _, _, _, _, _, _, _, rfl, _⟩ := h; rfl) | (obtain ⟨_, _, _, _, _, _, _, _, _, _, _, _, _, _, _, _, _, _, rfl, _⟩ := h; rfl) | (obtain ⟨_, _, _, _, _, _, _, _, _, _, _, _, _, _, _, _, _, _, _, rfl, _⟩ := h; rfl) | (obtain ⟨_, _, _, _, _, _, _, _, _, _, _, _, _, _, _, _, _, _, _, _, rfl, _⟩ := h; rfl) | (obtain ⟨_, _, _, _, _, _, _, _, _, _, _, _, _, _, _, _, _, _, _, _, _, rfl, _⟩ := h; rfl)
  obtain ⟨bx, x, y, z, L, rfl, hb, hy, k⟩ := h
  refine ⟨_, PSs.nox (pss_cons (ps_set (i := 1) sc__law_worth.nd rfl (Or.inl rfl) (pe_callC (ok__law_take S) (hr.mono (by decide)) (by rfl) pass0 (pa_cons (pv 0) (pa_cons pe_int pa_nil))))
      (pss_cons (ps_if (pt_cmpR op_eq (pv 1) pe_int (nomark _)) (pss_one (ps_ret (pe_ix (ix_listK (K := K) rfl) (pe_lst (pa_cons (pe_op op_sub (pe_op op_pow pe_int pe_int) pe_int) (pa_cons (pe_op op_sub pe_int (pe_op op_pow pe_int pe_int)) (pa_cons pe_int (pa_cons pe_int pa_nil))))) (pe_callC (ok__law_take S) (hr.mono (by decide)) (by rfl) pass0 (pa_cons (pv 0) (pa_cons pe_int pa_nil))) (fun _ _ => rfl)))) pss_nil)
      (pss_cons (ps_if (pt_cmpR op_eq (pv 1) pe_int (nomark _)) (pss_one (ps_ret (pe_op op_mul (pe_op op_add (pe_op op_mul (pe_callC (ok__law_take S) (hr.mono (by decide)) (by rfl) pass0 (pa_cons (pv 0) (pa_cons (pe_op op_pow pe_int pe_int) pa_nil))) (pe_op op_pow pe_int pe_int)) pe_int) (pe_ix (ix_listK (K := K) rfl) (pe_lst (pa_cons pe_int (pa_cons (pe_un un_neg pe_int) pa_nil))) (pe_callC (ok__law_take S) (hr.mono (by decide)) (by rfl) pass0 (pa_cons (pv 0) (pa_cons pe_int pa_nil))) (fun _ _ => rfl))))) pss_nil)
      (pss_one (ps_ret (pe_op op_sub (pe_callC (ok__law_take S) (hr.mono (by decide)) (by rfl) pass0 (pa_cons (pv 0) (pa_cons pe_int pa_nil))) pe_int)))))), ?_⟩
  walk_at "hz.st"
  walk_at "hz.g"
  refine ⟨bx, x, y, z, 8, L, rfl, hb, by decide, hy, fun d x1 z1 H1 hd h1 => ?_⟩
  walk_at "hz.g"
  by_cases c : d = 0
  · subst c
    refine r_yes rfl ?_
    walk_at "hz.g"
    rename_i p H2 h2
    refine ⟨bx, x1, y, z1, 4, _, rfl, h2.swap, by decide, hy, fun d x2 z2 H3 hd2 h3 => ?_⟩
    have cs : d = 0 ∨ d = 1 ∨ d = 2 ∨ d = 3 := by omega
    rcases cs with rfl | rfl | rfl | rfl
    · walk_at "hz.g"
      refine k _ _ _ _ ?_ (h3.sub_of (by walk_at "hz.sub"))
      decide +kernel
    · walk_at "hz.g"
      refine k _ _ _ _ ?_ (h3.sub_of (by walk_at "hz.sub"))
      decide +kernel
    · walk_at "hz.g"
      refine k _ _ _ _ ?_ (h3.sub_of (by walk_at "hz.sub"))
      decide +kernel
    · walk_at "hz.g"
      refine k _ _ _ _ ?_ (h3.sub_of (by walk_at "hz.sub"))
      decide +kernel
  · refine r_no (decide_eq_false (by omega)) ?_
    walk_at "hz.g"
    by_cases c1 : d = 1
    · subst c1
      refine r_yes rfl ?_
      walk_at "hz.g"
      show sLTake _ _ _ _
      rw [show (10 : Int) ^ Int.toNat 8 = ((10 ^ 8 : Nat) : Int) by decide +kernel]
      refine ⟨bx, x1, y, z1, 10 ^ 8, _, rfl, h1, by decide, hy, fun d x2 z2 H3 hd2 h3 => ?_⟩
      walk_at "hz.g"
      rename_i p H4 h4
      refine ⟨bx, x2, y, z2, 2, _, rfl, h4.swap, by decide, hy, fun d2 x3 z3 H5 hd3 h5 => ?_⟩
      have cs : d2 = 0 ∨ d2 = 1 := by omega
      have e22 : (10 : Int) ^ Int.toNat 22 = 10000000000000000000000 := by decide +kernel
      have e30 : maxW = 999999999999999999999999999999 := by decide +kernel
      rcases cs with rfl | rfl
      · walk_at "hz.g"
        refine k _ _ _ _ (decide_eq_true ?_) (h5.sub_of (by walk_at "hz.sub"))
        rw [e22, e30]
        omega
      · walk_at "hz.g"
        refine k _ _ _ _ (decide_eq_true ?_) (h5.sub_of (by walk_at "hz.sub"))
        rw [e22, e30]
        omega
    · refine r_no (decide_eq_false (by omega)) ?_
      walk_at "hz.g"
      refine ⟨bx, x1, y, z1, 9, _, rfl, h1, by decide, hy, fun d x2 z2 H3 hd2 h3 => ?_⟩
      walk_at "hz.g"
      refine k _ _ _ _ (decide_eq_true ?_) (h3.sub_of (by walk_at "hz.sub"))
      have e30 : maxW = 999999999999999999999999999999 := by decide +kernel
      rw [e30]
      omega
def sLWorths : Sp := fun vs H Q _ => ∃ (bx : Addr) (x y z : Nat) (L : List Blk), vs = [.ref bx] ∧ HB H (bxB bx x y z :: L) ∧ y < 2147483629 ∧
  ∀ p (Fs : List Int) x' z' H', (1 ≤ Fs.length ∧ Fs.length ≤ 16 ∧ ∀ w ∈ Fs, isW w = true) → HB H' ([(p, .lst (Fs.map V.int))] :: bxB bx x' y z' :: L) → Q (.ref p) H'
theorem sc__law_worths : FnScope ["_law_box_here", "_law_size", "_law_k"] ["_law_box_here"] (defScope (top 47)) := ⟨rfl, rfl, rfl, by decide +kernel, rfl, by decide +kernel, by decide +kernel⟩
-- slots of _law_worths: _law_box_here 0, _law_size 1, _law_k 2
theorem ok__law_worths (S : Sit P w K mg base) : CF P w K mg base CX0 "_law_worths" ["_law_box_here"] 7 (sLWorths) := by
  refine cf__law_worths S fun f fd F => F.ok sc__law_worths (fun vs H Q E h => ?_) (fun cdv A outer s H vs Q E hr h => ?_)
  · first | (obtain ⟨_, rfl, _⟩ := h; rfl) | (obtain ⟨_, _, rfl, _⟩ := h; rfl) | (obtain ⟨_, _, _, rfl, _⟩ := h; rfl) | (obtain ⟨_, _, _, _, rfl, _⟩ := h; rfl) | (obtain ⟨_, _, _, _, _, rfl, _⟩ := h; rfl) | (obtain ⟨_, _, _, _, _, _, rfl, _⟩ := h; rfl) | (obtain ⟨_, _, _, _, _, _, _, rfl, _⟩ := h; rfl) | (obtain ⟨_, _, _, _, _, _, _, _, rfl, _⟩ := h; rfl) | (obtain ⟨_, _, _, _, _, _, _, _, _, rfl, _⟩ := h; rfl) | (obtain ⟨_, _, _, _, _, _, _, _, _, _, rfl, _⟩ := h; rfl) | (obtain ⟨_, _, _, _, _, _, _, _, _, _, _, rfl, _⟩ := h; rfl) | (obtain ⟨_, _, _, _, _, _, _, _, _, _, _, _, rfl, _⟩ := h; rfl) | (obtain ⟨_, _, _, _, _, _, _, _, _, _, _, _, _, rfl, _⟩ := h; rfl) | (obtain ⟨_, _, _, _, _, _, _, _, _, _, _, _, _, _, rfl, _⟩ := h; rfl) | (obtain ⟨_, _, _, _, _, _, _, _, _, _, _, _, _, _, _, rfl, _⟩ := h; rfl) | (obtain ⟨_, _, _, _, _, _, _, _, _, _, _, _, _, _, _, _, rfl, _⟩ := h; rfl) | (obtain ⟨_, _, _, _, _, _, _, _, _, _, _, _, _, _, _, _, _, rfl, _⟩ := h; rfl) | (obtain ⟨_, _, _, _, _, _, _, _, _, _, _, _, _, _, _, _, _, _, rfl, _⟩ := h; rfl) | (obtain ⟨_, _, _, _, _, _, _, _, _, _, _, _, _, _, _, _, _, _, _, rfl, _⟩ := h; rfl) | (obtain ⟨_, _, _, _, _, _, _, _, _, _, _, _, _, _, _, _, _, _, _, _, rfl, _⟩ := h; rfl) | (obtain ⟨_, _, _, _, _, _, _, _, _, _, _, _, _, _, _, _, _, _, _, _, _, rfl, _⟩ := h; rfl)
  obtain ⟨bx, x, y, z, L, rfl, hb, hy, k⟩ := h
  refine ⟨_, PSs.nox (pss_cons (ps_set (i := 1) sc__law_worths.nd rfl (Or.inl rfl) (pe_ix (ix_listK (K := K) rfl) (pe_lst (pa_cons (pe_op op_add pe_int (pe_callC (ok__law_take S) (hr.mono (by decide)) (by rfl) pass0 (pa_cons (pv 0) (pa_cons pe_int pa_nil)))) (pa_cons (pe_op op_add pe_int (pe_callC (ok__law_take S) (hr.mono (by decide)) (by rfl) pass0 (pa_cons (pv 0) (pa_cons pe_int pa_nil)))) (pa_cons pe_int (pa_cons pe_int (pa_cons pe_int pa_nil)))))) (pe_callC (ok__law_take S) (hr.mono (by decide)) (by rfl) pass0 (pa_cons (pv 0) (pa_cons pe_int pa_nil))) (fun _ _ => rfl)))
      (pss_one (ps_ret (pe_lc (own := [("_law_k", 2)]) rfl sc__law_worths.nd (pi_range1 (by rfl) (fr_range S) (pa_cons (pv 1) pa_nil)) (blkOk_by (N := ["_law_box_here", "_law_size", "_law_k"]) (by kernel_rfl)) (fun _ _ _ _ _ => (pg_name (i := 2) sc__law_worths.nd rfl (Or.inl rfl))) (fun _ _ _ _ _ => pts_nil) (fun _ _ _ _ _ => (pe_callC (ok__law_worth S) (hr.mono (by decide)) (by rfl) pass0 (pa_cons (pv 0) pa_nil))))))), ?_⟩
  walk_at "hz.st"
  walk_at "hz.g"
  refine ⟨bx, x, y, z, 16, _, rfl, hb, by decide, hy, fun d1 x1 z1 H1 hd1 h1 => ?_⟩
  walk_at "hz.g"
  refine ⟨bx, x1, y, z1, 5, _, rfl, h1, by decide, hy, fun d2 x2 z2 H2 hd2 h2 => ?_⟩
  walk_at "hz.g"
  rename_i p H3 h3
  refine ⟨bx, x2, y, z2, 5, _, rfl, h3.swap, by decide, hy, fun d3 x3 z3 H4 hd4 h4 => ?_⟩
  have cs : d3 = 0 ∨ d3 = 1 ∨ d3 = 2 ∨ d3 = 3 ∨ d3 = 4 := by omega
  have key : ∃ n : Nat, 1 ≤ n ∧ n ≤ 16 ∧ atI [V.int (1 + (d1 : Int)), V.int (1 + (d2 : Int)), V.int 16, V.int 1, V.int 2] (d3 : Int) = some (.int (n : Int)) := by
    rcases cs with rfl | rfl | rfl | rfl | rfl
    · exact ⟨1 + d1, by omega, by omega, by rw [show ((1 + d1 : Nat) : Int) = 1 + (d1 : Int) by omega]; exact atI_c0⟩
    · exact ⟨1 + d2, by omega, by omega, by rw [show ((1 + d2 : Nat) : Int) = 1 + (d2 : Int) by omega]; exact atI_c1⟩
    · exact ⟨16, by decide, by decide, atI_c2⟩
    · exact ⟨1, by decide, by decide, atI_c3⟩
    · exact ⟨2, by decide, by decide, atI_c4⟩
  obtain ⟨n, n1, n2, en⟩ := key
  refine r_ixL (SqL.of (h4.at (by walk_at "hz.at"))) en ?_
  walk_at "hz.g"
  refine r_iR11 (by omega) ?_
  rw [Int.toNat_natCast]
  refine lc_w walk_r0 h4 (fun i D H => ∃ (Fs : List Int) (x' z' : Nat), Fs.length = i ∧ (∀ w ∈ Fs, isW w = true) ∧ HB H ([(D, .lst (Fs.map V.int))] :: bxB bx x' y z' :: L)) (fun D H h => ⟨[], x3, z3, rfl, (fun w hw => by cases hw), (show HB H ([(D, .lst (([] : List Int).map V.int))] :: _) from h).sub_of (by walk_at "hz.sub")⟩) (fun i D H _ h => trivial) (fun i v D H H' hi h y => ?_) (fun D H h => ?_)
  · obtain ⟨Fs, x', z', rfl, hF, h⟩ := h
    obtain ⟨rfl, rfl⟩ := y
    walk_at "hz.g"
    refine ⟨bx, x', y, z', _, rfl, h.swap, hy, fun w x4 z4 H5 hw h5 => ?_⟩
    walk_at "hz.g"
    refine lc_put h5 (.next .here) (by rw [List.length_map]; exact sz100' (by omega)) fun H6 h6 => ?_
    refine ⟨Fs ++ [w], x4, z4, by rw [List.length_append]; rfl, fun v hv => ?_, ?_⟩
    · rcases List.mem_append.mp hv with c | c
      · exact hF v c
      · rw [List.mem_singleton.mp c]; exact hw
    · rw [List.map_append]
      exact h6.swap.sub_of (Ts := [(D, .lst (Fs.map V.int ++ [.int w]))] :: bxB bx x4 y z4 :: L) (by walk_at "hz.sub")
  · obtain ⟨Fs, x', z', rfl, hF, h⟩ := h
    walk_at "hz.g"
    exact k D Fs x' z' _ ⟨n1, n2, hF⟩ h
def sLModel : Sp := fun vs H Q _ => ∃ (wl : Addr) (Fs : List Int) (L : List Blk), vs = [.ref wl] ∧ HB H ([(wl, .lst (Fs.map V.int))] :: L) ∧ Fs.length ≤ 16 ∧
  ∀ la H', HB H' (lmB la ⟨[], [], Fs, [], [false]⟩ :: [(wl, .lst (Fs.map V.int))] :: L) → Q (.ref la.md) H'
theorem sc__law_model : FnScope ["_law_worths_here"] ["_law_worths_here"] (defScope (top 48)) := ⟨rfl, rfl, rfl, by decide +kernel, rfl, by decide +kernel, by decide +kernel⟩
-- slots of _law_model: _law_worths_here 0
theorem ok__law_model (S : Sit P w K mg base) : CF P w K mg base CX0 "_law_model" ["_law_worths_here"] 1 (sLModel) := by
  refine cf__law_model S fun f fd F => F.ok sc__law_model (fun vs H Q E h => ?_) (fun cdv A outer s H vs Q E hr h => ?_)
  · first | (obtain ⟨_, rfl, _⟩ := h; rfl) | (obtain ⟨_, _, rfl, _⟩ := h; rfl) | (obtain ⟨_, _, _, rfl, _⟩ := h; rfl) | (obtain ⟨_, _, _, _, rfl, _⟩ := h; rfl) | (obtain ⟨_, _, _, _, _, rfl, _⟩ := h; rfl) | (obtain ⟨_, _, _, _, _, _, rfl, _⟩ := h; rfl) | (obtain ⟨_, _, _, _, _, _, _, rfl, _⟩ := h; rfl) | (obtain ⟨_, _, _, _, _, _, _, _, rfl, _⟩ := h; rfl) | (obtain ⟨_, _, _, _, _, _, _, _, _, rfl, _⟩ := h; rfl) | (obtain ⟨_, _, _, _, _, _, _, _, _, _, rfl, _⟩ := h; rfl) | (obtain ⟨_, _, _, _, _, _, _, _, _, _, _, rfl, _⟩ := h; rfl) | (obtain ⟨_, _, _, _, _, _, _, _, _, _, _, _, rfl, _⟩ := h; rfl) | (obtain ⟨_, _, _, _, _, _, _, _, _, _, _, _, _, rfl, _⟩ := h; rfl) | (obtain ⟨_, _, _, _, _, _, _, _, _, _, _, _, _, _, rfl, _⟩ := h; rfl) | (obtain ⟨_, _, _, _, _, _, _, _, _, _, _, _, _, _, _, rfl, _⟩ := h; rfl) | (obtain ⟨_, _, _, _, _, _, _, _, _, _, _, _, _, _, _, _, rfl, _⟩ := h; rfl) | (obtain ⟨_, _, _, _, _, _, _, _, _, _, _, _, _, _, _, _, _, rfl, _⟩ := h; rfl) | (obtain ⟨_, _, _, _, _, _, _, _, _, _, _, _, _, _, _, _, _, _, rfl, _⟩ := h; rfl) | (obtain ⟨_, _, _, _, _, _, _, _, _, _, _, _, _, _, _, _, _, _, _, rfl, _⟩ := h; rfl) | (obtain ⟨_, _, _, _, _, _, _, _, _, _, _, _, _, _, _, _, _, _, _, _, rfl, _⟩ := h; rfl) | (obtain ⟨_, _, _, _, _, _, _, _, _, _, _, _, _, _, _, _, _, _, _, _, _, rfl, _⟩ := h; rfl)
  obtain ⟨wl, Fs, L, rfl, hb, hF, k⟩ := h
  refine ⟨_, PSs.nox (pss_one (ps_ret (pe_disp (pps_cons pe_str (pe_callTy (call_listK (K := K) rfl) (by rfl) (fr_list S) bt_list (pa_cons (pv 0) pa_nil)) (pps_cons pe_str (pe_lst (pa_cons pe_non pa_nil)) (pps_cons pe_str (pe_lst (pa_cons pe_non pa_nil)) (pps_cons pe_str (pe_lst (pa_cons pe_non pa_nil)) (pps_cons pe_str (pe_lst (pa_cons pe_bl pa_nil)) pps_nil))))) (by rfl) (by rfl) (fun z => by cases z) (by decide)))), ?_⟩
  walk_at "hz.st"
  walk_at "hz.g"
  rename_i md H1 h1 q H2 h2 o H3 h3 wr H4 h4 wo H5 h5 gn H6 h6
  refine r_disp2 (lmD ⟨md, q, o, wr, wo, gn⟩) h6 (by walk_at "hz.put") rfl rfl (by show 5 ≤ 15; decide) fun H7 h7 => ?_
  exact k ⟨md, q, o, wr, wo, gn⟩ H7 (lm_close (M := ⟨[], [], Fs, [], [false]⟩) (la := ⟨md, q, o, wr, wo, gn⟩) (h7.sub_of (Ts := [(md, .dK (lmD ⟨md, q, o, wr, wo, gn⟩))] :: [(q, .lst (Fs.map V.int))] :: [(o, .lst [.non])] :: [(wr, .lst [.non])] :: [(wo, .lst [.non])] :: [(gn, .lst [.bl false])] :: [(wl, .lst (Fs.map V.int))] :: L) (by walk_at "hz.sub")))
def sLKept : Sp := fun vs H Q _ => ∃ (la : LA) (M : Mdl) (L : List Blk), vs = [.ref la.md] ∧ HB H (lmB la M :: L) ∧ MdlOk M ∧ ∀ p H', HB H' ([(p, .lst (iv M.keptL))] :: lmB la M :: L) → Q (.ref p) H'
theorem sc__law_kept : FnScope ["_law_model_here", "_law_make", "_law_gone_here"] ["_law_model_here"] (defScope (top 52)) := ⟨rfl, rfl, rfl, by decide +kernel, rfl, by decide +kernel, by decide +kernel⟩
-- slots of _law_kept: _law_model_here 0, _law_make 1, _law_gone_here 2
theorem ok__law_kept (S : Sit P w K mg base) : CF P w K mg base CX0 "_law_kept" ["_law_model_here"] 1 (sLKept) := by
  refine cf__law_kept S fun f fd F => F.ok sc__law_kept (fun vs H Q E h => ?_) (fun cdv A outer s H vs Q E hr h => ?_)
  · first | (obtain ⟨_, rfl, _⟩ := h; rfl) | (obtain ⟨_, _, rfl, _⟩ := h; rfl) | (obtain ⟨_, _, _, rfl, _⟩ := h; rfl) | (obtain ⟨_, _, _, _, rfl, _⟩ := h; rfl) | (obtain ⟨_, _, _, _, _, rfl, _⟩ := h; rfl) | (obtain ⟨_, _, _, _, _, _, rfl, _⟩ := h; rfl) | (obtain ⟨_, _, _, _, _, _, _, rfl, _⟩ := h; rfl) | (obtain ⟨_, _, _, _, _, _, _, _, rfl, _⟩ := h; rfl) | (obtain ⟨_, _, _, _, _, _, _, _, _, rfl, _⟩ := h; rfl) | (obtain ⟨_, _, _, _, _, _, _, _, _, _, rfl, _⟩ := h; rfl) | (obtain ⟨_, _, _, _, _, _, _, _, _, _, _, rfl, _⟩ := h; rfl) | (obtain ⟨_, _, _, _, _, _, _, _, _, _, _, _, rfl, _⟩ := h; rfl) | (obtain ⟨_, _, _, _, _, _, _, _, _, _, _, _, _, rfl, _⟩ := h; rfl) | (obtain ⟨_, _, _, _, _, _, _, _, _, _, _, _, _, _, rfl, _⟩ := h; rfl) | (obtain ⟨_, _, _, _, _, _, _, _, _, _, _, _, _, _, _, rfl, _⟩ := h; rfl) | (obtain ⟨_, _, _, _, _, _, _, _, _, _, _, _, _, _, _, _, rfl, _⟩ := h; rfl) | (obtain ⟨_, _, _, _, _, _, _, _, _, _, _, _, _, _, _, _, _, rfl, _⟩ := h; rfl) | (obtain ⟨_, _, _, _, _, _, _, _, _, _, _, _, _, _, _, _, _, _, rfl, _⟩ := h; rfl) | (obtain ⟨_, _, _, _, _, _, _, _, _, _, _, _, _, _, _, _, _, _, _, rfl, _⟩ := h; rfl) | (obtain ⟨_, _, _, _, _, _, _, _, _, _, _, _, _, _, _, _, _, _, _, _, rfl, _⟩ := h; rfl) | (obtain ⟨_, _, _, _, _, _, _, _, _, _, _, _, _, _, _, _, _, _, _, _, _, rfl, _⟩ := h; rfl)
  obtain ⟨la, M, L, rfl, hb, ok, k⟩ := h
  replace hb := lm_open hb
  have g := ok.g
  have tl := ok.t.le
  refine ⟨_, PSs.nox (pss_one (ps_ret (pe_lc (own := [("_law_make", 1), ("_law_gone_here", 2)]) rfl sc__law_kept.nd (pi_enum (by rfl) (fr_enumerate S) (pa_cons (pe_dget (hu_of hr) (pv 0) pe_str (fun _ _ => rfl)) pa_nil)) (blkOk_by (N := ["_law_model_here", "_law_make", "_law_gone_here"]) (by kernel_rfl)) (fun _ _ _ _ _ => (pg_tupK (n := 2) (K := K) rfl rfl (pgs_cons (pg_name (i := 1) sc__law_kept.nd rfl (Or.inl rfl)) (pgs_cons (pg_name (i := 2) sc__law_kept.nd rfl (Or.inl rfl)) pgs_nil)))) (fun _ _ _ _ _ => (pts_one (pt_not (pt_val (pv 2))))) (fun _ _ _ _ _ => (pv 1))))), ?_⟩
  walk_at "hz.st"
  walk_at "hz.g"
  refine lc_w (walk_enumB (bs := M.gone)) hb (fun i D H => HB H ([(D, .lst (iv (keptUp M i)))] :: lmO la M L)) (fun D H h => h) (fun i D H _ h => SqL.of (h.at (by walk_at "hz.at"))) (fun i v D H H' hi h y => ?_) (fun D H h => ?_)
  · obtain ⟨T2, b2, rfl, hn, rfl, hg⟩ := y
    replace h := h.new (o := .tup [.int (i : Nat), .bl b2]) hn
    refine r_gtup ⟨T2, _, rfl, .of (h.at .here), rfl, ?_⟩
    walk_at "hz.g"
    have ks := keptUp_succ (M := M) (i := i)
    cases b2 with
    | true =>
      rw [if_neg (by unfold Mdl.kept; rw [hg]; simp)] at ks
      walk_at "hz.g"
      rw [ks]
      exact h.tail
    | false =>
      rw [if_pos hg] at ks
      walk_at "hz.g"
      have kl := keptUp_len (M := M) (i := i)
      refine lc_put h (.next .here) (by rw [iv_len]; exact sz100' (by omega)) fun H2 h2 => ?_
      rw [ks, iv_append]
      exact h2.tail
  · walk_at "hz.g"
    have e : keptUp M M.gone.length = M.keptL := by rw [g]; rfl
    rw [e] at h
    exact k _ _ h
def sLWriter : Sp := fun vs H Q _ => ∃ (la : LA) (M : Mdl) (m p : Nat) (L : List Blk), vs = [.ref la.md, .int m, .int p] ∧ HB H (lmB la M :: L) ∧ MdlOk M ∧ m ≤ M.T.length ∧ ∀ H', HB H' (lmB la M :: L) → Q (.int (M.last m p (p + 1) : Nat)) H'
theorem sc__law_writer : FnScope ["_law_model_here", "_law_make", "_law_place"] ["_law_model_here", "_law_make", "_law_place"] (defScope (top 49)) := ⟨rfl, rfl, rfl, by decide +kernel, rfl, by decide +kernel, by decide +kernel⟩
-- slots of _law_writer: _law_model_here 0, _law_make 1, _law_place 2
theorem ok__law_writer (S : Sit P w K mg base) : CF P w K mg base CX0 "_law_writer" ["_law_model_here", "_law_make", "_law_place"] 1 (sLWriter) := by
  refine cf__law_writer S fun f fd F => F.ok sc__law_writer (fun vs H Q E h => ?_) (fun cdv A outer s H vs Q E hr h => ?_)
  · first | (obtain ⟨_, rfl, _⟩ := h; rfl) | (obtain ⟨_, _, rfl, _⟩ := h; rfl) | (obtain ⟨_, _, _, rfl, _⟩ := h; rfl) | (obtain ⟨_, _, _, _, rfl, _⟩ := h; rfl) | (obtain ⟨_, _, _, _, _, rfl, _⟩ := h; rfl) | (obtain ⟨_, _, _, _, _, _, rfl, _⟩ := h; rfl) | (obtain ⟨_, _, _, _, _, _, _, rfl, _⟩ := h; rfl) | (obtain ⟨_, _, _, _, _, _, _, _, rfl, _⟩ := h; rfl) | (obtain ⟨_, _, _, _, _, _, _, _, _, rfl, _⟩ := h; rfl) | (obtain ⟨_, _, _, _, _, _, _, _, _, _, rfl, _⟩ := h; rfl) | (obtain ⟨_, _, _, _, _, _, _, _, _, _, _, rfl, _⟩ := h; rfl) | (obtain ⟨_, _, _, _, _, _, _, _, _, _, _, _, rfl, _⟩ := h; rfl) | (obtain ⟨_, _, _, _, _, _, _, _, _, _, _, _, _, rfl, _⟩ := h; rfl) | (obtain ⟨_, _, _, _, _, _, _, _, _, _, _, _, _, _, rfl, _⟩ := h; rfl) | (obtain ⟨_, _, _, _, _, _, _, _, _, _, _, _, _, _, _, rfl, _⟩ := h; rfl) | (obtain ⟨_, _, _, _, _, _, _, _, _, _, _, _, _, _, _, _, rfl, _⟩ := h; rfl) | (obtain ⟨_, _, _, _, _, _, _, _, _, _, _, _, _, _, _, _, _, rfl, _⟩ := h; rfl) | (obtain ⟨_, _, _, _, _, _, _, _, _, _, _, _, _, _, _, _, _, _, rfl, _⟩ := h; rfl) | (obtain ⟨_, _, _, _, _, _, _, _, _, _, _, _, _, _, _, _, _, _, _, rfl, _⟩ := h; rfl) | (obtain ⟨_, _, _, _, _, _, _, _, _, _, _, _, _, _, _, _, _, _, _, _, rfl, _⟩ := h; rfl) | (obtain ⟨_, _, _, _, _, _, _, _, _, _, _, _, _, _, _, _, _, _, _, _, _, rfl, _⟩ := h; rfl)
  obtain ⟨la, M, m, p, L, rfl, hb, ok, hm, k⟩ := h
  replace hb := lm_open hb
  refine ⟨_, PSs.nox (pss_cons (ps_while PassesOwn.never (PW.pt (pw_and (pt_cmpR op_gt (pv 1) pe_int (nomark _)) (pw_and1 (pt_cmpR op_ne (pe_ix (ix_listK (K := K) rfl) (pe_dget (hu_of hr) (pv 0) pe_str (fun _ _ => rfl)) (pv 1) (fun _ _ => rfl)) (pv 2) (nomark _))))) (pss_one (ps_set (i := 1) sc__law_writer.nd rfl (Or.inl rfl) (pe_ix (ix_listK (K := K) rfl) (pe_dget (hu_of hr) (pv 0) pe_str (fun _ _ => rfl)) (pv 1) (fun _ _ => rfl)))))
      (pss_one (ps_ret (pv 1)))), ?_⟩
  walk_at "hz.st"
  walk_at "hz.g"
  refine while_w (fun n σ H => ∃ j, n = j ∧ j ≤ m ∧ σ = [some (.ref la.md), some (.int (j : Nat)), some (.int p)] ∧ M.last j p (p + 1) = M.last m p (p + 1) ∧ HB H (lmO la M L)) m ⟨m, rfl, Nat.le_refl _, rfl, rfl, hb⟩ ?_
  rintro n σ H1 ⟨j, rfl, hj, rfl, el, h1⟩
  walk_at "hz.g"
  by_cases c : 0 < n
  · refine r_yes (decide_eq_true (by omega)) ?_
    walk_at "hz.g"
    by_cases c2 : wsv M.W n = p
    · refine r_no (by simp [c2]) ?_
      walk_at "hz.g"
      rw [← el, show M.last n p (p + 1) = n from last_yes c ⟨by omega, by omega⟩] at k
      exact k _ h1
    · refine r_yes (by simp; omega) ?_
      refine r_wh ?_
      walk_at "hz.g"
      exact ⟨par M.T n, par_lt c, par M.T n, rfl, by have := par_lt (T := M.T) c; omega, rfl, by rw [← el]; exact (last_no c (by omega)).symm, h1⟩
  · refine r_no (decide_eq_false (by omega)) ?_
    walk_at "hz.g"
    obtain rfl : n = 0 := by omega
    rw [← el, show M.last 0 p (p + 1) = 0 from last_zero] at k
    exact k _ h1

/-! L2: what the law's own makes tell -/
def sLValue : Sp := fun vs H Q _ => ∃ (la : LA) (M : Mdl) (m p : Nat) (L : List Blk), vs = [.ref la.md, .int m, .int p] ∧ HB H (lmB la M :: L) ∧ MdlOk M ∧ m ≤ M.T.length ∧ p < M.F.length ∧ ∀ H', HB H' (lmB la M :: L) → Q (.int (M.val m p)) H'
theorem sc__law_value : FnScope ["_law_model_here", "_law_make", "_law_place", "_law_writer_here"] ["_law_model_here", "_law_make", "_law_place"] (defScope (top 50)) := ⟨rfl, rfl, rfl, by decide +kernel, rfl, by decide +kernel, by decide +kernel⟩
-- slots of _law_value: _law_model_here 0, _law_make 1, _law_place 2, _law_writer_here 3
theorem ok__law_value (S : Sit P w K mg base) : CF P w K mg base CX0 "_law_value" ["_law_model_here", "_law_make", "_law_place"] 3 (sLValue) := by
  refine cf__law_value S fun f fd F => F.ok sc__law_value (fun vs H Q E h => ?_) (fun cdv A outer s H vs Q E hr h => ?_)
  · first | (obtain ⟨_, rfl, _⟩ := h; rfl) | (obtain ⟨_, _, rfl, _⟩ := h; rfl) | (obtain ⟨_, _, _, rfl, _⟩ := h; rfl) | (obtain ⟨_, _, _, _, rfl, _⟩ := h; rfl) | (obtain ⟨_, _, _, _, _, rfl, _⟩ := h; rfl) | (obtain ⟨_, _, _, _, _, _, rfl, _⟩ := h; rfl) | (obtain ⟨_, _, _, _, _, _, _, rfl, _⟩ := h; rfl) | (obtain ⟨_, _, _, _, _, _, _, _, rfl, _⟩ := h; rfl) | (obtain ⟨_, _, _, _, _, _, _, _, _, rfl, _⟩ := h; rfl) | (obtain ⟨_, _, _, _, _, _, _, _, _, _, rfl, _⟩ := h; rfl) | (obtain ⟨_, _, _, _, _, _, _, _, _, _, _, rfl, _⟩ := h; rfl) | (obtain ⟨_, _, _, _, _, _, _, _, _, _, _, _, rfl, _⟩ := h; rfl) | (obtain ⟨_, _, _, _, _, _, _, _, _, _, _, _, _, rfl, _⟩ := h; rfl) | (obtain ⟨_, _, _, _, _, _, _, _, _, _, _, _, _, _, rfl, _⟩ := h; rfl) | (obtain ⟨_, _, _, _, _, _, _, _, _, _, _, _, _, _, _, rfl, _⟩ := h; rfl) | (obtain ⟨_, _, _, _, _, _, _, _, _, _, _, _, _, _, _, _, rfl, _⟩ := h; rfl) | (obtain ⟨_, _, _, _, _, _, _, _, _, _, _, _, _, _, _, _, _, rfl, _⟩ := h; rfl) | (obtain ⟨_, _, _, _, _, _, _, _, _, _, _, _, _, _, _, _, _, _, rfl, _⟩ := h; rfl) | (obtain ⟨_, _, _, _, _, _, _, _, _, _, _, _, _, _, _, _, _, _, _, rfl, _⟩ := h; rfl) | (obtain ⟨_, _, _, _, _, _, _, _, _, _, _, _, _, _, _, _, _, _, _, _, rfl, _⟩ := h; rfl) | (obtain ⟨_, _, _, _, _, _, _, _, _, _, _, _, _, _, _, _, _, _, _, _, _, rfl, _⟩ := h; rfl)
  obtain ⟨la, M, m, p, L, rfl, hb, ok, hm, hp, k⟩ := h
  have vl := ok.v
  refine ⟨_, PSs.nox (pss_cons (ps_set (i := 3) sc__law_value.nd rfl (Or.inl rfl) (pe_callC (ok__law_writer S) (hr.mono (by decide)) (by rfl) pass0 (pa_cons (pv 0) (pa_cons (pv 1) (pa_cons (pv 2) pa_nil)))))
      (pss_one (ps_ret (pe_ifExp (pt_cmpR op_eq (pv 3) pe_int (nomark _)) (pe_ix (ix_listK (K := K) rfl) (pe_dget (hu_of hr) (pv 0) pe_str (fun _ _ => rfl)) (pv 2) (fun _ _ => rfl)) (pe_ix (ix_listK (K := K) rfl) (pe_dget (hu_of hr) (pv 0) pe_str (fun _ _ => rfl)) (pv 3) (fun _ _ => rfl)))))), ?_⟩
  walk_at "hz.st"
  walk_at "hz.g"
  refine ⟨la, M, m, p, L, rfl, hb, ok, hm, fun H1 h1 => ?_⟩
  replace h1 := lm_open h1
  have hl := last_le (T := M.T) (W := M.W) (m := m) (lo := p) (hi := p + 1)
  walk_at "hz.g"
  by_cases c : M.last m p (p + 1) = 0
  · refine r_yes (decide_eq_true (by omega)) ?_
    have ei := atI_ints hp
    walk_at "hz.g"
    rw [show M.F.getD p 0 = M.val m p from (if_pos c).symm]
    exact k _ h1
  · refine r_no (decide_eq_false (by omega)) ?_
    have hl2 : M.last m p (p + 1) < M.T.length + 1 := Nat.lt_succ_of_le (Nat.le_trans hl hm)
    have hl3 : 0 < M.last m p (p + 1) := by omega
    have ei := atI_vv (Vs := M.Vs) hl3 hl2
    walk_at "hz.g"
    rw [show M.Vs.getD (M.last m p (p + 1) - 1) 0 = M.val m p from (if_neg c).symm]
    exact k _ h1
def sLPicked : Sp := fun vs H Q _ => ∃ (bx : Addr) (x y z : Nat) (la : LA) (M : Mdl) (L : List Blk), vs = [.ref bx, .ref la.md] ∧ HB H (bxB bx x y z :: lmB la M :: L) ∧ y < 2147483629 ∧ MdlOk M ∧ (∃ m, M.kept m) ∧
  ∀ m x' z' H', M.kept m → HB H' (bxB bx x' y z' :: lmB la M :: L) → Q (.int (m : Nat)) H'
theorem sc__law_picked : FnScope ["_law_box_here", "_law_model_here", "_law_kept_here", "_law_way"] ["_law_box_here", "_law_model_here"] (defScope (top 53)) := ⟨rfl, rfl, rfl, by decide +kernel, rfl, by decide +kernel, by decide +kernel⟩
-- slots of _law_picked: _law_box_here 0, _law_model_here 1, _law_kept_here 2, _law_way 3
theorem ok__law_picked (S : Sit P w K mg base) : CF P w K mg base CX0 "_law_picked" ["_law_box_here", "_law_model_here"] 3 (sLPicked) := by
  refine cf__law_picked S fun f fd F => F.ok sc__law_picked (fun vs H Q E h => ?_) (fun cdv A outer s H vs Q E hr h => ?_)
  · first | (obtain ⟨_, rfl, _⟩ := h; rfl) | (obtain ⟨_, _, rfl, _⟩ := h; rfl) | (obtain ⟨_, _, _, rfl, _⟩ := h; rfl) | (obtain ⟨_, _, _, _, rfl, _⟩ := h; rfl) | (obtain ⟨_, _, _, _, _, rfl, _⟩ := h; rfl) | (obtain ⟨_, _, _, _, _, _, rfl, _⟩ := h; rfl) | (obtain ⟨_, _, _, _, _, _, _, rfl, _⟩ := h; rfl) | (obtain ⟨_, _, _, _, _, _, _, _, rfl, _⟩ := h; rfl) | (obtain ⟨_, _, _, _, _, _, _, _, _, rfl, _⟩ := h; rfl) | (obtain ⟨_, _, _, _, _, _, _, _, _, _, rfl, _⟩ := h; rfl) | (obtain ⟨_, _, _, _, _, _, _, _, _, _, _, rfl, _⟩ := h; rfl) | (obtain ⟨_, _, _, _, _, _, _, _, _, _, _, _, rfl, _⟩ := h; rfl) | (obtain ⟨_, _, _, _, _, _, _, _, _, _, _, _, _, rfl, _⟩ := h; rfl) | (obtain ⟨_, _, _, _, _, _, _, _, _, _, _, _, _, _, rfl, _⟩ := h; rfl) | (obtain ⟨_, _, _, _, _, _, _, _, _, _, _, _, _, _, _, rfl, _⟩ := h; rfl) | (obtain ⟨_, _, _, _, _, _, _, _, _, _, _, _, _, _, _, _, rfl, _⟩ := h; rfl) | (obtain ⟨_, _, _, _, _, _, _, _, _, _, _, _, _, _, _, _, _, rfl, _⟩ := h; rfl) | (obtain ⟨_, _, _, _, _, _, _, _, _, _, _, _, _, _, _, _, _, _, rfl, _⟩ := h; rfl) | (obtain ⟨_, _, _, _, _, _, _, _, _, _, _, _, _, _, _, _, _, _, _, rfl, _⟩ := h; rfl) | (obtain ⟨_, _, _, _, _, _, _, _, _, _, _, _, _, _, _, _, _, _, _, _, rfl, _⟩ := h; rfl) | (obtain ⟨_, _, _, _, _, _, _, _, _, _, _, _, _, _, _, _, _, _, _, _, _, rfl, _⟩ := h; rfl)
  obtain ⟨bx, x, y, z, la, M, L, rfl, hb, hy, ok, ⟨m0, hm0⟩, k⟩ := h
  have k0 : 1 ≤ M.keptL.length := List.length_pos_of_mem ((keptL_mem ok).mpr hm0)
  have kl : M.keptL.length ≤ 64 := by
    have tl := ok.t.le
    unfold Mdl.keptL
    refine Nat.le_trans (List.length_filter_le _ _) ?_
    rw [List.length_range]
    omega
  refine ⟨_, PSs.nox (pss_cons (ps_set (i := 2) sc__law_picked.nd rfl (Or.inl rfl) (pe_callC (ok__law_kept S) (hr.mono (by decide)) (by rfl) pass0 (pa_cons (pv 1) pa_nil)))
      (pss_cons (ps_set (i := 3) sc__law_picked.nd rfl (Or.inl rfl) (pe_callC (ok__law_take S) (hr.mono (by decide)) (by rfl) pass0 (pa_cons (pv 0) (pa_cons pe_int pa_nil))))
      (pss_cons (ps_if (pt_cmpR op_eq (pv 3) pe_int (nomark _)) (pss_one (ps_ret (pe_ix (ix_listK (K := K) rfl) (pv 2) (pe_un un_neg pe_int) (fun _ _ => rfl)))) pss_nil)
      (pss_cons (ps_if (pt_cmpR op_eq (pv 3) pe_int (nomark _)) (pss_one (ps_ret (pe_ix (ix_listK (K := K) rfl) (pv 2) (pe_op op_sub (pe_un un_neg pe_int) (pe_callC (ok__law_take S) (hr.mono (by decide)) (by rfl) pass0 (pa_cons (pv 0) (pa_cons (pe_callB (call_min2C rfl) (by rfl) (fr_min S) bt_min (pa_cons pe_int (pa_cons (pe_callB (call_lenK (K := K) rfl) (by rfl) (fr_len S) bt_len (pa_cons (pv 2) pa_nil)) pa_nil))) pa_nil)))) (fun _ _ => rfl)))) pss_nil)
      (pss_one (ps_ret (pe_ix (ix_listK (K := K) rfl) (pv 2) (pe_op op_mul (pe_callC (ok__law_take S) (hr.mono (by decide)) (by rfl) pass0 (pa_cons (pv 0) (pa_cons (pe_callB (call_lenK (K := K) rfl) (by rfl) (fr_len S) bt_len (pa_cons (pv 2) pa_nil)) pa_nil))) (pe_callTy call_int1C (by rfl) (fr_int S) bt_int (pa_cons (pe_or (pe_cmpR op_eq (pv 3) pe_int (nomark _)) (pe_one (pe_callC (ok__law_take S) (hr.mono (by decide)) (by rfl) pass0 (pa_cons (pv 0) (pa_cons pe_int pa_nil))))) pa_nil))) (fun _ _ => rfl)))))))), ?_⟩
  walk_at "hz.st"
  walk_at "hz.g"
  refine ⟨la, M, _, rfl, hb.swap, ok, fun p H1 h1 => ?_⟩
  walk_at "hz.g"
  refine ⟨bx, x, y, z, 4, _, rfl, h1.sub_of (Ts := bxB bx x y z :: [(p, .lst (iv M.keptL))] :: lmB la M :: L) (by walk_at "hz.sub"), by decide, hy, fun d x1 z1 H2 hd h2 => ?_⟩
  walk_at "hz.g"
  by_cases c : d = 0
  · refine r_yes (decide_eq_true (by omega)) ?_
    obtain ⟨m, hm, em⟩ := atI_iv_mem (xs := M.keptL) (i := -1) (by omega)
    walk_at "hz.g"
    exact k m _ _ _ ((keptL_mem ok).mp hm) (h2.sub_of (by walk_at "hz.sub"))
  · refine r_no (decide_eq_false (by omega)) ?_
    walk_at "hz.g"
    by_cases c2 : d = 1
    · refine r_yes (decide_eq_true (by omega)) ?_
      walk_at "hz.g"
      obtain ⟨n, hn1, hn2, en⟩ : ∃ n : Nat, 1 ≤ n ∧ n ≤ M.keptL.length ∧ (if (M.keptL.length : Int) < 3 then (M.keptL.length : Int) else 3) = (n : Int) := by
        by_cases c3 : (M.keptL.length : Int) < 3
        · exact ⟨M.keptL.length, k0, Nat.le_refl _, if_pos c3⟩
        · exact ⟨3, by decide, by omega, if_neg c3⟩
      rw [en]
      refine ⟨bx, x1, y, z1, n, _, rfl, h2, ⟨hn1, by omega⟩, hy, fun d2 x2 z2 H3 hd2 h3 => ?_⟩
      obtain ⟨m, hm, em⟩ := atI_iv_mem (xs := M.keptL) (i := -1 - (d2 : Int)) (by omega)
      walk_at "hz.g"
      exact k m _ _ _ ((keptL_mem ok).mp hm) (h3.sub_of (by walk_at "hz.sub"))
    · refine r_no (decide_eq_false (by omega)) ?_
      walk_at "hz.g"
      refine ⟨bx, x1, y, z1, M.keptL.length, _, rfl, h2, ⟨k0, by omega⟩, hy, fun d2 x2 z2 H3 hd2 h3 => ?_⟩
      walk_at "hz.g"
      by_cases c3 : d = 2
      · refine r_yes (decide_eq_true (by omega)) ?_
        obtain ⟨m, hm, em⟩ := atI_iv_mem (xs := M.keptL) (i := (d2 : Int) * (if true = true then 1 else 0)) (by rw [if_pos rfl]; omega)
        walk_at "hz.g"
        exact k m _ _ _ ((keptL_mem ok).mp hm) (h3.sub_of (by walk_at "hz.sub"))
      · refine r_no (decide_eq_false (by omega)) ?_
        walk_at "hz.g"
        refine ⟨bx, x2, y, z2, 2, _, rfl, h3, by decide, hy, fun d3 x3 z3 H4 hd3 h4 => ?_⟩
        obtain ⟨m, hm, em⟩ := atI_iv_mem (xs := M.keptL) (i := (d2 : Int) * (d3 : Int)) (by
          have cs : d3 = 0 ∨ d3 = 1 := by omega
          rcases cs with rfl | rfl <;> omega)
        walk_at "hz.g"
        exact k m _ _ _ ((keptL_mem ok).mp hm) (h4.sub_of (by walk_at "hz.sub"))
def sLGrown : Sp := fun vs H Q _ => ∃ (la : LA) (M : Mdl) (m p : Nat) (w0 : Int) (L : List Blk), vs = [.ref la.md, .int m, .int p, .int w0] ∧ HB H (lmB la M :: L) ∧ MdlOk M ∧ m ≤ M.T.length ∧ M.T.length < 63 ∧
  ∀ H', HB H' (lmB la (M.put m p w0) :: L) → Q (.int ((M.T.length + 1 : Nat) : Int)) H'
theorem sc__law_grown : FnScope ["_law_model_here", "_law_make", "_law_place", "_law_worth_here"] ["_law_model_here", "_law_make", "_law_place", "_law_worth_here"] (defScope (top 54)) := ⟨rfl, rfl, rfl, by decide +kernel, rfl, by decide +kernel, by decide +kernel⟩
-- slots of _law_grown: _law_model_here 0, _law_make 1, _law_place 2, _law_worth_here 3
theorem ok__law_grown (S : Sit P w K mg base) : CF P w K mg base CX0 "_law_grown" ["_law_model_here", "_law_make", "_law_place", "_law_worth_here"] 1 (sLGrown) := by
  refine cf__law_grown S fun f fd F => F.ok sc__law_grown (fun vs H Q E h => ?_) (fun cdv A outer s H vs Q E hr h => ?_)
  · first | (obtain ⟨_, rfl, _⟩ := h; rfl) | (obtain ⟨_, _, rfl, _⟩ := h; rfl) | (obtain ⟨_, _, _, rfl, _⟩ := h; rfl) | (obtain ⟨_, _, _, _, rfl, _⟩ := h; rfl) | (obtain ⟨_, _, _, _, _, rfl, _⟩ := h; rfl) | (obtain ⟨_, _, _, _, _, _, rfl, _⟩ := h; rfl) | (obtain ⟨_, _, _, _, _, _, _, rfl, _⟩ := h; rfl) | (obtain ⟨_, _, _, _, _, _, _, _, rfl, _⟩ := h; rfl) | (obtain ⟨_, _, _, _, _, _, _, _, _, rfl, _⟩ := h; rfl) | (obtain ⟨_, _, _, _, _, _, _, _, _, _, rfl, _⟩ := h; rfl) | (obtain ⟨_, _, _, _, _, _, _, _, _, _, _, rfl, _⟩ := h; rfl) | (obtain ⟨_, _, _, _, _, _, _, _, _, _, _, _, rfl, _⟩ := h; rfl) | (obtain ⟨_, _, _, _, _, _, _, _, _, _, _, _, _, rfl, _⟩ := h; rfl) | (obtain ⟨_, _, _, _, _, _, _, _, _, _, _, _, _, _, rfl, _⟩ := h; rfl) | (obtain ⟨_, _, _, _, _, _, _, _, _, _, _, _, _, _, _, rfl, _⟩ := h; rfl) | (obtain ⟨_, _, _, _, _, _, _, _, _, _, _, _, _, _, _, _, rfl, _⟩ := h; rfl) | (obtain ⟨_, _, _, _, _, _, _, _, _, _, _, _, _, _, _, _, _, rfl, _⟩ := h; rfl) | (obtain ⟨_, _, _, _, _, _, _, _, _, _, _, _, _, _, _, _, _, _, rfl, _⟩ := h; rfl) | (obtain ⟨_, _, _, _, _, _, _, _, _, _, _, _, _, _, _, _, _, _, _, rfl, _⟩ := h; rfl) | (obtain ⟨_, _, _, _, _, _, _, _, _, _, _, _, _, _, _, _, _, _, _, _, rfl, _⟩ := h; rfl) | (obtain ⟨_, _, _, _, _, _, _, _, _, _, _, _, _, _, _, _, _, _, _, _, _, rfl, _⟩ := h; rfl)
  obtain ⟨la, M, m, p, w0, L, rfl, hb, ok, hm, hl, k⟩ := h
  replace hb := lm_open hb
  have g := ok.g
  refine ⟨_, PSs.nox (pss_cons (ps_expr (pe_bm PySem.F.plainAttrs_list PySem.F.slot_list_append PySem.F.type_list_append mt_append (pe_dget (hu_of hr) (pv 0) pe_str (fun _ _ => rfl)) (pa_cons (pv 1) pa_nil)))
      (pss_cons (ps_expr (pe_bm PySem.F.plainAttrs_list PySem.F.slot_list_append PySem.F.type_list_append mt_append (pe_dget (hu_of hr) (pv 0) pe_str (fun _ _ => rfl)) (pa_cons (pv 2) pa_nil)))
      (pss_cons (ps_expr (pe_bm PySem.F.plainAttrs_list PySem.F.slot_list_append PySem.F.type_list_append mt_append (pe_dget (hu_of hr) (pv 0) pe_str (fun _ _ => rfl)) (pa_cons (pv 3) pa_nil)))
      (pss_cons (ps_expr (pe_bm PySem.F.plainAttrs_list PySem.F.slot_list_append PySem.F.type_list_append mt_append (pe_dget (hu_of hr) (pv 0) pe_str (fun _ _ => rfl)) (pa_cons pe_bl pa_nil)))
      (pss_one (ps_ret (pe_op op_sub (pe_callB (call_lenK (K := K) rfl) (by rfl) (fr_len S) bt_len (pa_cons (pe_dget (hu_of hr) (pv 0) pe_str (fun _ _ => rfl)) pa_nil)) pe_int))))))), ?_⟩
  walk_at "hz.st"
  walk_at "hz.g"
  · rw [rm_len]; exact sz100' (by omega)
  intro H1 h1
  walk_at "hz.g"
  · rw [rm_len]; exact sz100' (by omega)
  intro H2 h2
  walk_at "hz.g"
  · rw [rm_len]; exact sz100' (by omega)
  intro H3 h3
  walk_at "hz.g"
  · rw [List.length_map]; exact sz100' (by omega)
  intro H4 h4
  walk_at "hz.g"
  have el : (((rm (M.T.length + 1) (ov M.T) ++ [V.int (m : Int)]).length : Nat) : Int) - 1 = ((M.T.length + 1 : Nat) : Int) := by
    rw [List.length_append, rm_len]
    simp
  rw [el]
  have ew : rm (M.T.length + 1) (wv M.W) ++ [.int (p : Int)] = rm ((M.T ++ [m]).length + 1) (wv (M.W ++ [p])) := by
    rw [← ok.w, wr_snoc, List.length_append, List.length_append, ok.w]
    rfl
  have ev : rm (M.T.length + 1) (vv M.Vs) ++ [.int w0] = rm ((M.T ++ [m]).length + 1) (vv (M.Vs ++ [w0])) := by
    rw [← ok.v, vv_snoc, List.length_append, List.length_append, ok.v]
    rfl
  have eg : M.gone.map V.bl ++ [.bl false] = (M.gone ++ [false]).map V.bl := by
    rw [List.map_append]
    rfl
  rw [ow_snoc hm, ew, ev, eg] at h4
  exact k _ (lm_close (M := M.put m p w0) h4)
def sLDrawn : Sp := fun vs H Q _ => ∃ (bx : Addr) (x y z : Nat) (la : LA) (M : Mdl) (L : List Blk), vs = [.ref bx, .ref la.md] ∧ HB H (bxB bx x y z :: lmB la M :: L) ∧ y < 2147483629 ∧ MdlOk M ∧ (∃ m, M.kept m) ∧
  ∀ t m p w0 x' z' H', M.kept m → p < M.F.length → isW w0 = true → HB H' ([(t, .tup [.int (m : Nat), .int (p : Nat), .int w0])] :: bxB bx x' y z' :: lmB la M :: L) → Q (.ref t) H'
theorem sc__law_drawn : FnScope ["_law_box_here", "_law_model_here", "_law_make", "_law_place"] ["_law_box_here", "_law_model_here"] (defScope (top 57)) := ⟨rfl, rfl, rfl, by decide +kernel, rfl, by decide +kernel, by decide +kernel⟩
-- slots of _law_drawn: _law_box_here 0, _law_model_here 1, _law_make 2, _law_place 3
theorem ok__law_drawn (S : Sit P w K mg base) : CF P w K mg base CX0 "_law_drawn" ["_law_box_here", "_law_model_here"] 7 (sLDrawn) := by
  refine cf__law_drawn S fun f fd F => F.ok sc__law_drawn (fun vs H Q E h => ?_) (fun cdv A outer s H vs Q E hr h => ?_)
  · first | (obtain ⟨_, rfl, _⟩ := h; rfl) | (obtain ⟨_, _, rfl, _⟩ := h; rfl) | (obtain ⟨_, _, _, rfl, _⟩ := h; rfl) | (obtain ⟨_, _, _, _, rfl, _⟩ := h; rfl) | (obtain ⟨_, _, _, _, _, rfl, _⟩ := h; rfl) | (obtain ⟨_, _, _, _, _, _, rfl, _⟩ := h; rfl) | (obtain ⟨_, _, _, _, _, _, _, rfl, _⟩ := h; rfl) | (obtain ⟨_, _, _, _, _, _, _, _, rfl, _⟩ := h; rfl) | (obtain ⟨_, _, _, _, _, _, _, _, _, rfl, _⟩ := h; rfl) | (obtain ⟨_, _, _, _, _, _, _, _, _, _, rfl, _⟩ := h; rfl) | (obtain ⟨_, _, _, _, _, _, _, _, _, _, _, rfl, _⟩ := h; rfl) | (obtain ⟨_, _, _, _, _, _, _, _, _, _, _, _, rfl, _⟩ := h; rfl) | (obtain ⟨_, _, _, _, _, _, _, _, _, _, _, _, _, rfl, _⟩ := h; rfl) | (obtain ⟨_, _, _, _, _, _, _, _, _, _, _, _, _, _, rfl, _⟩ := h; rfl) | (obtain ⟨_, _, _, _, _, _, _, _, _, _, _, _, _, _, _, rfl, _⟩ := h; rfl) | (obtain ⟨_, _, _, _, _, _, _, _, _, _, _, _, _, _, _, _, rfl, _⟩ := h; rfl) | (obtain ⟨_, _, _, _, _, _, _, _, _, _, _, _, _, _, _, _, _, rfl, _⟩ := h; rfl) | (obtain ⟨_, _, _, _, _, _, _, _, _, _, _, _, _, _, _, _, _, _, rfl, _⟩ := h; rfl) | (obtain ⟨_, _, _, _, _, _, _, _, _, _, _, _, _, _, _, _, _, _, _, rfl, _⟩ := h; rfl) | (obtain ⟨_, _, _, _, _, _, _, _, _, _, _, _, _, _, _, _, _, _, _, _, rfl, _⟩ := h; rfl) | (obtain ⟨_, _, _, _, _, _, _, _, _, _, _, _, _, _, _, _, _, _, _, _, _, rfl, _⟩ := h; rfl)
  obtain ⟨bx, x, y, z, la, M, L, rfl, hb, hy, ok, he, k⟩ := h
  refine ⟨_, PSs.nox (pss_cons (ps_set (i := 2) sc__law_drawn.nd rfl (Or.inl rfl) (pe_callC (ok__law_picked S) (hr.mono (by decide)) (by rfl) pass0 (pa_cons (pv 0) (pa_cons (pv 1) pa_nil))))
      (pss_cons (ps_set (i := 3) sc__law_drawn.nd rfl (Or.inl rfl) (pe_callC (ok__law_take S) (hr.mono (by decide)) (by rfl) pass0 (pa_cons (pv 0) (pa_cons (pe_callB (call_lenK (K := K) rfl) (by rfl) (fr_len S) bt_len (pa_cons (pe_dget (hu_of hr) (pv 1) pe_str (fun _ _ => rfl)) pa_nil)) pa_nil))))
      (pss_one (ps_ret (pe_tup (pa_cons (pv 2) (pa_cons (pv 3) (pa_cons (pe_ix (ix_listK (K := K) rfl) (pe_lst (pa_cons (pe_callC (ok__law_worth S) (hr.mono (by decide)) (by rfl) pass0 (pa_cons (pv 0) pa_nil)) (pa_cons (pe_callC (ok__law_value S) (hr.mono (by decide)) (by rfl) pass0 (pa_cons (pv 1) (pa_cons (pv 2) (pa_cons (pv 3) pa_nil)))) pa_nil))) (pe_callTy call_int1C (by rfl) (fr_int S) bt_int (pa_cons (pe_cmpR op_eq (pe_callC (ok__law_take S) (hr.mono (by decide)) (by rfl) pass0 (pa_cons (pv 0) (pa_cons pe_int pa_nil))) pe_int (nomark _)) pa_nil)) (fun _ _ => rfl)) pa_nil)))))))), ?_⟩
  walk_at "hz.st"
  walk_at "hz.g"
  refine ⟨bx, x, y, z, la, M, L, rfl, hb, hy, ok, he, fun m x1 z1 H1 hm h1 => ?_⟩
  have hml := ok.le hm
  replace h1 := lm_open h1.swap
  walk_at "hz.g"
  rw [List.length_map]
  refine ⟨bx, x1, y, z1, M.F.length, _, rfl, h1.sub_of (Ts := bxB bx x1 y z1 :: lmO la M L) (by walk_at "hz.sub"), ⟨ok.f.1, by have := ok.f.2; omega⟩, hy, fun p x2 z2 H2 hp h2 => ?_⟩
  walk_at "hz.g"
  refine ⟨bx, x2, y, z2, _, rfl, h2, hy, fun w0 x3 z3 H3 hw h3 => ?_⟩
  walk_at "hz.g"
  refine ⟨la, M, m, p, _, rfl, lm_close (h3.sub_of (Ts := lmO la M (bxB bx x3 y z3 :: L)) (by walk_at "hz.sub")), ok, hml, hp, fun H4 h4 => ?_⟩
  walk_at "hz.g"
  rename_i q H5 h5
  refine ⟨bx, x3, y, z3, 5, _, rfl, h5.sub_of (Ts := bxB bx x3 y z3 :: [(q, .lst [.int w0, .int (M.val m p)])] :: lmB la M :: L) (by walk_at "hz.sub"), by decide, hy, fun d x4 z4 H6 hd h6 => ?_⟩
  obtain ⟨w1, hw1, ei⟩ : ∃ w1, isW w1 = true ∧ atI [V.int w0, V.int (M.val m p)] (if decide ((d : Int) = 0) = true then 1 else 0) = some (.int w1) := by
    by_cases c : d = 0
    · exact ⟨M.val m p, val_isW ok hp, by rw [if_pos (by simp [c])]; exact atI_c1⟩
    · exact ⟨w0, hw, by rw [if_neg (by simp [c])]; exact atI_c0⟩
  walk_at "hz.g"
  rename_i t H7 h7
  exact k _ _ _ _ _ _ _ hm hp hw1 (h7.sub_of (by walk_at "hz.sub"))
def sLLast : Sp := fun vs H Q _ => ∃ (la : LA) (M : Mdl) (m lo hi : Nat) (L : List Blk), vs = [.ref la.md, .int m, .int lo, .int hi] ∧ HB H (lmB la M :: L) ∧ MdlOk M ∧ m ≤ M.T.length ∧ ∀ H', HB H' (lmB la M :: L) → Q (.int (M.last m lo hi : Nat)) H'
theorem sc__law_last : FnScope ["_law_model_here", "_law_make", "_law_low", "_law_high"] ["_law_model_here", "_law_make", "_law_low", "_law_high"] (defScope (top 62)) := ⟨rfl, rfl, rfl, by decide +kernel, rfl, by decide +kernel, by decide +kernel⟩
-- slots of _law_last: _law_model_here 0, _law_make 1, _law_low 2, _law_high 3
theorem ok__law_last (S : Sit P w K mg base) : CF P w K mg base CX0 "_law_last" ["_law_model_here", "_law_make", "_law_low", "_law_high"] 1 (sLLast) := by
  refine cf__law_last S fun f fd F => F.ok sc__law_last (fun vs H Q E h => ?_) (fun cdv A outer s H vs Q E hr h => ?_)
  · first | (obtain ⟨_, rfl, _⟩ := h; rfl) | (obtain ⟨_, _, rfl, _⟩ := h; rfl) | (obtain ⟨_, _, _, rfl, _⟩ := h; rfl) | (obtain ⟨_, _, _, _, rfl, _⟩ := h; rfl) | (obtain ⟨_, _, _, _, _, rfl, _⟩ := h; rfl) | (obtain ⟨_, _, _, _, _, _, rfl, _⟩ := h; rfl) | (obtain ⟨_, _, _, _, _, _, _, rfl, _⟩ := h; rfl) | (obtain ⟨_, _, _, _, _, _, _, _, rfl, _⟩ := h; rfl) | (obtain ⟨_, _, _, _, _, _, _, _, _, rfl, _⟩ := h; rfl) | (obtain ⟨_, _, _, _, _, _, _, _, _, _, rfl, _⟩ := h; rfl) | (obtain ⟨_, _, _, _, _, _, _, _, _, _, _, rfl, _⟩ := h; rfl) | (obtain ⟨_, _, _, _, _, _, _, _, _, _, _, _, rfl, _⟩ := h; rfl) | (obtain ⟨_, _, _, _, _, _, _, _, _, _, _, _, _, rfl, _⟩ := h; rfl) | (obtain ⟨_, _, _, _, _, _, _, _, _, _, _, _, _, _, rfl, _⟩ := h; rfl) | (obtain ⟨_, _, _, _, _, _, _, _, _, _, _, _, _, _, _, rfl, _⟩ := h; rfl) | (obtain ⟨_, _, _, _, _, _, _, _, _, _, _, _, _, _, _, _, rfl, _⟩ := h; rfl) | (obtain ⟨_, _, _, _, _, _, _, _, _, _, _, _, _, _, _, _, _, rfl, _⟩ := h; rfl) | (obtain ⟨_, _, _, _, _, _, _, _, _, _, _, _, _, _, _, _, _, _, rfl, _⟩ := h; rfl) | (obtain ⟨_, _, _, _, _, _, _, _, _, _, _, _, _, _, _, _, _, _, _, rfl, _⟩ := h; rfl) | (obtain ⟨_, _, _, _, _, _, _, _, _, _, _, _, _, _, _, _, _, _, _, _, rfl, _⟩ := h; rfl) | (obtain ⟨_, _, _, _, _, _, _, _, _, _, _, _, _, _, _, _, _, _, _, _, _, rfl, _⟩ := h; rfl)
  obtain ⟨la, M, m, lo, hi, L, rfl, hb, ok, hm, k⟩ := h
  replace hb := lm_open hb
  refine ⟨_, PSs.nox (pss_cons (ps_while PassesOwn.never (PW.pt (pw_and (pt_cmpR op_gt (pv 1) pe_int (nomark _)) (pw_and1 (pt_not (pt_chain op_le op_lt (pv 2) (pe_ix (ix_listK (K := K) rfl) (pe_dget (hu_of hr) (pv 0) pe_str (fun _ _ => rfl)) (pv 1) (fun _ _ => rfl)) (pv 3)))))) (pss_one (ps_set (i := 1) sc__law_last.nd rfl (Or.inl rfl) (pe_ix (ix_listK (K := K) rfl) (pe_dget (hu_of hr) (pv 0) pe_str (fun _ _ => rfl)) (pv 1) (fun _ _ => rfl)))))
      (pss_one (ps_ret (pv 1)))), ?_⟩
  walk_at "hz.st"
  walk_at "hz.g"
  refine while_w (fun n σ H => ∃ j, n = j ∧ j ≤ m ∧ σ = [some (.ref la.md), some (.int (j : Nat)), some (.int lo), some (.int hi)] ∧ M.last j lo hi = M.last m lo hi ∧ HB H (lmO la M L)) m ⟨m, rfl, Nat.le_refl _, rfl, rfl, hb⟩ ?_
  rintro n σ H1 ⟨j, rfl, hj, rfl, el, h1⟩
  walk_at "hz.g"
  by_cases c : 0 < n
  · refine r_yes (decide_eq_true (by omega)) ?_
    walk_at "hz.g"
    by_cases c2 : lo ≤ wsv M.W n
    · refine r_yes (decide_eq_true (by omega)) ?_
      walk_at "hz.g"
      by_cases c3 : wsv M.W n < hi
      · refine r_no (by simp [c3]) ?_
        walk_at "hz.g"
        rw [← el, show M.last n lo hi = n from last_yes c ⟨c2, c3⟩] at k
        exact k _ h1
      · refine r_yes (by simp; omega) ?_
        refine r_wh ?_
        walk_at "hz.g"
        exact ⟨par M.T n, par_lt c, par M.T n, rfl, by have := par_lt (T := M.T) c; omega, rfl, by rw [← el]; exact (last_no c (by omega)).symm, h1⟩
    · refine r_no (decide_eq_false (by omega)) ?_
      walk_at "hz.g"
      refine r_wh ?_
      walk_at "hz.g"
      exact ⟨par M.T n, par_lt c, par M.T n, rfl, by have := par_lt (T := M.T) c; omega, rfl, by rw [← el]; exact (last_no c (by omega)).symm, h1⟩
  · refine r_no (decide_eq_false (by omega)) ?_
    walk_at "hz.g"
    obtain rfl : n = 0 := by omega
    rw [← el, show M.last 0 lo hi = 0 from last_zero] at k
    exact k _ h1
def sLPairs (j : Nat) : Sp := fun vs H Q _ => ∃ (la : LA) (M : Mdl) (m n lo hi : Nat) (L : List Blk), vs = [.ref la.md, .int m, .int n, .int lo, .int hi] ∧ HB H (lmB la M :: L) ∧ MdlOk M ∧ m ≤ M.T.length ∧ n ≤ M.T.length ∧ lo < hi ∧ hi ≤ 16 ∧ hi - lo < j ∧
  ∀ H', HB H' (lmB la M :: L) → Q (.int (cntP M m n lo hi : Nat)) H'
theorem lpairs_zero {vs : List V} {H : Hp} {Q : VK} {E : XK} : ¬ sLPairs 0 vs H Q E := by
  rintro ⟨_, _, _, _, _, _, _, _, _, _, _, _, _, _, h, _⟩
  omega
theorem sc__law_pairs : FnScope ["_law_model_here", "_law_one", "_law_other", "_law_low", "_law_high", "_law_same", "_law_middle", "_law_many"] ["_law_model_here", "_law_one", "_law_other", "_law_low", "_law_high"] (defScope (top 63)) := ⟨rfl, rfl, rfl, by decide +kernel, rfl, by decide +kernel, by decide +kernel⟩
-- slots of _law_pairs: _law_model_here 0, _law_one 1, _law_other 2, _law_low 3, _law_high 4, _law_same 5, _law_middle 6, _law_many 7
theorem ok__law_pairs (S : Sit P w K mg base) : ∀ j : Nat, CF P w K mg base CX0 "_law_pairs" ["_law_model_here", "_law_one", "_law_other", "_law_low", "_law_high"] (2 + j + 1) ((sLPairs) j) := by
  intro j
  induction j with
  | zero => exact cf__law_pairs S fun f fd F => F.ok sc__law_pairs (fun vs H Q E h => (lpairs_zero h).elim) (fun cdv A outer s H vs Q E hr h => (lpairs_zero h).elim)
  | succ j ih =>
  refine cf__law_pairs S fun f fd F => F.ok sc__law_pairs (fun vs H Q E h => ?_) (fun cdv A outer s H vs Q E hr h => ?_)
  · first | (obtain ⟨_, rfl, _⟩ := h; rfl) | (obtain ⟨_, _, rfl, _⟩ := h; rfl) | (obtain ⟨_, _, _, rfl, _⟩ := h; rfl) | (obtain ⟨_, _, _, _, rfl, _⟩ := h; rfl) | (obtain ⟨_, _, _, _, _, rfl, _⟩ := h; rfl) | (obtain ⟨_, _, _, _, _, _, rfl, _⟩ := h; rfl) | (obtain ⟨_, _, _, _, _, _, _, rfl, _⟩ := h; rfl) | (obtain ⟨_, _, _, _, _, _, _, _, rfl, _⟩ := h; rfl) | (obtain ⟨_, _, _, _, _, _, _, _, _, rfl, _⟩ := h; rfl) | (obtain ⟨_, _, _, _, _, _, _, _, _, _, rfl, _⟩ := h; rfl) | (obtain ⟨_, _, _, _, _, _, _, _, _, _, _, rfl, _⟩ := h; rfl) | (obtain ⟨_, _, _, _, _, _, _, _, _, _, _, _, rfl, _⟩ := h; rfl) | (obtain ⟨_, _, _, _, _, _, _, _, _, _, _, _, _, rfl, _⟩ := h; rfl) | (obtain ⟨_, _, _, _, _, _, _, _, _, _, _, _, _, _, rfl, _⟩ := h; rfl) | (obtain ⟨_, _, _, _, _, _, _, _, _, _, _, _, _, _, _, rfl, _⟩ := h; rfl) | (obtain ⟨_, _, _, _, _, _, _, _, _, _, _, _, _, _, _, _, rfl, _⟩ := h; rfl) | (obtain ⟨_, _, _, _, _, _, _, _, _, _, _, _, _, _, _, _, _, rfl, _⟩ := h; rfl) | (obtain ⟨_, _, _, _, _, _, _, _, _, _, _, _, _, _, _, _, _, _, rfl, _⟩ := h; rfl) | (obtain ⟨_, _, _, _, _, _, _, _, _, _, _, _, _, _, _, _, _, _, _, rfl, _⟩ := h; rfl) | (obtain ⟨_, _, _, _, _, _, _, _, _, _, _, _, _, _, _, _, _, _, _, _, rfl, _⟩ := h; rfl) | (obtain ⟨_, _, _, _, _, _, _, _, _, _, _, _, _, _, _, _, _, _, _, _, _, rfl, _⟩ := h; rfl)
  obtain ⟨la, M, m, n, lo, hi, L, rfl, hb, ok, hm, hn, hlh, h16, hj, k⟩ := h
  refine ⟨_, PSs.nox (pss_cons (ps_set (i := 5) sc__law_pairs.nd rfl (Or.inl rfl) (pe_cmpR op_eq (pe_callC (ok__law_last S) (hr.mono (by omega)) (by rfl) pass0 (pa_cons (pv 0) (pa_cons (pv 1) (pa_cons (pv 3) (pa_cons (pv 4) pa_nil))))) (pe_callC (ok__law_last S) (hr.mono (by omega)) (by rfl) pass0 (pa_cons (pv 0) (pa_cons (pv 2) (pa_cons (pv 3) (pa_cons (pv 4) pa_nil))))) (nomark _)))
      (pss_cons (ps_if (PW.pt (pw_or (pt_val (pv 5)) (pw_or1 (pt_cmpR op_eq (pe_op op_sub (pv 4) (pv 3)) pe_int (nomark _))))) (pss_one (ps_ret pe_int)) pss_nil)
      (pss_cons (ps_set (i := 6) sc__law_pairs.nd rfl (Or.inl rfl) (pe_op op_fdiv (pe_op op_add (pv 3) (pv 4)) pe_int))
      (pss_cons (ps_set (i := 7) sc__law_pairs.nd rfl (Or.inl rfl) (pe_callC ih (hr.mono (by omega)) (by rfl) pass0 (pa_cons (pv 0) (pa_cons (pv 1) (pa_cons (pv 2) (pa_cons (pv 3) (pa_cons (pv 6) pa_nil)))))))
      (pss_one (ps_ret (pe_op op_add (pe_op op_add pe_int (pv 7)) (pe_callC ih (hr.mono (by omega)) (by rfl) pass0 (pa_cons (pv 0) (pa_cons (pv 1) (pa_cons (pv 2) (pa_cons (pv 6) (pa_cons (pv 4) pa_nil))))))))))))), ?_⟩
  walk_at "hz.st"
  walk_at "hz.g"
  refine ⟨la, M, m, lo, hi, L, rfl, hb, ok, hm, fun H1 h1 => ?_⟩
  walk_at "hz.g"
  refine ⟨la, M, n, lo, hi, L, rfl, h1, ok, hn, fun H2 h2 => ?_⟩
  walk_at "hz.g"
  by_cases c : M.last m lo hi = M.last n lo hi
  · refine r_yes (decide_eq_true (by omega)) ?_
    walk_at "hz.g"
    rw [cntP_same (Or.inl c)] at k
    exact k _ h2
  · refine r_no (decide_eq_false (by omega)) ?_
    walk_at "hz.g"
    by_cases c2 : hi - lo = 1
    · refine r_yes (decide_eq_true (by omega)) ?_
      walk_at "hz.g"
      rw [cntP_same (Or.inr c2)] at k
      exact k _ h2
    · refine r_no (decide_eq_false (by omega)) ?_
      walk_at "hz.g"
      rw [show ((lo : Int) + (hi : Int)) / 2 = (((lo + hi) / 2 : Nat) : Int) by omega]
      rw [cntP_fork (by rintro (z | z); exact c z; omega) (by omega) h16] at k
      refine ⟨la, M, m, n, lo, (lo + hi) / 2, L, rfl, h2, ok, hm, hn, by omega, by omega, by omega, fun H3 h3 => ?_⟩
      walk_at "hz.g"
      refine ⟨la, M, m, n, (lo + hi) / 2, hi, L, rfl, h3, ok, hm, hn, by omega, by omega, by omega, fun H4 h4 => ?_⟩
      walk_at "hz.g"
      rw [show (1 + (cntP M m n lo ((lo + hi) / 2) : Int) + (cntP M m n ((lo + hi) / 2) hi : Int)) = ((1 + cntP M m n lo ((lo + hi) / 2) + cntP M m n ((lo + hi) / 2) hi : Nat) : Int) by omega]
      exact k _ h4
def sLDue : Sp := fun vs H Q _ => ∃ (la : LA) (M : Mdl) (m n : Nat) (L : List Blk), vs = [.ref la.md, .int m, .int n] ∧ HB H (lmB la M :: L) ∧ MdlOk M ∧ m ≤ M.T.length ∧ n ≤ M.T.length ∧
  ∀ p g H', HB H' ([(p, .lst (rm (M.due m n).length (lv g)))] :: rc (M.due m n).length g (chO (M.due m n)) :: lmB la M :: L) → Q (.ref p) H'
theorem sc__law_due : FnScope ["_law_model_here", "_law_one", "_law_other", "_law_found", "_law_place", "_law_before", "_law_behind"] ["_law_model_here", "_law_one", "_law_other"] (defScope (top 61)) := ⟨rfl, rfl, rfl, by decide +kernel, rfl, by decide +kernel, by decide +kernel⟩
-- slots of _law_due: _law_model_here 0, _law_one 1, _law_other 2, _law_found 3, _law_place 4, _law_before 5, _law_behind 6
theorem ok__law_due (S : Sit P w K mg base) : CF P w K mg base CX0 "_law_due" ["_law_model_here", "_law_one", "_law_other"] 5 (sLDue) := by
  refine cf__law_due S fun f fd F => F.ok sc__law_due (fun vs H Q E h => ?_) (fun cdv A outer s H vs Q E hr h => ?_)
  · first | (obtain ⟨_, rfl, _⟩ := h; rfl) | (obtain ⟨_, _, rfl, _⟩ := h; rfl) | (obtain ⟨_, _, _, rfl, _⟩ := h; rfl) | (obtain ⟨_, _, _, _, rfl, _⟩ := h; rfl) | (obtain ⟨_, _, _, _, _, rfl, _⟩ := h; rfl) | (obtain ⟨_, _, _, _, _, _, rfl, _⟩ := h; rfl) | (obtain ⟨_, _, _, _, _, _, _, rfl, _⟩ := h; rfl) | (obtain ⟨_, _, _, _, _, _, _, _, rfl, _⟩ := h; rfl) | (obtain ⟨_, _, _, _, _, _, _, _, _, rfl, _⟩ := h; rfl) | (obtain ⟨_, _, _, _, _, _, _, _, _, _, rfl, _⟩ := h; rfl) | (obtain ⟨_, _, _, _, _, _, _, _, _, _, _, rfl, _⟩ := h; rfl) | (obtain ⟨_, _, _, _, _, _, _, _, _, _, _, _, rfl, _⟩ := h; rfl) | (obtain ⟨_, _, _, _, _, _, _, _, _, _, _, _, _, rfl, _⟩ := h; rfl) | (obtain ⟨_, _, _, _, _, _, _, _, _, _, _, _, _, _, rfl, _⟩ := h; rfl) | (obtain ⟨_, _, _, _, _, _, _, _, _, _, _, _, _, _, _, rfl, _⟩ := h; rfl) | (obtain ⟨_, _, _, _, _, _, _, _, _, _, _, _, _, _, _, _, rfl, _⟩ := h; rfl) | (obtain ⟨_, _, _, _, _, _, _, _, _, _, _, _, _, _, _, _, _, rfl, _⟩ := h; rfl) | (obtain ⟨_, _, _, _, _, _, _, _, _, _, _, _, _, _, _, _, _, _, rfl, _⟩ := h; rfl) | (obtain ⟨_, _, _, _, _, _, _, _, _, _, _, _, _, _, _, _, _, _, _, rfl, _⟩ := h; rfl) | (obtain ⟨_, _, _, _, _, _, _, _, _, _, _, _, _, _, _, _, _, _, _, _, rfl, _⟩ := h; rfl) | (obtain ⟨_, _, _, _, _, _, _, _, _, _, _, _, _, _, _, _, _, _, _, _, _, rfl, _⟩ := h; rfl)
  obtain ⟨la, M, m, n, L, rfl, hb, ok, hm, hn, k⟩ := h
  replace hb := lm_open hb
  refine ⟨_, PSs.nox (pss_cons (ps_set (i := 3) sc__law_due.nd rfl (Or.inl rfl) (pe_lst pa_nil))
      (pss_cons (ps_for PassesOwn.never rfl (pi_range1 (by rfl) (fr_range S) (pa_cons (pe_callB (call_lenK (K := K) rfl) (by rfl) (fr_len S) bt_len (pa_cons (pe_dget (hu_of hr) (pv 0) pe_str (fun _ _ => rfl)) pa_nil)) pa_nil)) (pg_name (i := 4) sc__law_due.nd rfl (Or.inl rfl)) (pss_cons (ps_par (i := 5) (j := 6) rfl sc__law_due.nd rfl rfl (by decide) rfl rfl (pa_cons (pe_callC (ok__law_value S) (hr.mono (by decide)) (by rfl) pass0 (pa_cons (pv 0) (pa_cons (pv 1) (pa_cons (pv 4) pa_nil)))) (pa_cons (pe_callC (ok__law_value S) (hr.mono (by decide)) (by rfl) pass0 (pa_cons (pv 0) (pa_cons (pv 2) (pa_cons (pv 4) pa_nil)))) pa_nil)) rfl)
      (pss_one (ps_if (pt_cmpR op_ne (pv 5) (pv 6) (nomark _)) (pss_one (ps_expr (pe_bm PySem.F.plainAttrs_list PySem.F.slot_list_append PySem.F.type_list_append mt_append (pv 3) (pa_cons (pe_tup (pa_cons (pv 4) (pa_cons (pv 5) (pa_cons (pv 6) pa_nil)))) pa_nil)))) pss_nil))))
      (pss_one (ps_ret (pv 3))))), ?_⟩
  walk_at "hz.st"
  walk_at "hz.g"
  rename_i D H1 h1
  rw [List.length_map]
  have hF := ok.f
  refine r_iR11 (by omega) ?_
  rw [Int.toNat_natCast]
  refine for_w walk_r0 (fun i σ H => ∃ (g : Nat → Addr) (z4 z5 z6 : Option V), σ = [some (.ref la.md), some (.int m), some (.int n), some (.ref D), z4, z5, z6] ∧
    HB H ([(D, .lst (rm (dueS M m n 0 i).length (lv g)))] :: rc (dueS M m n 0 i).length g (chO (dueS M m n 0 i)) :: lmB la M :: L)) ⟨fun _ => 0, _, _, _, rfl, HB.rm0 h1⟩ (fun i σ H hi h => trivial) (fun i x σ H H' hi h y => ?_) (fun σ H h => ?_)
  · obtain ⟨g, z4, z5, z6, rfl, h⟩ := h
    obtain ⟨rfl, rfl⟩ := y
    walk_at "hz.g"
    refine ⟨la, M, m, i, _, rfl, h.sub_of (Ts := lmB la M :: [(D, .lst (rm (dueS M m n 0 i).length (lv g)))] :: rc (dueS M m n 0 i).length g (chO (dueS M m n 0 i)) :: L) (by walk_at "hz.sub"), ok, hm, hi, fun H2 h2 => ?_⟩
    walk_at "hz.g"
    refine ⟨la, M, n, i, _, rfl, h2, ok, hn, hi, fun H3 h3 => ?_⟩
    walk_at "hz.g"
    have ed : dueS M m n 0 (i + 1) = dueS M m n 0 i ++ (if M.val m i ≠ M.val n i then [(i, M.val m i, M.val n i)] else []) := by
      rw [← dueS_one, dueS_app (Nat.zero_le _) (Nat.le_succ _)]
    by_cases c : M.val m i = M.val n i
    · rw [if_neg (fun z => z c), List.append_nil] at ed
      refine r_no (by simp [c]) ?_
      walk_at "hz.g"
      rw [ed]
      exact ⟨g, _, _, _, rfl, h3.sub_of (by walk_at "hz.sub")⟩
    · rw [if_pos c] at ed
      refine r_yes (by simp [c]) ?_
      have dl := dueS_le (M := M) (m := m) (n := n) (lo := 0) (hi := i)
      walk_at "hz.g"
      · rw [rm_len]; exact sz100' (by omega)
      intro H6 h6
      walk_at "hz.g"
      rename_i q H5 h5
      rw [lv_snoc] at h6
      have ln : (dueS M m n 0 (i + 1)).length = (dueS M m n 0 i).length + 1 := by rw [ed, List.length_append]; rfl
      have h7 : HB H6 ([(q, .tup (chV (i, M.val m i, M.val n i)))] :: rc (dueS M m n 0 i).length g (chO (dueS M m n 0 i)) :: [(D, .lst (rm ((dueS M m n 0 i).length + 1) (lv (fset g (dueS M m n 0 i).length q))))] :: lmB la M :: L) :=
        h6.sub_of (Ts := [(q, .tup [.int (i : Int), .int (M.val m i), .int (M.val n i)])] :: rc (dueS M m n 0 i).length g (chO (dueS M m n 0 i)) :: [(D, .lst (rm ((dueS M m n 0 i).length + 1) (lv (fset g (dueS M m n 0 i).length q))))] :: lmB la M :: L) (by walk_at "hz.sub")
      have h8 := h7.rc_new (o' := chO (dueS M m n 0 (i + 1))) (fun j hj => by rw [ed]; exact (chO_app hj).symm) (by rw [ed]; exact chO_last)
      refine ⟨fset g (dueS M m n 0 i).length q, _, _, _, rfl, ?_⟩
      rw [ln]
      exact h8.sub_of (by walk_at "hz.sub")
  · obtain ⟨g, z4, z5, z6, rfl, h⟩ := h
    rw [dueS_all] at h
    walk_at "hz.g"
    exact k D g _ h

/-! L3: the law's own deeds on a row, class Copied -/
def sLPut_Copied (K : PySem.W.Frag) : Sp := fun vs H Q _ => ∃ (bx : Addr) (x y z : Nat) (la : LA) (a : Addr) (M : Mdl) (ef : List (Str × V)) (eb b : Blk) (L : List Blk), vs = [.ref bx, .ref a, .ref la.md] ∧ HB H (bxB bx x y z :: lmB la M :: b :: L) ∧ y < 2147483629 ∧
  Row (CT K) (He.ga K "Copied") ["halves", "roots"] a M ef eb b ∧ WP_Copied K M ef eb ∧ (∃ m, M.kept m) ∧
  ∀ M' ef' eb' b' x' z' H', Row (CT K) (He.ga K "Copied") ["halves", "roots"] a M' ef' eb' b' → WP_Copied K M' ef' eb' → (∃ m, M'.kept m) → HB H' (bxB bx x' y z' :: lmB la M' :: b' :: L) → Q .non H'
theorem sc__law_gone : FnScope ["_law_box_here", "_law_rows", "_law_model_here", "_law_make"] ["_law_box_here", "_law_rows", "_law_model_here"] (defScope (top 58)) := ⟨rfl, rfl, rfl, by decide +kernel, rfl, by decide +kernel, by decide +kernel⟩
-- slots of _law_gone: _law_box_here 0, _law_rows 1, _law_model_here 2, _law_make 3
theorem ok__law_gone_Copied (S : Sit P w K mg base) : CF P w K mg base CX0 "_law_gone" ["_law_box_here", "_law_rows", "_law_model_here"] 47 (sLPut_Copied K) := by
  refine cf__law_gone S fun f fd F => F.ok sc__law_gone (fun vs H Q E h => ?_) (fun cdv A outer s H vs Q E hr h => ?_)
  · first | (obtain ⟨_, rfl, _⟩ := h; rfl) | (obtain ⟨_, _, rfl, _⟩ := h; rfl) | (obtain ⟨_, _, _, rfl, _⟩ := h; rfl) | (obtain ⟨_, _, _, _, rfl, _⟩ := h; rfl) | (obtain ⟨_, _, _, _, _, rfl, _⟩ := h; rfl) | (obtain ⟨_, _, _, _, _, _, rfl, _⟩ := h; rfl) | (obtain ⟨_, _, _, _, _, _, _, rfl, _⟩ := h; rfl) | (obtain ⟨_, _, _, _, _, _, _, _, rfl, _⟩ := h; rfl) | (obtain ⟨_, _, _, _, _, _, _, _, _, rfl, _⟩ := h; rfl) | (obtain ⟨_, _, _, _, _, _, _, _, _, _, rfl, _⟩ := h; rfl) | (obtain ⟨_, _, _, _, _, _, _, _, _, _, _, rfl, _⟩ := h; rfl) | (obtain ⟨_, _, _, _, _, _, _, _, _, _, _, _, rfl, _⟩ := h; rfl) | (obtain ⟨_, _, _, _, _, _, _, _, _, _, _, _, _, rfl, _⟩ := h; rfl) | (obtain ⟨_, _, _, _, _, _, _, _, _, _, _, _, _, _, rfl, _⟩ := h; rfl) | (obtain ⟨_, _, _, _, _, _, _, _, _, _, _, _, _, _, _, rfl, _⟩ := h; rfl) | (obtain ⟨_, _, _, _, _, _, _, _, _, _, _, _, _, _, _, _, rfl, _⟩ := h; rfl) | (obtain ⟨_, _, _, _, _, _, _, _, _, _, _, _, _, _, _, _, _, rfl, _⟩ := h; rfl) | (obtain ⟨_, _, _, _, _, _, _, _, _, _, _, _, _, _, _, _, _, _, rfl, _⟩ := h; rfl) | (obtain ⟨_, _, _, _, _, _, _, _, _, _, _, _, _, _, _, _, _, _, _, rfl, _⟩ := h; rfl) | (obtain ⟨_, _, _, _, _, _, _, _, _, _, _, _, _, _, _, _, _, _, _, _, rfl, _⟩ := h; rfl) | (obtain ⟨_, _, _, _, _, _, _, _, _, _, _, _, _, _, _, _, _, _, _, _, _, rfl, _⟩ := h; rfl)
  obtain ⟨bx, x, y, z, la, a, M, ef, eb, b, L, rfl, hb, hy, hR, hW, he, k⟩ := h
  have ok := hR.1
  refine ⟨_, PSs.nox (pss_one (ps_if (pt_cmpR op_gt (pe_callB (call_lenK (K := K) rfl) (by rfl) (fr_len S) bt_len (pa_cons (pe_callC (ok__law_kept S) (hr.mono (by decide)) (by rfl) pass0 (pa_cons (pv 2) pa_nil)) pa_nil)) pe_int (nomark _)) (pss_cons (ps_set (i := 3) sc__law_gone.nd rfl (Or.inl rfl) (pe_callC (ok__law_picked S) (hr.mono (by decide)) (by rfl) pass0 (pa_cons (pv 0) (pa_cons (pv 2) pa_nil))))
      (pss_cons (ps_expr (pe_methC (pv 1) (ok_Copied_let_go S) (hr.mono (by decide)) pass0 (pa_cons (pv 3) pa_nil)))
      (pss_one (ps_asg pe_bl (pg_sub (pe_dget (hu_of hr) (pv 2) pe_str (fun _ _ => rfl)) (pv 3) set_list))))) pss_nil)), ?_⟩
  walk_at "hz.st"
  walk_at "hz.g"
  refine ⟨la, M, _, rfl, hb.swap, ok, fun p H1 h1 => ?_⟩
  walk_at "hz.g"
  by_cases c : 2 ≤ M.keptL.length
  · refine r_yes (decide_eq_true (by omega)) ?_
    walk_at "hz.g"
    refine ⟨bx, x, y, z, la, M, _, rfl, h1.sub_of (Ts := bxB bx x y z :: lmB la M :: b :: L) (by walk_at "hz.sub"), hy, ok, he, fun m x1 z1 H2 hm h2 => ?_⟩
    walk_at "hz.g"
    refine ⟨a, M, ef, eb, b, m, _, rfl, h2.sub_of (Ts := b :: lmB la M :: bxB bx x1 y z1 :: L) (by walk_at "hz.sub"), hR, hW, hm, c, fun v ef2 eb2 b2 H3 hR2 hW2 h3 => ?_⟩
    replace h3 := lm_open h3.swap
    have g := ok.g
    have hml := ok.le hm
    walk_at "hz.g"
    · rw [List.length_map]; omega
    intro H4 h4
    walk_at "hz.g"
    have e2 : (M.gone.map V.bl).set m (.bl true) = (M.free m).gone.map V.bl := by
      show _ = (M.gone.set m true).map V.bl
      rw [List.map_set]
    rw [e2] at h4
    have h5 := lm_close (M := M.free m) h4
    have he2 : ∃ x, (M.free m).kept x := by
      refine Classical.byContradiction fun z => ?_
      have : M.keptL.length ≤ [m].length := few_ofN (List.Pairwise.filter _ List.nodup_range) fun x hx => by
        refine Classical.byContradiction fun c => z ⟨x, kept_free.mpr ⟨(keptL_mem ok).mp hx, fun e => c (by rw [e]; simp)⟩⟩
      simp at this
      omega
    exact k _ _ _ _ _ _ _ hR2 hW2 he2 (h5.sub_of (by walk_at "hz.sub"))
  · refine r_no (decide_eq_false (by omega)) ?_
    walk_at "hz.g"
    exact k _ _ _ _ _ _ _ hR hW he (h1.sub_of (by walk_at "hz.sub"))
theorem sc__law_put : FnScope ["_law_box_here", "_law_rows", "_law_model_here", "_law_make", "_law_place", "_law_worth_here"] ["_law_box_here", "_law_rows", "_law_model_here"] (defScope (top 59)) := ⟨rfl, rfl, rfl, by decide +kernel, rfl, by decide +kernel, by decide +kernel⟩
-- slots of _law_put: _law_box_here 0, _law_rows 1, _law_model_here 2, _law_make 3, _law_place 4, _law_worth_here 5
theorem ok__law_put_Copied (S : Sit P w K mg base) : CF P w K mg base CX0 "_law_put" ["_law_box_here", "_law_rows", "_law_model_here"] 47 (sLPut_Copied K) := by
  refine cf__law_put S fun f fd F => F.ok sc__law_put (fun vs H Q E h => ?_) (fun cdv A outer s H vs Q E hr h => ?_)
  · first | (obtain ⟨_, rfl, _⟩ := h; rfl) | (obtain ⟨_, _, rfl, _⟩ := h; rfl) | (obtain ⟨_, _, _, rfl, _⟩ := h; rfl) | (obtain ⟨_, _, _, _, rfl, _⟩ := h; rfl) | (obtain ⟨_, _, _, _, _, rfl, _⟩ := h; rfl) | (obtain ⟨_, _, _, _, _, _, rfl, _⟩ := h; rfl) | (obtain ⟨_, _, _, _, _, _, _, rfl, _⟩ := h; rfl) | (obtain ⟨_, _, _, _, _, _, _, _, rfl, _⟩ := h; rfl) | (obtain ⟨_, _, _, _, _, _, _, _, _, rfl, _⟩ := h; rfl) | (obtain ⟨_, _, _, _, _, _, _, _, _, _, rfl, _⟩ := h; rfl) | (obtain ⟨_, _, _, _, _, _, _, _, _, _, _, rfl, _⟩ := h; rfl) | (obtain ⟨_, _, _, _, _, _, _, _, _, _, _, _, rfl, _⟩ := h; rfl) | (obtain ⟨_, _, _, _, _, _, _, _, _, _, _, _, _, rfl, _⟩ := h; rfl) | (obtain ⟨_, _, _, _, _, _, _, _, _, _, _, _, _, _, rfl, _⟩ := h; rfl) | (obtain ⟨_, _, _, _, _, _, _, _, _, _, _, _, _, _, _, rfl, _⟩ := h; rfl) | (obtain ⟨_, _, _, _, _, _, _, _, _, _, _, _, _, _, _, _, rfl, _⟩ := h; rfl) | (obtain ⟨_, _, _, _, _, _, _, _, _, _, _, _, _, _, _, _, _, rfl, _⟩ := h; rfl) | (obtain ⟨_, _, _, _, _, _, _, _, _, _, _, _, _, _, _, _, _, _, rfl, _⟩ := h; rfl) | (obtain ⟨_, _, _, _, _, _, _, _, _, _, _, _, _, _, _, _, _, _, _, rfl, _⟩ := h; rfl) | (obtain ⟨_, _, _, _, _, _, _, _, _, _, _, _, _, _, _, _, _, _, _, _, rfl, _⟩ := h; rfl) | (obtain ⟨_, _, _, _, _, _, _, _, _, _, _, _, _, _, _, _, _, _, _, _, _, rfl, _⟩ := h; rfl)
  obtain ⟨bx, x, y, z, la, a, M, ef, eb, b, L, rfl, hb, hy, hR, hW, he, k⟩ := h
  have ok := hR.1
  have tl := ok.t.le
  refine ⟨_, PSs.nox (pss_cons (ps_asg (pe_callC (ok__law_drawn S) (hr.mono (by decide)) (by rfl) pass0 (pa_cons (pv 0) (pa_cons (pv 2) pa_nil))) (pg_tupK (n := 3) (K := K) rfl rfl (pgs_cons (pg_name (i := 3) sc__law_put.nd rfl (Or.inl rfl)) (pgs_cons (pg_name (i := 4) sc__law_put.nd rfl (Or.inl rfl)) (pgs_cons (pg_name (i := 5) sc__law_put.nd rfl (Or.inl rfl)) pgs_nil)))))
      (pss_one (ps_if (pt_cmpR op_lt (pe_callB (call_lenK (K := K) rfl) (by rfl) (fr_len S) bt_len (pa_cons (pe_dget (hu_of hr) (pv 2) pe_str (fun _ _ => rfl)) pa_nil)) pe_int (nomark _)) (pss_cons (ps_expr (pe_methC (pv 1) (ok_Copied_put S) (hr.mono (by decide)) pass0 (pa_cons (pv 3) (pa_cons (pv 4) (pa_cons (pv 5) pa_nil)))))
      (pss_one (ps_expr (pe_callC (ok__law_grown S) (hr.mono (by decide)) (by rfl) pass0 (pa_cons (pv 2) (pa_cons (pv 3) (pa_cons (pv 4) (pa_cons (pv 5) pa_nil)))))))) pss_nil))), ?_⟩
  walk_at "hz.st"
  walk_at "hz.g"
  refine ⟨bx, x, y, z, la, M, _, rfl, hb, hy, ok, he, fun t m p w0 x1 z1 H1 hm hp hw h1 => ?_⟩
  have hml := ok.le hm
  walk_at "hz.g"
  replace h1 := lm_open (h1.sub_of (Ts := lmB la M :: bxB bx x1 y z1 :: b :: L) (by walk_at "hz.sub"))
  walk_at "hz.g"
  by_cases c : M.T.length < 63
  · refine r_yes (decide_eq_true (by omega)) ?_
    walk_at "hz.g"
    replace h1 := lm_close h1
    refine ⟨a, M, ef, eb, b, m, p, w0, _, rfl, h1.sub_of (Ts := b :: lmB la M :: bxB bx x1 y z1 :: L) (by walk_at "hz.sub"), hR, hW, hm, hp, hw, c, fun ef2 eb2 b2 H2 hR2 hW2 h2 => ?_⟩
    walk_at "hz.g"
    refine ⟨la, M, m, p, w0, _, rfl, h2.swap, ok, hml, c, fun H3 h3 => ?_⟩
    walk_at "hz.g"
    exact k _ _ _ _ _ _ _ hR2 hW2 ⟨_, (kept_put ok).mpr (Or.inl hm)⟩ (h3.sub_of (by walk_at "hz.sub"))
  · refine r_no (decide_eq_false (by omega)) ?_
    walk_at "hz.g"
    replace h1 := lm_close h1
    exact k _ _ _ _ _ _ _ hR hW he (h1.sub_of (by walk_at "hz.sub"))

/-! L4: law k53 -/
def dRes (M : Mdl) (m n : Nat) : PyData := .tuple [.list (dCh (M.due m n)), .int (cntP M m n 0 M.F.length : Nat)]
theorem cntP_le {M : Mdl} {m n : Nat} : ∀ (d lo hi : Nat), hi - lo = d → lo < hi → hi ≤ 16 → cntP M m n lo hi ≤ 2 * (hi - lo) - 1 := by
  intro d
  induction d using Nat.strongRecOn with
  | ind d ih =>
    intro lo hi e h1 h2
    by_cases c : M.last m lo hi = M.last n lo hi ∨ hi - lo = 1
    · rw [cntP_same c]; omega
    · have c2 : ¬ hi - lo = 1 := fun z => c (Or.inr z)
      rw [cntP_fork c (by omega) h2]
      have i1 := ih ((lo + hi) / 2 - lo) (by omega) lo ((lo + hi) / 2) rfl (by omega) (by omega)
      have i2 := ih (hi - (lo + hi) / 2) (by omega) ((lo + hi) / 2) hi rfl (by omega) (by omega)
      omega
theorem flat_res {M : Mdl} (ok : MdlOk M) {m n : Nat} : flatI (dRes M m n) = true := by
  have h1 := flat_due ok (m := m) (n := n)
  have h2 := cntP_le (M := M) (m := m) (n := n) _ 0 M.F.length rfl (by have := ok.f.1; omega) ok.f.2
  have h3 := ok.f.2
  show (flatIs (dCh (M.due m n)) && (isW _ && true)) = true
  rw [h1, isW_nat (by omega)]
  rfl
theorem wgt_res {M : Mdl} (ok : MdlOk M) {m n : Nat} : wgt (dRes M m n) ≤ 400000 := by
  have h1 := wgt_due ok (m := m) (n := n)
  show wgts (dCh (M.due m n)) + 1 + (100 + 1 + 0) ≤ 400000
  omega
theorem depth_res {M : Mdl} {m n : Nat} : (dRes M m n).depth ≤ 50 := by
  have h1 := depth_dCh (cs := M.due m n)
  show max (PyData.depthAll (dCh (M.due m n)) + 1) (max 0 0) + 1 ≤ 50
  omega
def sLRight_Copied (K : PySem.W.Frag) : Sp := fun vs H Q _ => ∃ (la : LA) (a : Addr) (M : Mdl) (ef : List (Str × V)) (eb b : Blk) (m n : Nat) (L : List Blk), vs = [.ref a, .ref la.md, .int m, .int n] ∧ HB H (lmB la M :: b :: L) ∧
  Row (CT K) (He.ga K "Copied") ["halves", "roots"] a M ef eb b ∧ WP_Copied K M ef eb ∧ M.kept m ∧ M.kept n ∧
  ∀ ef' eb' b' H', Row (CT K) (He.ga K "Copied") ["halves", "roots"] a M ef' eb' b' → WP_Copied K M ef' eb' → HB H' (lmB la M :: b' :: L) → Q (.bl true) H'
theorem sc__law_right : FnScope ["_law_rows", "_law_model_here", "_law_one", "_law_other", "_law_due_here", "_law_turn", "_law_found"] ["_law_rows", "_law_model_here", "_law_one", "_law_other"] (defScope (top 64)) := ⟨rfl, rfl, rfl, by decide +kernel, rfl, by decide +kernel, by decide +kernel⟩
-- slots of _law_right: _law_rows 0, _law_model_here 1, _law_one 2, _law_other 3, _law_due_here 4, _law_turn 5, _law_found 6
theorem ok__law_right_Copied (S : Sit P w K mg base) : CG P w K mg base CX0 "_law_right" ["_law_rows", "_law_model_here", "_law_one", "_law_other"] 59 (sLRight_Copied K) := by
  refine cg__law_right S fun f fd F => okG F sc__law_right (fun vs H Q E h => ?_) (fun cdv A outer s H vs Q E gA hr h => ?_)
  · first | (obtain ⟨_, rfl, _⟩ := h; rfl) | (obtain ⟨_, _, rfl, _⟩ := h; rfl) | (obtain ⟨_, _, _, rfl, _⟩ := h; rfl) | (obtain ⟨_, _, _, _, rfl, _⟩ := h; rfl) | (obtain ⟨_, _, _, _, _, rfl, _⟩ := h; rfl) | (obtain ⟨_, _, _, _, _, _, rfl, _⟩ := h; rfl) | (obtain ⟨_, _, _, _, _, _, _, rfl, _⟩ := h; rfl) | (obtain ⟨_, _, _, _, _, _, _, _, rfl, _⟩ := h; rfl) | (obtain ⟨_, _, _, _, _, _, _, _, _, rfl, _⟩ := h; rfl) | (obtain ⟨_, _, _, _, _, _, _, _, _, _, rfl, _⟩ := h; rfl) | (obtain ⟨_, _, _, _, _, _, _, _, _, _, _, rfl, _⟩ := h; rfl) | (obtain ⟨_, _, _, _, _, _, _, _, _, _, _, _, rfl, _⟩ := h; rfl) | (obtain ⟨_, _, _, _, _, _, _, _, _, _, _, _, _, rfl, _⟩ := h; rfl) | (obtain ⟨_, _, _, _, _, _, _, _, _, _, _, _, _, _, rfl, _⟩ := h; rfl) | (obtain ⟨_, _, _, _, _, _, _, _, _, _, _, _, _, _, _, rfl, _⟩ := h; rfl) | (obtain ⟨_, _, _, _, _, _, _, _, _, _, _, _, _, _, _, _, rfl, _⟩ := h; rfl) | (obtain ⟨_, _, _, _, _, _, _, _, _, _, _, _, _, _, _, _, _, rfl, _⟩ := h; rfl) | (obtain ⟨_, _, _, _, _, _, _, _, _, _, _, _, _, _, _, _, _, _, rfl, _⟩ := h; rfl) | (obtain ⟨_, _, _, _, _, _, _, _, _, _, _, _, _, _, _, _, _, _, _, rfl, _⟩ := h; rfl) | (obtain ⟨_, _, _, _, _, _, _, _, _, _, _, _, _, _, _, _, _, _, _, _, rfl, _⟩ := h; rfl) | (obtain ⟨_, _, _, _, _, _, _, _, _, _, _, _, _, _, _, _, _, _, _, _, _, rfl, _⟩ := h; rfl)
  obtain ⟨la, a, M, ef, eb, b, m, n, L, rfl, hb, hR, hW, hm, hn, k⟩ := h
  have ok := hR.1
  have hml := ok.le hm
  have hnl := ok.le hn
  have hF := ok.f
  refine ⟨_, PSs.nox (pss_cons (ps_set (i := 4) sc__law_right.nd rfl (Or.inl rfl) (pe_tup (pa_cons (pe_callC (ok__law_due S) (hr.mono (by decide)) (by rfl) pass0 (pa_cons (pv 1) (pa_cons (pv 2) (pa_cons (pv 3) pa_nil)))) (pa_cons (pe_callC (ok__law_pairs S 17) (hr.mono (by decide)) (by rfl) pass0 (pa_cons (pv 1) (pa_cons (pv 2) (pa_cons (pv 3) (pa_cons pe_int (pa_cons (pe_callB (call_lenK (K := K) rfl) (by rfl) (fr_len S) bt_len (pa_cons (pe_dget (hu_of hr) (pv 1) pe_str (fun _ _ => rfl)) pa_nil)) pa_nil)))))) pa_nil))))
      (pss_cons (ps_for PassesOwn.never rfl (pi_range1 (by rfl) (fr_range S) (pa_cons pe_int pa_nil)) (pg_name (i := 5) sc__law_right.nd rfl (Or.inl rfl)) (pss_cons (ps_set (i := 6) sc__law_right.nd rfl (Or.inl rfl) (pe_callC (ok_parted_by_parts_Copied S) (hr.mono (by decide)) (by rfl) pass0 (pa_cons (pv 0) (pa_cons (pv 2) (pa_cons (pv 3) pa_nil)))))
      (pss_cons (ps_if (pt_cmpR op_ne (pe_callB (call_reprD (K := K) rfl gA (hu64 hr)) (by rfl) (fr_repr S) bt_repr (pa_cons (pv 6) pa_nil)) (pe_callB (call_reprD (K := K) rfl gA (hu64 hr)) (by rfl) (fr_repr S) bt_repr (pa_cons (pv 4) pa_nil)) (nomark _)) (pss_one (ps_ret pe_bl)) pss_nil)
      (pss_one (ps_expr (pe_bm PySem.F.plainAttrs_list PySem.F.slot_list_append PySem.F.type_list_append mt_append (pe_ix (ix_tupK (K := K) rfl) (pv 6) pe_int (fun _ _ => rfl)) (pa_cons pe_non pa_nil)))))))
      (pss_one (ps_ret (pe_cmpR (op_eqDK (K := K) (hu64 hr) rfl) (pe_ix (ix_tupK (K := K) rfl) (pe_callC (ok_parted_Copied S) (hr.mono (by decide)) (by rfl) pass0 (pa_cons (pv 0) (pa_cons (pv 2) (pa_cons (pv 3) pa_nil)))) pe_int (fun _ _ => rfl)) (pe_ix (ix_tupK (K := K) rfl) (pv 4) pe_int (fun _ _ => rfl)) (nomark _)))))), ?_⟩
  walk_at "hz.st"
  walk_at "hz.g"
  refine ⟨la, M, m, n, _, rfl, hb, ok, hml, hnl, fun pd gd H1 h1 => ?_⟩
  replace h1 := lm_open (h1.sub_of (Ts := lmB la M :: [(pd, .lst (rm (M.due m n).length (lv gd)))] :: rc (M.due m n).length gd (chO (M.due m n)) :: b :: L) (by walk_at "hz.sub"))
  walk_at "hz.g"
  rw [List.length_map]
  replace h1 := lm_close h1
  refine ⟨la, M, m, n, 0, M.F.length, _, rfl, h1, ok, hml, hnl, by omega, hF.2, by omega, fun H2 h2 => ?_⟩
  walk_at "hz.g"
  rename_i td H3 h3
  refine r_iR11 (n := 2) (by decide) ?_
  rw [Int.toNat_natCast]
  refine for_w walk_r0 (fun i σ H => ∃ (ef' : List (Str × V)) (eb' b' : Blk) (z5 z6 : Option V), σ = [some (.ref a), some (.ref la.md), some (.int m), some (.int n), some (.ref td), z5, z6] ∧ Row (CT K) (He.ga K "Copied") ["halves", "roots"] a M ef' eb' b' ∧ WP_Copied K M ef' eb' ∧
    HB H ([(td, .tup [.ref pd, .int (cntP M m n 0 M.F.length : Nat)])] :: [(pd, .lst (rm (M.due m n).length (lv gd)))] :: rc (M.due m n).length gd (chO (M.due m n)) :: lmB la M :: b' :: L))
    ⟨ef, eb, b, _, _, rfl, hR, hW, h3.sub_of (by walk_at "hz.sub")⟩ (fun i σ H hi h => trivial) (fun i x σ H H' hi h y => ?_) (fun σ H h => ?_)
  · obtain ⟨ef', eb', b', z5, z6, rfl, hR', hW', h⟩ := h
    obtain ⟨rfl, rfl⟩ := y
    walk_at "hz.g"
    refine ⟨a, M, ef', eb', b', m, n, _, rfl, h.sub_of (Ts := b' :: [(td, .tup [.ref pd, .int (cntP M m n 0 M.F.length : Nat)])] :: [(pd, .lst (rm (M.due m n).length (lv gd)))] :: rc (M.due m n).length gd (chO (M.due m n)) :: lmB la M :: L) (by walk_at "hz.sub"), hR', hW', hm, hn, fun t p g H4 h4 => ?_⟩
    walk_at "hz.g"
    have dp1 : Dp K H4 (.ref t) (dRes M m n) := .tup (SqT.of (h4.at (by walk_at "hz.at"))) (.cons (dp_ch (h4.at (by walk_at "hz.at")) h4 (by walk_at "hz.mem")) (.cons (.int _) .nil))
    have dp2 : Dp K H4 (.ref td) (dRes M m n) := .tup (SqT.of (h4.at (by walk_at "hz.at"))) (.cons (dp_ch (h4.at (by walk_at "hz.at")) h4 (by walk_at "hz.mem")) (.cons (.int _) .nil))
    obtain ⟨tx, etx⟩ : ∃ tx, tx = (dRes M m n).shown := ⟨_, rfl⟩
    refine r_reprD dp1 (flat_res ok) (wgt_res ok) depth_res ?_
    rw [← etx]
    walk_at "hz.g"
    refine r_reprD dp2 (flat_res ok) (wgt_res ok) depth_res ?_
    rw [← etx]
    walk_at "hz.g"
    refine r_neS ?_
    walk_at "hz.g"
    refine r_no (by simp) ?_
    walk_at "hz.g"
    · rw [rm_len]
      have := due_le (M := M) (m := m) (n := n)
      exact sz100' (by omega)
    intro H5 h5
    walk_at "hz.g"
    exact ⟨ef', eb', b', _, _, rfl, hR', hW', h5.sub_of (by walk_at "hz.sub")⟩
  · obtain ⟨ef', eb', b', z5, z6, rfl, hR', hW', h⟩ := h
    walk_at "hz.g"
    refine ⟨a, M, ef', eb', b', m, n, _, rfl, h.sub_of (Ts := b' :: [(td, .tup [.ref pd, .int (cntP M m n 0 M.F.length : Nat)])] :: [(pd, .lst (rm (M.due m n).length (lv gd)))] :: rc (M.due m n).length gd (chO (M.due m n)) :: lmB la M :: L) (by walk_at "hz.sub"), hR', hW', hm, hn, fun t p g ef2 eb2 b2 H4 hR2 hW2 h4 => ?_⟩
    walk_at "hz.g"
    have dp1 : Dp K H4 (.ref p) (.list (dCh (M.due m n))) := dp_ch (h4.at (by walk_at "hz.at")) h4 (by walk_at "hz.mem")
    have dp2 : Dp K H4 (.ref pd) (.list (dCh (M.due m n))) := dp_ch (h4.at (by walk_at "hz.at")) h4 (by walk_at "hz.mem")
    refine r_eqD dp1 dp2 (flat_due ok) (by have := depth_dCh (cs := M.due m n); show PyData.depthAll (dCh (M.due m n)) + 1 ≤ 64; omega) ?_
    exact k _ _ _ _ hR2 hW2 (h4.sub_of (by walk_at "hz.sub"))

/-! L5: law k53, its own def -/
def sLaw_Copied (K : PySem.W.Frag) : Sp := fun vs H Q _ => ∃ (a : Addr) (ns : List Int) (sb : Blk), vs = [.ref a] ∧ Scr K a ns sb ∧ ns.length ≤ 63 ∧ HB H [sb] ∧ ∀ H', Q (.bl true) H'
theorem sc_law : FnScope ["_law_script", "_law_box_here", "_law_worths_here", "_law_model_here", "_law_rows", "_law_k", "_law_turn", "_law_one", "_law_other"] ["_law_script"] (defScope (top 65)) := ⟨rfl, rfl, rfl, by decide +kernel, rfl, by decide +kernel, by decide +kernel⟩
-- slots of law: _law_script 0, _law_box_here 1, _law_worths_here 2, _law_model_here 3, _law_rows 4, _law_k 5, _law_turn 6, _law_one 7, _law_other 8
theorem ok_law (S : Sit P w K mg base) {f : Addr} {fd : FuncData} (F : FunD K "law" "law" (defArgs (top 65)) (defBody (top 65)) (defScope (top 65)) [] [] f fd) : FnG P w K mg base CX0 63 f fd ["_law_script"] (sLaw_Copied K) := by
  refine okG F sc_law (fun vs H Q E h => ?_) (fun cdv A outer s H vs Q E gA hr h => ?_)
  · first | (obtain ⟨_, rfl, _⟩ := h; rfl) | (obtain ⟨_, _, rfl, _⟩ := h; rfl) | (obtain ⟨_, _, _, rfl, _⟩ := h; rfl) | (obtain ⟨_, _, _, _, rfl, _⟩ := h; rfl) | (obtain ⟨_, _, _, _, _, rfl, _⟩ := h; rfl) | (obtain ⟨_, _, _, _, _, _, rfl, _⟩ := h; rfl) | (obtain ⟨_, _, _, _, _, _, _, rfl, _⟩ := h; rfl) | (obtain ⟨_, _, _, _, _, _, _, _, rfl, _⟩ := h; rfl) | (obtain ⟨_, _, _, _, _, _, _, _, _, rfl, _⟩ := h; rfl) | (obtain ⟨_, _, _, _, _, _, _, _, _, _, rfl, _⟩ := h; rfl) | (obtain ⟨_, _, _, _, _, _, _, _, _, _, _, rfl, _⟩ := h; rfl) | (obtain ⟨_, _, _, _, _, _, _, _, _, _, _, _, rfl, _⟩ := h; rfl) | (obtain ⟨_, _, _, _, _, _, _, _, _, _, _, _, _, rfl, _⟩ := h; rfl) | (obtain ⟨_, _, _, _, _, _, _, _, _, _, _, _, _, _, rfl, _⟩ := h; rfl) | (obtain ⟨_, _, _, _, _, _, _, _, _, _, _, _, _, _, _, rfl, _⟩ := h; rfl) | (obtain ⟨_, _, _, _, _, _, _, _, _, _, _, _, _, _, _, _, rfl, _⟩ := h; rfl) | (obtain ⟨_, _, _, _, _, _, _, _, _, _, _, _, _, _, _, _, _, rfl, _⟩ := h; rfl) | (obtain ⟨_, _, _, _, _, _, _, _, _, _, _, _, _, _, _, _, _, _, rfl, _⟩ := h; rfl) | (obtain ⟨_, _, _, _, _, _, _, _, _, _, _, _, _, _, _, _, _, _, _, rfl, _⟩ := h; rfl) | (obtain ⟨_, _, _, _, _, _, _, _, _, _, _, _, _, _, _, _, _, _, _, _, rfl, _⟩ := h; rfl) | (obtain ⟨_, _, _, _, _, _, _, _, _, _, _, _, _, _, _, _, _, _, _, _, _, rfl, _⟩ := h; rfl)
  obtain ⟨a, ns, sb, rfl, hs, hl, hb, k⟩ := h
  refine ⟨_, PSs.nox (pss_cons (ps_set (i := 1) sc_law.nd rfl (Or.inl rfl) (pe_callC (ok__law_box S) (hr.mono (by decide)) (by rfl) pass0 (pa_cons (pe_callC (ok__law_cell S) (hr.mono (by decide)) (by rfl) pass0 (pa_cons (pv 0) (pa_cons pe_int pa_nil))) pa_nil)))
      (pss_cons (ps_set (i := 2) sc_law.nd rfl (Or.inl rfl) (pe_callC (ok__law_worths S) (hr.mono (by decide)) (by rfl) pass0 (pa_cons (pv 1) pa_nil)))
      (pss_cons (ps_set (i := 3) sc_law.nd rfl (Or.inl rfl) (pe_callC (ok__law_model S) (hr.mono (by decide)) (by rfl) pass0 (pa_cons (pv 2) pa_nil)))
      (pss_cons (ps_set (i := 4) sc_law.nd rfl (Or.inl rfl) (pe_makeC (ok_Copied S) (hr.mono (by decide)) (by rfl) pass0 (pa_cons (pv 2) pa_nil)))
      (pss_cons (ps_for PassesOwn.never rfl (pi_range2 (by rfl) (fr_range S) (pa_cons pe_int (pa_cons (pe_callB (call_max2C rfl) (by rfl) (fr_max S) bt_max (pa_cons pe_int (pa_cons (pe_callB (call_min2C rfl) (by rfl) (fr_min S) bt_min (pa_cons (pe_callB (call_lenK (K := K) rfl) (by rfl) (fr_len S) bt_len (pa_cons (pv 0) pa_nil)) (pa_cons pe_int pa_nil))) pa_nil))) pa_nil))) (pg_name (i := 5) sc_law.nd rfl (Or.inl rfl)) (pss_cons (ps_set (i := 1) sc_law.nd rfl (Or.inl rfl) (pe_callC (ok__law_box S) (hr.mono (by decide)) (by rfl) pass0 (pa_cons (pe_callC (ok__law_cell S) (hr.mono (by decide)) (by rfl) pass0 (pa_cons (pv 0) (pa_cons (pv 5) pa_nil))) pa_nil)))
      (pss_cons (ps_for PassesOwn.never rfl (pi_range1 (by rfl) (fr_range S) (pa_cons (pe_op op_add pe_int (pe_callC (ok__law_take S) (hr.mono (by decide)) (by rfl) pass0 (pa_cons (pv 1) (pa_cons pe_int pa_nil)))) pa_nil)) (pg_name (i := 6) sc_law.nd rfl (Or.inl rfl)) (pss_one (ps_expr (pe_callC (ok__law_put_Copied S) (hr.mono (by decide)) (by rfl) pass0 (pa_cons (pv 1) (pa_cons (pv 4) (pa_cons (pv 3) pa_nil)))))))
      (pss_cons (ps_if (pt_cmpR op_eq (pe_callC (ok__law_take S) (hr.mono (by decide)) (by rfl) pass0 (pa_cons (pv 1) (pa_cons pe_int pa_nil))) pe_int (nomark _)) (pss_one (ps_expr (pe_callC (ok__law_gone_Copied S) (hr.mono (by decide)) (by rfl) pass0 (pa_cons (pv 1) (pa_cons (pv 4) (pa_cons (pv 3) pa_nil)))))) pss_nil)
      (pss_cons (ps_set (i := 7) sc_law.nd rfl (Or.inl rfl) (pe_callC (ok__law_picked S) (hr.mono (by decide)) (by rfl) pass0 (pa_cons (pv 1) (pa_cons (pv 3) pa_nil))))
      (pss_cons (ps_set (i := 8) sc_law.nd rfl (Or.inl rfl) (pe_ix (ix_listK (K := K) rfl) (pe_lst (pa_cons (pe_callC (ok__law_picked S) (hr.mono (by decide)) (by rfl) pass0 (pa_cons (pv 1) (pa_cons (pv 3) pa_nil))) (pa_cons (pv 7) pa_nil))) (pe_callTy call_int1C (by rfl) (fr_int S) bt_int (pa_cons (pe_cmpR op_eq (pe_callC (ok__law_take S) (hr.mono (by decide)) (by rfl) pass0 (pa_cons (pv 1) (pa_cons pe_int pa_nil))) pe_int (nomark _)) pa_nil)) (fun _ _ => rfl)))
      (pss_one (ps_if (PW.pt (pw_or (pt_not (pt_val (pe_callG (ok__law_right_Copied S) gA (hr.mono (by decide)) (by rfl) pass0 (pa_cons (pv 4) (pa_cons (pv 3) (pa_cons (pv 7) (pa_cons (pv 8) pa_nil))))))) (pw_or1 (pt_not (pt_val (pe_callG (ok__law_right_Copied S) gA (hr.mono (by decide)) (by rfl) pass0 (pa_cons (pv 4) (pa_cons (pv 3) (pa_cons (pv 8) (pa_cons (pv 7) pa_nil)))))))))) (pss_one (ps_ret pe_bl)) pss_nil))))))))
      (pss_one (ps_ret pe_bl))))))), ?_⟩
  walk_at "hz.st"
  walk_at "hz.g"
  refine ⟨a, ns, 0, rfl, hs.at hb List.mem_cons_self, fun c => ?_⟩
  walk_at "hz.g"
  refine ⟨c, _, rfl, hb, fun bx x y H1 hy h1 => ?_⟩
  walk_at "hz.g"
  refine ⟨bx, x, y, 0, _, rfl, h1, hy, fun wl Fs x1 z1 H2 hF h2 => ?_⟩
  walk_at "hz.g"
  refine ⟨wl, Fs, _, rfl, h2, hF.2.1, fun la H3 h3 => ?_⟩
  walk_at "hz.g"
  rename_i a0 dx H4 h4
  refine ⟨a0, dx, wl, Fs, _, rfl, h4, by walk_at "hz.at", hF, fun ef eb b H5 hR hW h5 => ?_⟩
  walk_at "hz.g"
  refine r_lenL (hs.at h5 (by simp)) ?_
  walk_at "hz.g"
  rw [List.length_map]
  refine r_iR22 (by split <;> split <;> omega) ?_
  generalize ((if (if (41 : Int) < (ns.length : Int) then (41 : Int) else (ns.length : Int)) > 12 then (if (41 : Int) < (ns.length : Int) then (41 : Int) else (ns.length : Int)) else 12) - 1).toNat = J
  refine for_w walk_rA (fun i σ H => ∃ (bx : Addr) (M : Mdl) (ef : List (Str × V)) (eb b : Blk) (z5 z6 z7 z8 : Option V) (L : List Blk), σ = [some (.ref a), some (.ref bx), some (.ref wl), some (.ref la.md), some (.ref a0), z5, z6, z7, z8] ∧ Row (CT K) (He.ga K "Copied") ["halves", "roots"] a0 M ef eb b ∧ WP_Copied K M ef eb ∧ (∃ m, M.kept m) ∧
    HB H (lmB la M :: b :: sb :: L)) ⟨bx, M0 Fs, ef, eb, b, _, _, _, _, _, rfl, hR, hW, ⟨0, rfl⟩, (show HB H5 (b :: lmB la (M0 Fs) :: [(wl, .lst (Fs.map V.int))] :: bxB bx x1 y z1 :: [sb]) from h5).sub_of (Ts := lmB la (M0 Fs) :: b :: sb :: []) (by walk_at "hz.sub")⟩ (fun i σ H hi h => trivial) (fun i x σ H H' hi h y => ?_) (fun σ H h => ?_)
  · obtain ⟨bx, M, ef, eb, b, z5, z6, z7, z8, L, rfl, hR, hW, he, h⟩ := h
    obtain ⟨rfl, rfl⟩ := y
    rw [show (1 + (i : Int)) = ((1 + i : Nat) : Int) by omega]
    walk_at "hz.g"
    refine ⟨a, ns, 1 + i, rfl, hs.at h (by simp), fun c => ?_⟩
    walk_at "hz.g"
    refine ⟨c, _, rfl, h, fun bx2 x2 y2 H6 hy2 h6 => ?_⟩
    walk_at "hz.g"
    refine ⟨bx2, x2, y2, 0, 2, _, rfl, h6, by decide, hy2, fun d x3 z3 H7 hd h7 => ?_⟩
    walk_at "hz.g"
    rw [show (1 + (d : Int)) = ((1 + d : Nat) : Int) by omega]
    refine r_iR11 (by omega) ?_
    rw [Int.toNat_natCast]
    refine for_w walk_r0 (fun _ σ H => ∃ (x y z : Nat) (M : Mdl) (ef : List (Str × V)) (eb b : Blk) (z6 : Option V), y < 2147483629 ∧ σ = [some (.ref a), some (.ref bx2), some (.ref wl), some (.ref la.md), some (.ref a0), some (.int ((1 + i : Nat) : Int)), z6, z7, z8] ∧ Row (CT K) (He.ga K "Copied") ["halves", "roots"] a0 M ef eb b ∧ WP_Copied K M ef eb ∧ (∃ m, M.kept m) ∧
      HB H (bxB bx2 x y z :: lmB la M :: b :: sb :: L)) ⟨x3, y2, z3, M, ef, eb, b, _, hy2, rfl, hR, hW, he, h7⟩ (fun i σ H hi h => trivial) (fun i2 x σ H H' hi h y => ?_) (fun σ H h => ?_)
    · obtain ⟨x, y0, z, M, ef, eb, b, z6, hy, rfl, hR, hW, he, h⟩ := h
      obtain ⟨rfl, rfl⟩ := y
      walk_at "hz.g"
      refine ⟨bx2, x, y0, z, la, a0, M, ef, eb, b, _, rfl, h, hy, hR, hW, he, fun M2 ef2 eb2 b2 x4 z4 H8 hR2 hW2 he2 h8 => ?_⟩
      walk_at "hz.g"
      exact ⟨x4, y0, z4, M2, ef2, eb2, b2, _, hy, rfl, hR2, hW2, he2, h8⟩
    obtain ⟨x, y0, z, M, ef, eb, b, z6, hy, rfl, hR, hW, he, h⟩ := h
    walk_at "hz.g"
    refine ⟨bx2, x, y0, z, 5, _, rfl, h, by decide, hy, fun d x3 z3 H7 hd h7 => ?_⟩
    walk_at "hz.g"
    refine r_join (fun σ H => ∃ (x y z : Nat) (M : Mdl) (ef : List (Str × V)) (eb b : Blk), y < 2147483629 ∧ σ = [some (.ref a), some (.ref bx2), some (.ref wl), some (.ref la.md), some (.ref a0), some (.int ((1 + i : Nat) : Int)), z6, z7, z8] ∧ Row (CT K) (He.ga K "Copied") ["halves", "roots"] a0 M ef eb b ∧ WP_Copied K M ef eb ∧ (∃ m, M.kept m) ∧
      HB H (bxB bx2 x y z :: lmB la M :: b :: sb :: L)) (fun σ H h => ?_) (fun nx hnx => ?_)
    · obtain ⟨x, y0, z, M, ef, eb, b, hy, rfl, hR, hW, he, h⟩ := h
      walk_at "hz.g"
      refine ⟨bx2, x, y0, z, la, M, _, rfl, h, hy, hR.1, he, fun m x1 z1 H8 hm h8 => ?_⟩
      walk_at "hz.g"
      refine ⟨bx2, x1, y0, z1, la, M, _, rfl, h8, hy, hR.1, he, fun n0 x2 z2 H9 hn0 h9 => ?_⟩
      walk_at "hz.g"
      rename_i q H10 h10
      refine ⟨bx2, x2, y0, z2, 8, _, rfl, h10.sub_of (Ts := bxB bx2 x2 y0 z2 :: [(q, .lst [.int (n0 : Int), .int (m : Int)])] :: lmB la M :: b :: sb :: L) (by walk_at "hz.sub"), by decide, hy, fun d2 x3 z3 H11 hd2 h11 => ?_⟩
      obtain ⟨n, hn, ei⟩ : ∃ n : Nat, M.kept n ∧ atI [V.int (n0 : Int), V.int (m : Int)] (if decide ((d2 : Int) = 0) = true then 1 else 0) = some (.int (n : Int)) := by
        by_cases c : d2 = 0
        · exact ⟨m, hm, by rw [if_pos (by simp [c])]; exact atI_c1⟩
        · exact ⟨n0, hn0, by rw [if_neg (by simp [c])]; exact atI_c0⟩
      walk_at "hz.g"
      refine ⟨la, a0, M, ef, eb, b, m, n, _, rfl, h11.sub_of (Ts := lmB la M :: b :: sb :: L) (by walk_at "hz.sub"), hR, hW, hm, hn, fun ef2 eb2 b2 H12 hR2 hW2 h12 => ?_⟩
      walk_at "hz.g"
      refine ⟨la, a0, M, ef2, eb2, b2, n, m, _, rfl, h12, hR2, hW2, hn, hm, fun ef3 eb3 b3 H13 hR3 hW3 h13 => ?_⟩
      walk_at "hz.g"
      exact ⟨bx2, M, ef3, eb3, b3, _, _, _, _, L, rfl, hR3, hW3, he, h13⟩
    · by_cases c0 : d = 0
      · refine r_yes (decide_eq_true (by omega)) ?_
        walk_at "hz.g"
        refine ⟨bx2, x3, y0, z3, la, a0, M, ef, eb, b, _, rfl, h7, hy, hR, hW, he, fun M2 ef2 eb2 b2 x4 z4 H8 hR2 hW2 he2 h8 => ?_⟩
        walk_at "hz.g"
        exact hnx _ _ ⟨x4, y0, z4, M2, ef2, eb2, b2, hy, rfl, hR2, hW2, he2, h8⟩
      · refine r_no (decide_eq_false (by omega)) ?_
        walk_at "hz.g"
        exact hnx _ _ ⟨x3, y0, z3, M, ef, eb, b, hy, rfl, hR, hW, he, h7⟩
  · obtain ⟨bx, M, ef, eb, b, z5, z6, z7, z8, L, rfl, hR, hW, he, h⟩ := h
    walk_at "hz.g"
    exact k _


end
theorem law_facts {P : Program} {w : World} {K : PySem.W.Frag} {h : Heap} {mg : Str → Option Value} {f : Addr} (X : K.In h) (G : h.Ns mainGlobals mg) (hfa : mg ("law" : Str) = some (.ref f)) (c : He.SaysD fa fn K) (ck : kOk K = true) :
    ∃ fd : FuncData, (∀ (s : Shared) (v : Value), BindsTo s fd ⟨[v], []⟩ [("_law_script", v)]) ∧ ∀ base : Heap, K.In base → base.Ns mainGlobals mg → FnG P w K mg base CX0 63 f fd ["_law_script"] (sLaw_Copied K) := by
  have ck2 := Bool.and_eq_true_iff.mp ck
  have S : ∀ base : Heap, K.In base → base.Ns mainGlobals mg → Sit P w K mg base := fun base X G => ⟨c, ck2.1, ck2.2, ⟨base, X, G⟩⟩
  obtain ⟨fd, F⟩ := c.def_ 38 (d := d_law) rfl
  have e := hfa.symm.trans (gl_law (S h X G))
  cases e
  have b := FunD.bindsA (ps := ["_law_script"]) F fun _ _ _ _ _ _ us hl => match us, hl with | [_], _ => rfl
  refine ⟨fd, fun s v => b s [v] rfl, fun base X2 G2 => ?_⟩
  exact ok_law (S base X2 G2) F
end Mk
open PySem PySem.W PySem.Calls PyProof.Rows
theorem PySem.Challenge.cw_makeskept_k53_parted_by_parts_holds : PySem.Challenge.rw_makeskept_k53_parted_by_parts.Holds := by
  w_on; o_law
  refine HandSHeadRun.head_any (r := OpenLaw.row PySem.Challenge.rw_makeskept_k53_parted_by_parts) (q := view (OpenLaw.row PySem.Challenge.rw_makeskept_k53_parted_by_parts).prog [65]) (H := Mk.hk) (ob := Mk.ob) (M := 9500) (loose := Mk.loose) (d := HandSHeadRun.topDef (OpenLaw.row PySem.Challenge.rw_makeskept_k53_parted_by_parts).prog 65) (kwd := []) Mk.ob_eq
    (by kernel_rfl) (fun s => by kernel_rfl) Mk.run (by kernel_rfl) (by kernel_rfl) (by kernel_rfl) (by rfl) (by first | assumption | decide +kernel) (by decide +kernel) ⟨rfl, rfl, rfl, rfl, rfl, by decide +kernel⟩ ?hw ?hc
  case hw => w_witness2
  case hc =>
    refine Mk.walk_ofG (l := PySem.Challenge.rw_makeskept_k53_parted_by_parts) (n := 63) (k := 63) (x := "_law_script") (CX := L2.CX0) rfl (by decide) (by kernel_rfl) ⟨rfl, by decide, by decide⟩ ?F (fun _ _ _ _ z => z)
    intro w mg fa h Y G hmg0
    obtain ⟨K, KX, c, ck⟩ := Y
    have hmg : mg ("law" : PySem.Str) = some (.ref fa) := by
      have e : (HandSHeadRun.topDef (OpenLaw.row PySem.Challenge.rw_makeskept_k53_parted_by_parts).prog 65).name = ("law" : PySem.Str) := by kernel_rfl
      rw [← e]
      exact hmg0
    obtain ⟨fd, hb, hF⟩ := Mk.law_facts (P := (PySem.Challenge.rw_makeskept_k53_parted_by_parts).prog) (w := w) KX G hmg c ck
    refine ⟨K, fd, Mk.sLaw_Copied K, KX, hb, fun H a ns hl o hS => ?_, hF⟩
    obtain ⟨sb, h1, h2⟩ := Mk.Scr.of o hS
    exact ⟨a, ns, sb, rfl, h1, hl, h2, fun _ => rfl⟩
