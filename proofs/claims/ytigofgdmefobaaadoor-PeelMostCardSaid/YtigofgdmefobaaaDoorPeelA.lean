/- Plain facts about logs, as numbers and lists: no program in sight. -/
import Derived.RowKit
set_option linter.unusedVariables false
namespace Go.Proofs.YtigofgdmefobaaaDoor.Peel

/-- A span, a knot, a log. -/
structure Sp where
  lo : Int
  hi : Int
structure Kn where
  a : Sp
  f : Sp
structure PL where
  long : List Int
  size : Int
  knots : List Kn

def sumTo (xs : List Int) (k : Nat) : Int := (xs.take k).sum
theorem sumTo_zero (xs : List Int) : sumTo xs 0 = 0 := by simp [sumTo]
theorem sumTo_succ (xs : List Int) (k : Nat) (h : k < xs.length) : sumTo xs (k + 1) = sumTo xs k + xs.getD k 0 := by
  unfold sumTo
  rw [List.take_succ_eq_append_getElem h, List.sum_append]
  simp [List.getD_eq_getElem?_getD, List.getElem?_eq_getElem h]
theorem sumTo_all (xs : List Int) : sumTo xs xs.length = xs.sum := by simp [sumTo]

structure Sp.Ok (s : Sp) (first last wide : Int) : Prop where
  low : first ≤ s.lo
  ends : s.lo ≤ s.hi
  high : s.hi ≤ last
  close : s.hi - s.lo ≤ wide
structure Kn.Ok (k : Kn) (n : Int) : Prop where
  a : k.a.Ok 0 23 3
  f : k.f.Ok 0 n 1
/-- A valid log. -/
structure PL.Ok (l : PL) : Prop where
  turns1 : 1 ≤ l.long.length
  turns : l.long.length ≤ 6
  size1 : 1 ≤ l.size
  size6 : l.size ≤ 6
  knots3 : l.knots.length ≤ 3
  long : ∀ k, k < l.long.length → 1 ≤ l.long.getD k 0 ∧ l.long.getD k 0 ≤ 12
  down : ∀ k, 0 < k → k < l.long.length → l.long.getD k 0 ≤ l.long.getD (k - 1) 0
  knots : ∀ x ∈ l.knots, x.Ok l.long.length

instance (s : Sp) (a b c : Int) : Decidable (s.Ok a b c) := decidable_of_iff ((a ≤ s.lo ∧ s.lo ≤ s.hi) ∧ s.hi ≤ b ∧ s.hi - s.lo ≤ c) ⟨fun h => ⟨h.1.1, h.1.2, h.2.1, h.2.2⟩, fun h => ⟨⟨h.1, h.2⟩, h.3, h.4⟩⟩
instance (k : Kn) (n : Int) : Decidable (k.Ok n) := decidable_of_iff (k.a.Ok 0 23 3 ∧ k.f.Ok 0 n 1) ⟨fun h => ⟨h.1, h.2⟩, fun h => ⟨h.1, h.2⟩⟩
instance (l : PL) : Decidable l.Ok := decidable_of_iff ((1 ≤ l.long.length ∧ l.long.length ≤ 6) ∧ (1 ≤ l.size ∧ l.size ≤ 6) ∧ l.knots.length ≤ 3 ∧ (∀ k, k < l.long.length → 1 ≤ l.long.getD k 0 ∧ l.long.getD k 0 ≤ 12) ∧ (∀ k, k < l.long.length → 0 < k → l.long.getD k 0 ≤ l.long.getD (k - 1) 0) ∧ ∀ x ∈ l.knots, x.Ok l.long.length)
  ⟨fun h => ⟨h.1.1, h.1.2, h.2.1.1, h.2.1.2, h.2.2.1, h.2.2.2.1, fun k a b => h.2.2.2.2.1 k b a, h.2.2.2.2.2⟩, fun h => ⟨⟨h.1, h.2⟩, ⟨h.3, h.4⟩, h.5, h.6, fun k a b => h.7 k b a, h.8⟩⟩
/-- How many columns the ribbon has. -/
def PL.all (l : PL) : Int := l.long.sum
theorem sumTo_le {l : PL} (h : l.Ok) (k : Nat) : k ≤ l.long.length → 0 ≤ sumTo l.long k ∧ sumTo l.long k ≤ 12 * k := by
  induction k with
  | zero => intro _; simp [sumTo_zero]
  | succ k ih =>
    intro hk
    have h1 := ih (by omega)
    have h2 := h.long k (by omega)
    rw [sumTo_succ _ _ (by omega)]
    omega
theorem sumTo_bd {l : PL} (h : l.Ok) (k : Nat) (hk : k ≤ l.long.length) : 0 ≤ sumTo l.long k ∧ sumTo l.long k ≤ 72 := by
  have := sumTo_le h k hk
  have := h.turns
  omega
theorem all_bd {l : PL} (h : l.Ok) : 0 ≤ l.all ∧ l.all ≤ 72 := by
  have := sumTo_bd h l.long.length (Nat.le_refl _)
  rwa [sumTo_all] at this
theorem sumTo_mono {l : PL} (h : l.Ok) (j k : Nat) (hjk : j ≤ k) (hk : k ≤ l.long.length) : sumTo l.long j ≤ sumTo l.long k := by
  induction k with
  | zero => have : j = 0 := by omega
            subst this; exact Int.le_refl _
  | succ k ih =>
    rcases Nat.lt_or_ge k j with hj | hj
    · have : j = k + 1 := by omega
      subst this; exact Int.le_refl _
    · have h1 := ih hj (by omega)
      have h2 := h.long k (by omega)
      rw [sumTo_succ _ _ (by omega)]
      omega
/-- The column of an angle in a turn. -/
def PL.col (l : PL) (t : Nat) (a : Int) : Int := sumTo l.long t + a * l.long.getD t 0 / 24
theorem col_bd {l : PL} (h : l.Ok) (t : Nat) (a : Int) (ht : t < l.long.length) (h0 : 0 ≤ a) (h1 : a ≤ 23) : sumTo l.long t ≤ l.col t a ∧ l.col t a < sumTo l.long (t + 1) := by
  have hl := h.long t ht
  rw [sumTo_succ _ _ ht]
  unfold PL.col
  generalize l.long.getD t 0 = x at *
  have hm : 0 ≤ a * x := Int.mul_nonneg h0 (by omega)
  have hm2 : a * x ≤ 23 * x := Int.mul_le_mul_of_nonneg_right h1 (by omega)
  omega
theorem col_all {l : PL} (h : l.Ok) (t : Nat) (a : Int) (ht : t < l.long.length) (h0 : 0 ≤ a) (h1 : a ≤ 23) : 0 ≤ l.col t a ∧ l.col t a < l.all := by
  have h2 := col_bd h t a ht h0 h1
  have h3 := sumTo_bd h t (by omega)
  have h4 := sumTo_mono h (t + 1) l.long.length (by omega) (Nat.le_refl _)
  rw [sumTo_all] at h4
  unfold PL.all
  omega
/-- Are these columns, from one on, the first ones of pieces of a cutting? -/
def PL.isCut (l : PL) : Int → List Int → Bool
  | _, [] => true
  | b, c :: cs => decide (b ≤ c ∧ c ≤ l.all - l.size) && l.isCut (c + l.size) cs
theorem isCut_at (l : PL) (b : Int) (cs : List Int) (k : Nat) (h : k < cs.length) : l.isCut b (cs.drop k) = (decide (b ≤ cs.getD k 0 ∧ cs.getD k 0 ≤ l.all - l.size) && l.isCut (cs.getD k 0 + l.size) (cs.drop (k + 1))) := by
  rw [List.drop_eq_getElem_cons h, PL.isCut]
  simp [List.getD_eq_getElem?_getD, List.getElem?_eq_getElem h]
end Go.Proofs.YtigofgdmefobaaaDoor.Peel
