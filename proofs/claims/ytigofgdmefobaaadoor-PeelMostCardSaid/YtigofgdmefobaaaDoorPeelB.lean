/- Walks of the small functions of package peel on a valid log. -/
import Derived.Test.YtigofgdmefobaaaDoorProg
import Derived.Test.YtigofgdmefobaaaDoorPeelA
import Derived.WalkKit
import Derived.OwnWalk
import Derived.Below
import Derived.Deep.QuietTactic
import Derived.BigQuiet
import Derived.Deep.LoopGhost
import Derived.Deep.RegionHeld3
import Derived.WideLaws
import Derived.Lib.Hide
set_option linter.unusedVariables false
set_option linter.unusedSimpArgs false
namespace Go.Proofs.YtigofgdmefobaaaDoor.Peel
open Go.RowKit

/-- A valid log lies in memory. -/
structure LogAt (w : World) (l : PL) (a : Addr) (B : Option Addr) (c d : Nat) : Prop where
  ok : l.Ok
  long : ∀ k, k < l.long.length → w.cell? (a.add k) = some (.int .i64 (l.long.getD k 0))
  knots : ∀ k x, l.knots[k]? = some x → ∃ b, B = some b ∧ w.cell? (b.add (k * 4)) = some (.int .i64 x.a.lo) ∧ w.cell? ⟨(b.add (k * 4)).block, (b.add (k * 4)).off + 1, none⟩ = some (.int .i64 x.a.hi) ∧ w.cell? ⟨(b.add (k * 4)).block, (b.add (k * 4)).off + 2, none⟩ = some (.int .i64 x.f.lo) ∧ w.cell? ⟨(b.add (k * 4)).block, (b.add (k * 4)).off + 3, none⟩ = some (.int .i64 x.f.hi)
  c : l.long.length ≤ c
  d : l.knots.length ≤ d
theorem cell_below {w w1 : World} (h : Below w.heap.size w w1) {a : Addr} {v : Value} (hc : w.cell? a = some v) : w1.cell? a = some v := (h.cell (World.block_lt_of_cell? w a hc)).trans hc
/-- One call behind another. -/
theorem bb {w w1 w2 : World} (h : Below w.heap.size w w1) (k : Below w1.heap.size w1 w2) : Below w.heap.size w w2 := h.trans (k.mono h.size)
theorem LogAt.below {w w1 : World} {l : PL} {a : Addr} {B : Option Addr} {c d : Nat} (h : LogAt w l a B c d) (hb : Below w.heap.size w w1) : LogAt w1 l a B c d where
  ok := h.ok
  long := fun k hk => cell_below hb (h.long k hk)
  knots := fun k x hx => by
    obtain ⟨b, e, h0, h1, h2, h3⟩ := h.knots k x hx
    exact ⟨b, e, cell_below hb h0, cell_below hb h1, cell_below hb h2, cell_below hb h3⟩
  c := h.c
  d := h.d

/-- 'n := 0; for _, long := range l.Long[:turn] { n += long }'. -/
theorem before_any {w : World} {l : PL} {a : Addr} {B : Option Addr} {c d : Nat} (m : Nat) (h : LogAt w l a B c d) (t : Int) (h0 : 0 ≤ t) (ht : t ≤ l.long.length) :
    Calls Tryd.prog 86 #[.agg #[.slice (some a) l.long.length c, .int .i64 l.size, .slice B l.knots.length d, .map (some m)], .int .i64 t] w fun e w' => e = .returned (.int .i64 (sumTo l.long t.toNat)) ∧ Below w.heap.size w w' := by
  obtain ⟨t, rfl⟩ := Int.eq_ofNat_of_zero_le h0
  simp only [Int.toNat_natCast]
  have ht' : t ≤ l.long.length := by omega
  have hn := h.ok.turns
  have hc := h.c
  go_enter Tryd.func86, Tryd.ntmps86
  go_wp2
  go_loop [5, 7, 14] (fun n _ i => ∃ k : Nat, k ≤ t ∧ i = .int .i64 k ∧ n = .int .i64 (sumTo l.long k)) (fun _ _ i => t - (intOf i).toNat)
  case atStart => exact ⟨0, Nat.zero_le _, rfl, by simp [sumTo_zero]⟩
  case round =>
    obtain ⟨k, hk, rfl, rfl⟩ := hrel
    by_cases hlt : k < t
    · have hcell := cell_below ((Below.refl _ w).alloc (Nat.le_refl _) (.cells #[.slice (some a) l.long.length c, .int .i64 l.size, .slice B l.knots.length d, .map (some m)] 75)) (h.long k (by omega))
      have h1 := sumTo_bd h.ok k (by omega)
      have h2 := sumTo_bd h.ok (k + 1) (by omega)
      have HC := Lib.hid (sumTo_succ l.long k (by omega))
      rw [HC.out] at h2
      clear h h0
      generalize l.long.getD k 0 = x at *
      go_wp2
      go_round
      case rel => exact ⟨k + 1, by omega, by go_num, by rw [HC.out]⟩
      case measure => simp [intOf]; omega
    · go_wp2
      go_ret
      have : k = t := by omega
      subst this
      exact ⟨rfl, (Below.refl _ _).alloc (Nat.le_refl _) _⟩
/-- 'return l.before(len(l.Long))'. -/
theorem columns_any {w : World} {l : PL} {a : Addr} {B : Option Addr} {c d : Nat} (m : Nat) (h : LogAt w l a B c d) :
    Calls Tryd.prog 58 #[.agg #[.slice (some a) l.long.length c, .int .i64 l.size, .slice B l.knots.length d, .map (some m)]] w fun e w' => e = .returned (.int .i64 l.all) ∧ Below w.heap.size w w' := by
  go_enter Tryd.func58, Tryd.ntmps58
  go_wp2_with fail
  have hb := ((Below.refl _ w).alloc (Nat.le_refl _) (.cells #[.slice (some a) l.long.length c, .int .i64 l.size, .slice B l.knots.length d, .map (some m)] 75))
  refine (before_any m (h.below hb) _ (by omega) (by omega)).mono ?_
  rintro e w' ⟨rfl, hb'⟩
  go_wp2_with fail
  go_ret
  exact ⟨by simp [sumTo_all, PL.all], bb hb hb'⟩
end Go.Proofs.YtigofgdmefobaaaDoor.Peel
