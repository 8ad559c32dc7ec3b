/- Walks of package peel: the column of an angle. -/
import Derived.Test.YtigofgdmefobaaaDoorPeelB
set_option linter.unusedVariables false
set_option linter.unusedSimpArgs false
namespace Go.Proofs.YtigofgdmefobaaaDoor.Peel
open Go.RowKit
set_option maxHeartbeats 1000000 in
/-- 'return l.before(turn) + angle*l.Long[turn]/api.PeelAngle'. -/
theorem column_any {w : World} {l : PL} {a : Addr} {B : Option Addr} {c d : Nat} (m : Nat) (h : LogAt w l a B c d) (t x : Int) (h0 : 0 ≤ t) (ht : t < l.long.length) (hx0 : 0 ≤ x) (hx : x ≤ 23) :
    Calls Tryd.prog 63 #[.agg #[.slice (some a) l.long.length c, .int .i64 l.size, .slice B l.knots.length d, .map (some m)], .int .i64 t, .int .i64 x] w fun e w' => e = .returned (.int .i64 (l.col t.toNat x)) ∧ Below w.heap.size w w' := by
  obtain ⟨t, rfl⟩ := Int.eq_ofNat_of_zero_le h0
  simp only [Int.toNat_natCast]
  have ht' : t < l.long.length := by omega
  have hn := h.ok.turns
  have hc := h.c
  have hcell := cell_below ((Below.refl _ w).alloc (Nat.le_refl _) (.cells #[.slice (some a) l.long.length c, .int .i64 l.size, .slice B l.knots.length d, .map (some m)] 75)) (h.long t ht')
  have h1 := h.ok.long t ht'
  have h2 := sumTo_bd h.ok t (by omega)
  have H := Lib.hid h
  have HW := Lib.hid (show l.col t x = sumTo l.long t + x * l.long.getD t 0 / 24 from rfl)
  clear h
  generalize l.long.getD t 0 = y at *
  have hm : 0 ≤ x * y := Int.mul_nonneg hx0 (by omega)
  have hm2 : x * y ≤ 23 * y := Int.mul_le_mul_of_nonneg_right hx (by omega)
  have hb := ((Below.refl _ w).alloc (Nat.le_refl _) (.cells #[.slice (some a) l.long.length c, .int .i64 l.size, .slice B l.knots.length d, .map (some m)] 75))
  go_enter Tryd.func63, Tryd.ntmps63
  go_wp2_with fail
  go_region_held3 (fun w' => w'.cell? ⟨w.heap.size, 0, none⟩ = some (.slice (some a) l.long.length c) ∧ w'.cell? ⟨w.heap.size, 1, none⟩ = some (.int .i64 l.size) ∧ w'.cell? ⟨w.heap.size, 2, none⟩ = some (.slice B l.knots.length d) ∧ w'.cell? ⟨w.heap.size, 3, none⟩ = some (.map (some m)) ∧ w'.cell? (a.add t) = some (.int .i64 y))
    (first | go_keep | (go_split_ands; refine ⟨?_, ?_, ?_, ?_, ?_⟩ <;> exact cell_below hb' (by assumption)))
    (first | (go_at_call 86; refine (before_any m (H.out.below (by exact hb.drew)) _ (by omega) (by omega)).mono ?_; rintro e w' ⟨rfl, hb'⟩))
  have e1 : IntKind.i64.wrap (x * y) = x * y := IntWalk.i64_in _ (by omega)
  have e2 : IntKind.i64.wrap ((x * y).tdiv 24) = x * y / 24 := by rw [Int.tdiv_eq_ediv_of_nonneg hm]; exact IntWalk.i64_in _ (by omega)
  have e3 : IntKind.i64.wrap (sumTo l.long t + x * y / 24) = sumTo l.long t + x * y / 24 := IntWalk.i64_in _ (by omega)
  rw [e1, e2, e3]
  clear e1 e2 e3
  rw [← HW.out]
  go_wp2
  go_ret
  exact ⟨rfl, bb hb.drew hb'⟩
end Go.Proofs.YtigofgdmefobaaaDoor.Peel
