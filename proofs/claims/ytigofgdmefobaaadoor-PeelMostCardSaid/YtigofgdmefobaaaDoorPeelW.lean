/- Walks of package peel: Knotty. (the way of a valid question is not walked yet) -/
import Derived.Test.YtigofgdmefobaaaDoorPeelV
set_option linter.unusedVariables false
set_option linter.unusedSimpArgs false
namespace Go.Proofs.YtigofgdmefobaaaDoor.Peel
open Go.RowKit Go.Proofs.YtigofgdmefobaaaDoor.Iter
/-- 2: in all truths; 1: in some; 0: in none. -/
def PL.knottyAt (l : PL) (rs : List (Nat → Bool)) (x : Nat) : Int := if rs.all (fun r => r x) = true then 2 else if rs.any (fun r => r x) = true then 1 else 0
def knottyS (l : PL) (x : Int) : Int × Int := if l.Ok then (if 0 ≤ x ∧ x ≤ l.all - 1 then (l.knottyAt (l.truths l.knots none72) x.toNat, 0) else (0, 11)) else (0, 10)
set_option maxRecDepth 8000 in
set_option maxHeartbeats 8000000 in
theorem knotty_refused {w : World} {l : PL} {A B : Option Addr} {c d : Nat} (h : RawAt w l A B c d) (x : Int) (hbad : ¬ (l.Ok ∧ 0 ≤ x ∧ x ≤ l.all - 1)) :
    Calls Tryd.prog 21 #[.agg #[.slice A l.long.length c, .int .i64 l.size, .slice B l.knots.length d], .int .i64 x] w fun e w' => e = .returned (.tuple #[.int .i64 (knottyS l x).1, .int .i64 (knottyS l x).2]) ∧ Below w.heap.size w w' := by
  by_cases ok : l.Ok
  · obtain ⟨a, rfl, hl⟩ := h.at ok
    have hin : ¬ (0 ≤ x ∧ x ≤ l.all - 1) := fun hx => hbad ⟨ok, hx⟩
    have hB := ((Below.refl _ w).alloc (Nat.le_refl _) (.cells #[.slice (some a) l.long.length c, .int .i64 l.size, .slice B l.knots.length d] 25)).alloc (by simp) (.cells #[.int .i64 x] 3)
    have H := Lib.hid (hl.below hB)
    have rg : ((w.alloc (.cells #[.slice (some a) l.long.length c, .int .i64 l.size, .slice B l.knots.length d] 25)).alloc (.cells #[.int .i64 x] 3)).heap[w.heap.size + 1]? = some (.cells #[.int .i64 x] 3 (0, 0)) := by (repeat (first | with_reducible assumption | with_reducible exact row_new | with_reducible refine row_drew ?_ | with_reducible apply row_same | with_reducible refine row_diff ?_ (by first | omega | (simp only [World.size_alloc, size_setRow, size_drew', World.size_setCell]; omega)) | with_reducible refine row_far ?_ (by (try dsimp only); first | omega | (simp only [World.size_alloc, size_setRow, size_drew', World.size_setCell]; omega)) | with_reducible refine row_new' (by first | (simp only [World.size_alloc, size_setRow, size_drew', World.size_setCell]; done) | omega | (simp only [World.size_alloc, size_setRow, size_drew', World.size_setCell]; omega)) | with_reducible refine row_old ?_ | with_reducible refine row_below (by assumption) ?_ (by first | omega | (simp only [World.size_alloc, size_setRow, size_drew', World.size_setCell]; omega))))
    have HR := Lib.hid (knotty_right H.out x (w.heap.size + 1) (cell_row' (i := 0) rg rfl))
    have HO := Lib.hid (show knottyS l x = (0, 11) by unfold knottyS; rw [if_pos ok, if_neg hin])
    rw [HO.out]
    rw [decide_eq_false hin] at HR
    clear h hl rg hin hbad
    go_enter Tryd.func21, Tryd.ntmps21
    go_wp2_with fail
    refine (asked_no H.out _ _ HR.out).mono ?_
    rintro e w1 ⟨rfl, hb1⟩
    have HB := Lib.hid (bb hB hb1)
    clear hb1
    unfold zeroLog
    go_wp2_with fail
    go_ret2
    exact ⟨rfl, (HB.out.alloc HB.out.size _)⟩
  · have hB := ((Below.refl _ w).alloc (Nat.le_refl _) (.cells #[.slice A l.long.length c, .int .i64 l.size, .slice B l.knots.length d] 25)).alloc (by simp) (.cells #[.int .i64 x] 3)
    have H := Lib.hid (h.below hB)
    have HO := Lib.hid (show knottyS l x = (0, 10) from if_neg ok)
    clear h hbad
    rw [HO.out]
    go_enter Tryd.func21, Tryd.ntmps21
    go_wp2_with fail
    refine (asked_bad H.out _ _ ok).mono ?_
    rintro e w1 ⟨rfl, hb1⟩
    have HB := Lib.hid (bb hB hb1)
    clear hb1
    unfold zeroLog
    go_wp2_with fail
    go_ret2
    exact ⟨rfl, (HB.out.alloc HB.out.size _)⟩
end Go.Proofs.YtigofgdmefobaaaDoor.Peel
