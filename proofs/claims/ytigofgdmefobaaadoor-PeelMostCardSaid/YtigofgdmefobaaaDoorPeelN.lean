/- Walks of package peel: whole pieces, and the best cutting for known columns. -/
import Derived.Test.YtigofgdmefobaaaDoorPeelG
import Derived.Test.YtigofgdmefobaaaDoorRow
set_option linter.unusedVariables false
set_option linter.unusedSimpArgs false
namespace Go.Proofs.YtigofgdmefobaaaDoor.Peel
open Go.RowKit

/-- Is the piece from a column on whole? -/
def PL.free (l : PL) (r : Nat → Bool) (c : Nat) : Bool := (List.range l.size.toNat).all fun i => !r (c + i)
set_option maxHeartbeats 2000000 in
theorem isWhole_any {w : World} {l : PL} {a : Addr} {B : Option Addr} {c d : Nat} (m : Nat) (h1 : 1 ≤ l.size) (h6 : l.size ≤ 6) (r : Nat → Bool) (x : Nat) (hx : (x : Int) + l.size ≤ 72) :
    Calls Tryd.prog 92 #[.agg #[.slice (some a) l.long.length c, .int .i64 l.size, .slice B l.knots.length d, .map (some m)], .agg (rv r), .int .i64 x] w fun e w' => e = .returned (.bool (l.free r x)) ∧ Below w.heap.size w w' := by
  have hb := ((Below.refl _ w).alloc (Nat.le_refl _) (.cells #[.slice (some a) l.long.length c, .int .i64 l.size, .slice B l.knots.length d, .map (some m)] 75)).alloc (by simp) (.cells (rv r) 86)
  have HB := Lib.hid hb
  have hrow : ((w.alloc (.cells #[.slice (some a) l.long.length c, .int .i64 l.size, .slice B l.knots.length d, .map (some m)] 75)).alloc (.cells (rv r) 86)).heap[w.heap.size + 1]? = some (.cells (rv r) 86 (0, 0)) := by (repeat (first | with_reducible assumption | with_reducible exact row_new | with_reducible refine row_drew ?_ | with_reducible apply row_same | with_reducible refine row_diff ?_ (by first | omega | (simp only [World.size_alloc, size_setRow, size_drew', World.size_setCell]; omega)) | with_reducible refine row_far ?_ (by (try dsimp only); first | omega | (simp only [World.size_alloc, size_setRow, size_drew', World.size_setCell]; omega)) | with_reducible refine row_new' (by first | (simp only [World.size_alloc, size_setRow, size_drew', World.size_setCell]; done) | omega | (simp only [World.size_alloc, size_setRow, size_drew', World.size_setCell]; omega)) | with_reducible refine row_old ?_ | with_reducible refine row_below (by assumption) ?_ (by first | omega | (simp only [World.size_alloc, size_setRow, size_drew', World.size_setCell]; omega))))
  have HR := Lib.hid hrow
  clear hb hrow
  obtain ⟨n, hn⟩ := Int.eq_ofNat_of_zero_le (show 0 ≤ l.size by omega)
  have HN := Lib.hid (show l.free r x = (List.range n).all (fun i => !r (x + i)) by unfold PL.free; rw [hn]; rfl)
  rw [HN.out]
  rw [hn] at hx h1 h6 HB HR ⊢
  have hx' : x + n ≤ 72 := by omega
  have hx2 : (x : Int) + n ≤ 72 := hx
  have hx3 : (0 : Int) ≤ x := by omega
  have hx4 : (x : Int) ≤ x + n := by omega
  go_enter Tryd.func92, Tryd.ntmps92
  go_wp2_with (first | ((with_reducible refine gate_box 86 rfl ?_); refine ev_box_rib rfl _ rfl r rfl ?_))
  go_loop [17] (fun i => ∃ k : Nat, i = .int .i64 k ∧ k ≤ n ∧ (List.range k).all (fun j => !r (x + j)) = true) (fun i => n - (intOf i).toNat)
  case atStart => exact ⟨0, rfl, Nat.zero_le _, by simp⟩
  case round =>
    obtain ⟨k, rfl, hk, hall⟩ := hrel
    by_cases hlt : k < n
    · have e0 := (cell_of_row _ _ (x + k) _ _ (0, 0) HR.out).trans (rv_get r (x + k) (by omega))

      have HS := Lib.hid (show (List.range (k + 1)).all (fun j => !r (x + j)) = ((List.range k).all (fun j => !r (x + j)) && !r (x + k)) by rw [List.range_succ]; simp [List.all_append])
      cases hb : r (x + k)
      · rw [hb] at e0 HS
        go_wp2_with fail
        go_round
        case rel => exact ⟨k + 1, by go_num, by omega, by rw [HS.out, hall]; rfl⟩
        case measure => simp [intOf]; omega
      · rw [hb] at e0
        have hfa : (List.range n).all (fun j => !r (x + j)) = false := by
          rw [List.all_eq_false]
          exact ⟨k, by simp [hlt], by simp [hb]⟩
        have HF := Lib.hid hfa
        clear hfa hall
        go_wp2_with fail
        go_ret
        exact ⟨by rw [HF.out]; rfl, HB.out⟩
    · obtain rfl : k = n := by omega
      have HF := Lib.hid hall
      clear hall
      go_wp2_with fail
      go_ret
      exact ⟨by rw [HF.out]; rfl, HB.out⟩
end Go.Proofs.YtigofgdmefobaaaDoor.Peel
