/- The law's guard: is there a log, and is it as small as it can be? -/
import Derived.Test.YtigofgdmefobaaaDoorLawE
set_option linter.unusedVariables false
set_option linter.unusedSimpArgs false
namespace Go.Proofs.YtigofgdmefobaaaDoor.Peel
open Go.RowKit Go.Proofs.YtigofgdmefobaaaDoor.Iter
attribute [local go_sem] Oper.semAt_some
theorem fits_yes (n x y : Int) (w : World) (h1 : x ≤ n) (h2 : n ≤ y) :
    Calls Tryd.prog 46 #[.int .i64 n, .int .i64 x, .int .i64 y] w fun e w' => e = .returned (.bool true) ∧ w = w' := by
  refine (fits_any n x y w).mono ?_
  rintro e w' ⟨rfl, rfl⟩
  exact ⟨by rw [decide_eq_true ⟨h1, h2⟩], rfl⟩
set_option maxHeartbeats 2000000 in
theorem sound_any {w : World} {l : PL} {A B : Option Addr} {c d : Nat} (h : RawAt w l A B c d) :
    Calls Tryd.prog 39 #[.agg #[.slice A l.long.length c, .int .i64 l.size, .slice B l.knots.length d]] w fun e w' => e = .returned (.bool (decide l.Ok)) ∧ Below w.heap.size w w' := by
  have hB := (Below.refl _ w).alloc (Nat.le_refl _) (.cells #[.slice A l.long.length c, .int .i64 l.size, .slice B l.knots.length d] 25)
  have rx : (w.alloc (.cells #[.slice A l.long.length c, .int .i64 l.size, .slice B l.knots.length d] 25)).heap[w.heap.size]? = some (.cells #[.slice A l.long.length c, .int .i64 l.size, .slice B l.knots.length d] 25 (0, 0)) := by (repeat (first | with_reducible assumption | with_reducible exact row_new | with_reducible refine row_drew ?_ | with_reducible apply row_same | with_reducible refine row_diff ?_ (by first | omega | (simp only [World.size_alloc, size_setRow, size_drew', World.size_setCell]; omega)) | with_reducible refine row_far ?_ (by (try dsimp only); first | omega | (simp only [World.size_alloc, size_setRow, size_drew', World.size_setCell]; omega)) | with_reducible refine row_new' (by first | (simp only [World.size_alloc, size_setRow, size_drew', World.size_setCell]; done) | omega | (simp only [World.size_alloc, size_setRow, size_drew', World.size_setCell]; omega)) | with_reducible refine row_old ?_ | with_reducible refine row_below (by assumption) ?_ (by first | omega | (simp only [World.size_alloc, size_setRow, size_drew', World.size_setCell]; omega))))
  have H := Lib.hid (h.below hB)
  have RX := Lib.hid rx
  have HB := Lib.hid hB
  clear h rx hB
  by_cases ok : l.Ok
  · have t1 := ok.turns1
    have t6 := ok.turns
    have s1 := ok.size1
    have s6 := ok.size6
    have k3 := ok.knots3
    have HOK := Lib.hid ok
    rw [decide_eq_true HOK.out]
    go_enter Tryd.func39, Tryd.ntmps39
    go_wp2_with fail
    refine (check_ok H.out ok).mono ?_
    rintro e w1 ⟨rfl, hb1⟩
    have r1 := row_below hb1 RX.out (by simp)
    have q0 : w1.cell? ⟨w.heap.size, 0, none⟩ = some (.slice A l.long.length c) := cell_row' (i := 0) r1 rfl
    have q1 : w1.cell? ⟨w.heap.size, 1, none⟩ = some (.int .i64 l.size) := cell_row' (i := 1) r1 rfl
    have q2 : w1.cell? ⟨w.heap.size, 2, none⟩ = some (.slice B l.knots.length d) := cell_row' (i := 2) r1 rfl
    have H1 := Lib.hid (H.out.below hb1)
    have HB1 := Lib.hid (bb HB.out hb1)
    have R1 := Lib.hid r1
    have hk3 : (l.knots.length : Int) ≤ 3 := by omega
    have ht1 : (1 : Int) ≤ (l.long.length : Int) := by omega
    have ht6 : (l.long.length : Int) ≤ 6 := by omega
    clear hb1 ok r1
    go_wp2_with (go_at_call 46; refine (fits_yes _ _ _ _ (by omega) (by omega)).mono ?_; rintro e w2 ⟨rfl, rfl⟩)
    go_loopw [3, 4] (fun o i wr => o = .bool true ∧ (∃ k : Nat, i = .int .i64 k ∧ k ≤ l.long.length) ∧ wr = w1) (fun _ i _ => l.long.length - (intOf i).toNat)
    case atStart => exact ⟨rfl, ⟨0, rfl, Nat.zero_le _⟩, by simp⟩
    case round =>
      obtain ⟨rfl, ⟨k, rfl, hk⟩, rfl⟩ := hrel
      by_cases hlt : k < l.long.length
      · obtain ⟨pa, rfl, hca⟩ := H1.out.long k hlt
        have hbd := HOK.out.long k hlt
        generalize l.long.getD k 0 = x at *
        go_wp2_with (go_at_call 46; refine (fits_yes _ _ _ _ hbd.1 hbd.2).mono ?_; rintro e w2 ⟨rfl, rfl⟩)
        go_roundw
        case rel => exact ⟨rfl, ⟨k + 1, by go_num, by omega⟩, by simp⟩
        case measure => simp [intOf]; omega
      · go_wp2_with fail
        go_loopw [3, 5] (fun o i wr2 => o = .bool true ∧ (∃ k : Nat, i = .int .i64 k ∧ k ≤ l.knots.length) ∧ Below wr.heap.size wr wr2) (fun _ i _ => l.knots.length - (intOf i).toNat)
        case atStart => exact ⟨rfl, ⟨0, rfl, Nat.zero_le _⟩, Below.refl _ _⟩
        case round =>
          obtain ⟨rfl, ⟨j, rfl, hj⟩, hbr⟩ := hrel
          have p0 := cell_below hbr q0
          have p1 := cell_below hbr q1
          have p2 := cell_below hbr q2
          have HBR := Lib.hid hbr
          by_cases hjl : j < l.knots.length
          · obtain ⟨x, hx⟩ : ∃ x, l.knots[j]? = some x := ⟨l.knots[j], by simp [hjl]⟩
            obtain ⟨pb, rfl, e0, e1, e2, e3⟩ := (H1.out.below hbr).knots j x hx
            obtain ⟨⟨a1, a2, a3, a4⟩, ⟨b1, b2, b3, b4⟩⟩ := HOK.out.knots x (List.mem_of_getElem? hx)
            have hw1 : IntKind.i64.wrap (x.a.hi - x.a.lo) = x.a.hi - x.a.lo := IntWalk.i64_in _ (by omega)
            have hw2 : IntKind.i64.wrap (x.f.hi - x.f.lo) = x.f.hi - x.f.lo := IntWalk.i64_in _ (by omega)
            obtain ⟨⟨xa, xb⟩, ⟨xc, xd⟩⟩ := x
            dsimp only at *
            go_upto_region 10 with (fail)
            obtain ⟨W2, hW2⟩ : ∃ W2, W2 = wr.alloc (.cells #[.int .i64 xa, .int .i64 xb, .int .i64 xc, .int .i64 xd] 61) := ⟨_, rfl⟩
            rw [← hW2]
            have hb2 : Below wr.heap.size wr W2 := by rw [hW2]; exact (Below.refl _ _).alloc (Nat.le_refl _) _
            have rk : W2.heap[wr.heap.size]? = some (.cells #[.int .i64 xa, .int .i64 xb, .int .i64 xc, .int .i64 xd] 61 (0, 0)) := by rw [hW2]; (repeat (first | with_reducible assumption | with_reducible exact row_new | with_reducible refine row_drew ?_ | with_reducible apply row_same | with_reducible refine row_diff ?_ (by first | omega | (simp only [World.size_alloc, size_setRow, size_drew', World.size_setCell]; omega)) | with_reducible refine row_far ?_ (by (try dsimp only); first | omega | (simp only [World.size_alloc, size_setRow, size_drew', World.size_setCell]; omega)) | with_reducible refine row_new' (by first | (simp only [World.size_alloc, size_setRow, size_drew', World.size_setCell]; done) | omega | (simp only [World.size_alloc, size_setRow, size_drew', World.size_setCell]; omega)) | with_reducible refine row_old ?_ | with_reducible refine row_below (by assumption) ?_ (by first | omega | (simp only [World.size_alloc, size_setRow, size_drew', World.size_setCell]; omega))))
            have z0 := cell_below hb2 p0
            have y0 : W2.cell? ⟨wr.heap.size, 0, none⟩ = some (.int .i64 xa) := cell_row' (i := 0) rk rfl
            have y1 : W2.cell? ⟨wr.heap.size, 1, none⟩ = some (.int .i64 xb) := cell_row' (i := 1) rk rfl
            have y2 : W2.cell? ⟨wr.heap.size, 2, none⟩ = some (.int .i64 xc) := cell_row' (i := 2) rk rfl
            have y3 : W2.cell? ⟨wr.heap.size, 3, none⟩ = some (.int .i64 xd) := cell_row' (i := 3) rk rfl
            have HB2 := Lib.hid (bb HBR.out hb2)
            clear hW2 hb2 rk p0 p1 p2 e0 e1 e2 e3 q0 q1 q2 hbr
            go_wp2_with fail
            refine (right_yes _ _ _ _ a1 a2 a3).mono ?_
            rintro e W3 ⟨rfl, hb3⟩
            have z0' := cell_below hb3 z0
            have y0' := cell_below hb3 y0
            have y1' := cell_below hb3 y1
            have y2' := cell_below hb3 y2
            have y3' := cell_below hb3 y3
            have HB3 := Lib.hid (bb HB2.out hb3)
            clear hb3 z0 y0 y1 y2 y3
            go_wp2_with fail
            refine (right_yes _ _ _ _ b1 b2 b3).mono ?_
            rintro e W4 ⟨rfl, hb4⟩
            have z0 := cell_below hb4 z0'
            have y0 := cell_below hb4 y0'
            have y1 := cell_below hb4 y1'
            have y2 := cell_below hb4 y2'
            have y3 := cell_below hb4 y3'
            have HB4 := Lib.hid (bb HB3.out hb4)
            clear hb4 z0' y0' y1' y2' y3'
            go_wp2_with fail
            go_roundw
            case rel => exact ⟨rfl, ⟨j + 1, by go_num, by omega⟩, HB4.out⟩
            case measure => simp [intOf]; omega
          · go_wp2_with fail
            go_ret
            exact ⟨rfl, bb HB1.out HBR.out⟩
  · go_enter Tryd.func39, Tryd.ntmps39
    go_wp2_with fail
    refine (check_any H.out).mono ?_
    rintro e w1 ⟨(⟨ho, _⟩ | ⟨_, rfl⟩), hb1⟩
    · exact absurd ho ok
    have r1 := row_below hb1 RX.out (by simp)
    have q0 : w1.cell? ⟨w.heap.size, 0, none⟩ = some (.slice A l.long.length c) := cell_row' (i := 0) r1 rfl
    have q1 : w1.cell? ⟨w.heap.size, 1, none⟩ = some (.int .i64 l.size) := cell_row' (i := 1) r1 rfl
    have q2 : w1.cell? ⟨w.heap.size, 2, none⟩ = some (.slice B l.knots.length d) := cell_row' (i := 2) r1 rfl
    have HB1 := Lib.hid (bb HB.out hb1)
    clear hb1 r1
    go_wp2_with fail
    go_loopw [3, 4] (fun o i wr => o = .bool false ∧ i = .int .i64 0 ∧ wr = w1) (fun _ _ _ => 0)
    case atStart => exact ⟨rfl, rfl, by simp⟩
    case round =>
      obtain ⟨rfl, rfl, rfl⟩ := hrel
      go_wp2_with fail
      go_loopw [3, 5] (fun o i wr2 => o = .bool false ∧ i = .int .i64 0 ∧ wr2 = wr) (fun _ _ _ => 0)
      case atStart => exact ⟨rfl, rfl, by simp⟩
      case round =>
        obtain ⟨rfl, rfl, rfl⟩ := hrel
        go_wp2_with fail
        go_ret
        exact ⟨by rw [decide_eq_false ok]; rfl, HB1.out⟩
end Go.Proofs.YtigofgdmefobaaaDoor.Peel
