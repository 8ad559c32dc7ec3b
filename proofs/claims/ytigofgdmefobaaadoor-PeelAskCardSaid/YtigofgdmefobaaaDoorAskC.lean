/- PeelAsk: the walk. -/
import Derived.Test.YtigofgdmefobaaaDoorAskB
import Derived.Test.YtigofgdmefobaaaDoorLawD
set_option linter.unusedVariables false
set_option linter.unusedSimpArgs false
namespace Go.Proofs.YtigofgdmefobaaaDoor.Peel
open Go.RowKit Go.Proofs.YtigofgdmefobaaaDoor.Iter
attribute [local go_sem] Oper.semAt_some
set_option maxRecDepth 8000 in
set_option maxHeartbeats 4000000 in
theorem peelAsk_any {w : World} {l : PL} {A B : Option Addr} {c d : Nat} (h : RawAt w l A B c d) (he : EndsAt w) (x : Int) (hx : (Lit.int .i64 x).wf = true) :
    Calls Tryd.prog 13 #[.agg #[.slice A l.long.length c, .int .i64 l.size, .slice B l.knots.length d], .int .i64 x] w fun e w' => e = .returned (.bool true) ∧ Below w.heap.size w w' := by
  obtain ⟨W0, hW0⟩ : ∃ W0, W0 = w.alloc (.cells #[.slice A l.long.length c, .int .i64 l.size, .slice B l.knots.length d] 25) := ⟨_, rfl⟩
  go_enter Tryd.func13, Tryd.ntmps13
  go_upto_region 1 with (fail)
  rw [← hW0]
  have hb0 : Below w.heap.size w W0 := by rw [hW0]; exact (Below.refl _ w).alloc (Nat.le_refl _) _
  have rl : W0.heap[w.heap.size]? = some (.cells #[.slice A l.long.length c, .int .i64 l.size, .slice B l.knots.length d] 25 (0, 0)) := by rw [hW0]; (repeat (first | with_reducible assumption | with_reducible exact row_new | with_reducible refine row_drew ?_ | with_reducible apply row_same | with_reducible refine row_diff ?_ (by first | omega | (simp only [World.size_alloc, size_setRow, size_drew', World.size_setCell]; omega)) | with_reducible refine row_far ?_ (by (try dsimp only); first | omega | (simp only [World.size_alloc, size_setRow, size_drew', World.size_setCell]; omega)) | with_reducible refine row_new' (by first | (simp only [World.size_alloc, size_setRow, size_drew', World.size_setCell]; done) | omega | (simp only [World.size_alloc, size_setRow, size_drew', World.size_setCell]; omega)) | with_reducible refine row_old ?_ | with_reducible refine row_below (by assumption) ?_ (by first | omega | (simp only [World.size_alloc, size_setRow, size_drew', World.size_setCell]; omega))))
  have H0 := Lib.hid (h.below hb0)
  have HE0 := Lib.hid (he.below hb0)
  have HB0 := Lib.hid hb0
  have q0 : W0.cell? ⟨w.heap.size, 0, none⟩ = some (.slice A l.long.length c) := cell_row' (i := 0) rl rfl
  have q1 : W0.cell? ⟨w.heap.size, 1, none⟩ = some (.int .i64 l.size) := cell_row' (i := 1) rl rfl
  have q2 : W0.cell? ⟨w.heap.size, 2, none⟩ = some (.slice B l.knots.length d) := cell_row' (i := 2) rl rfl
  have RL := Lib.hid rl
  clear hW0 hb0 rl h he
  go_wp2_with fail
  refine (sound_any H0.out).mono ?_
  rintro e w1 ⟨rfl, hb1⟩
  have H1 := Lib.hid (H0.out.below hb1)
  have HE1 := Lib.hid (HE0.out.below hb1)
  have HB1 := Lib.hid (bb HB0.out hb1)
  have RL1 := Lib.hid (row_below hb1 RL.out (Array.getElem?_eq_some_iff.1 RL.out).1)
  clear q0 q1 q2 hb1
  by_cases ok : l.Ok
  · rw [decide_eq_true ok]
    have q0 : w1.cell? ⟨w.heap.size, 0, none⟩ = some (.slice A l.long.length c) := cell_row' (i := 0) RL1.out rfl
    have q1 : w1.cell? ⟨w.heap.size, 1, none⟩ = some (.int .i64 l.size) := cell_row' (i := 1) RL1.out rfl
    have q2 : w1.cell? ⟨w.heap.size, 2, none⟩ = some (.slice B l.knots.length d) := cell_row' (i := 2) RL1.out rfl
    by_cases hz : l.knots.length = 0
    · have hz' : (l.knots.length : Int) = 0 := by omega
      go_wp2_with fail
      refine (peeled_any HE1.out).mono ?_
      rintro e w2 ⟨rfl, hb2⟩
      have HB2 := Lib.hid (bb HB1.out hb2)
      clear hb2
      go_wp2_with fail
      go_ret
      exact ⟨rfl, HB2.out⟩
    · have hz' : ¬ (l.knots.length : Int) = 0 := by omega
      have HOK := Lib.hid ok
      obtain ⟨bi, e1, e2, e3, e4⟩ := askF_best l l.knots.length (by omega)
      have hask : askS l = ((bi : Int), 0) := by unfold askS; rw [if_pos ok, if_neg hz, e1]
      have hbest : bestS l = (l.cut l.possible, 0) := if_pos ok
      obtain ⟨xb, hxb⟩ : ∃ y, l.knots[bi]? = some y := ⟨l.knots[bi], by simp [e2]⟩
      have hge : l.pieces ≤ l.worst bi := worst_ge ok hxb (pieces_le ok)
      have hk3 := ok.knots3
      have HASK := Lib.hid hask
      have HBEST := Lib.hid hbest
      have HXB := Lib.hid hxb
      have HCMP := Lib.hid e4
      clear ok hask hbest hxb e1 e3 e4
      go_wp2_with fail
      have hc := ask_any H1.out HE1.out
      rw [HASK.out] at hc
      refine hc.mono ?_
      clear hc
      rintro e w2 ⟨rfl, hb2⟩
      have H2 := Lib.hid (H1.out.below hb2)
      have HE2 := Lib.hid (HE1.out.below hb2)
      have HB2 := Lib.hid (bb HB1.out hb2)
      have p0 := cell_below hb2 q0
      have p1 := cell_below hb2 q1
      have p2 := cell_below hb2 q2
      clear hb2 q0 q1 q2
      go_wp2_with fail
      have hc := best_any H2.out HE2.out
      rw [HBEST.out] at hc
      obtain ⟨N, hN⟩ : ∃ N : Nat, N = (l.cut l.possible).length := ⟨_, rfl⟩
      rw [← hN] at hc
      have hge' : (N : Int) ≤ l.worst bi := by rw [hN]; exact hge
      refine hc.mono ?_
      clear hc hge hN
      rintro e w3 ⟨ao, rfl, hb3, hcut⟩
      have H3 := Lib.hid (H2.out.below hb3)
      have HE3 := Lib.hid (HE2.out.below hb3)
      have HB3 := Lib.hid (bb HB2.out hb3)
      have q0 := cell_below hb3 p0
      have q1 := cell_below hb3 p1
      have q2 := cell_below hb3 p2
      clear hb3 p0 p1 p2 hcut
      have hwl : IntKind.i64.wrap ((l.knots.length : Int) - 1) = (l.knots.length : Int) - 1 := IntWalk.i64_in _ (by omega)
      have hm1 : (1 : Int) ≤ (l.knots.length : Int) := by omega
      have hm2 : (l.knots.length : Int) ≤ 1000000 := by omega
      go_upto_region 8 with (first
        | (go_at_call 46; refine (fits_yes _ _ _ _ (by omega) (by omega)).mono ?_; rintro e wf ⟨rfl, rfl⟩)
        | (go_at_call 49; with_reducible refine (spin_any _ _ _ hm1 hm2).mono ?_; rintro e wf ⟨⟨k, rfl, hk0, hk1⟩, rfl⟩))
      obtain ⟨ki, rfl⟩ : ∃ ki : Nat, k = ki := ⟨k.toNat, by omega⟩
      have hkl : ki < l.knots.length := by omega
      obtain ⟨xk, hxk⟩ : ∃ y, l.knots[ki]? = some y := ⟨l.knots[ki], by simp [hkl]⟩
      have HXK := Lib.hid hxk
      have HLEQ := Lib.hid hge'
      clear hxk hge'
      go_region_held3 (fun w' => w'.cell? ⟨w.heap.size, 0, none⟩ = some (.slice A l.long.length c) ∧ w'.cell? ⟨w.heap.size, 1, none⟩ = some (.int .i64 l.size) ∧ w'.cell? ⟨w.heap.size, 2, none⟩ = some (.slice B l.knots.length d))
        (first | go_keep | (go_split_ands; refine ⟨?_, ?_, ?_⟩ <;> exact cell_below HW6.out (by assumption)) | (go_split_ands; refine ⟨?_, ?_, ?_⟩ <;> exact cell_below HW5.out (by assumption)))
        (first
          | (go_at_call 51; have hc := worst_any (H3.out.below (by exact (Below.refl _ _).drew)) (HE3.out.below (by exact (Below.refl _ _).drew)) HOK.out bi xb HXB.out; rw [worstUpto_all (HOK.out.knots xb (List.mem_of_getElem? HXB.out)) HXB.out] at hc; (with_reducible refine hc.mono ?_); clear hc; rintro e w5 ⟨rfl, hb5⟩; have HW5 := Lib.hid hb5; clear hb5)
          | (go_at_call 51; have hc := worst_any ((H3.out.below (by exact (Below.refl _ _).drew)).below HW5.out) ((HE3.out.below (by exact (Below.refl _ _).drew)).below HW5.out) HOK.out ki xk HXK.out; rw [worstUpto_all (HOK.out.knots xk (List.mem_of_getElem? HXK.out)) HXK.out] at hc; (with_reducible refine hc.mono ?_); clear hc; rintro e w6 ⟨rfl, hb6⟩; have HW6 := Lib.hid hb6; clear hb6))
      have hcmp := HCMP.out ki hkl
      have hleq := HLEQ.out
      have hends6 := ((HE3.out.below (by exact (Below.refl _ _).drew)).below HW5.out).below HW6.out
      have hb6 := bb (bb HB3.out.drew HW5.out) HW6.out
      have HE6 := Lib.hid hends6
      have HB6 := Lib.hid hb6
      obtain ⟨X, hX⟩ : ∃ X, X = l.worst bi := ⟨_, rfl⟩
      obtain ⟨Y, hY⟩ : ∃ Y, Y = l.worst ki := ⟨_, rfl⟩
      rw [← hX] at hleq
      rw [← hX, ← hY] at hcmp
      rw [← hX, ← hY]
      clear hends6 hb6 hX hY HW5 HW6 q0 q1 q2
      rcases hcmp with hlt | ⟨heq, hle⟩
      · have h1 : (N : Int) ≤ X := hleq
        have h2 : Y < X := hlt
        go_wp2_with (go_at_call 23; refine (peeled_any HE6.out).mono ?_; rintro e w8 ⟨rfl, hb8⟩; have HB8 := Lib.hid (bb HB6.out hb8); clear hb8)
        go_ret
        exact ⟨rfl, HB8.out⟩
      · subst heq
        have h2 : ¬ Y < Y := by omega
        have h3 : (bi : Int) ≤ (ki : Int) := by omega
        go_wp2_with (go_at_call 23; refine (peeled_any HE6.out).mono ?_; rintro e w8 ⟨rfl, hb8⟩; have HB8 := Lib.hid (bb HB6.out hb8); clear hb8)
        go_ret
        exact ⟨rfl, HB8.out⟩
  · rw [decide_eq_false ok]
    go_wp2_with fail
    refine (peeled_any HE1.out).mono ?_
    rintro e w2 ⟨rfl, hb2⟩
    have HB2 := Lib.hid (bb HB1.out hb2)
    clear hb2
    go_wp2_with fail
    go_ret
    exact ⟨rfl, HB2.out⟩
end Go.Proofs.YtigofgdmefobaaaDoor.Peel
