-- Printed by a program of this session (the kit's print over contracts of ours for functions that it does not take).
import Derived.Test.YtigofgdmefobaaaDoorPPx0
namespace Go.Proofs.YtigofgdmefobaaaDoor.PP
open Go.RowKit Go.Proofs.YtigofgdmefobaaaDoorW.PrintWords Go.Proofs.YtigofgdmefobaaaDoorW.PrintLast Go.Proofs.YtigofgdmefobaaaDoorW.PrintMore
attribute [local go_sem] max2_int min2_int max_two min_two max_three min_three max_four min_four   -- for this text's walks alone
set_option linter.unusedVariables false
set_option linter.unusedSimpArgs false

/-! ### luciferlaw01_whole: function 44 -/
mutual
def luciferlaw01_whole.l0 : Nat → List Bool → List Int → Int → Int → List Int → Int → List (S61) → Option (Int)
  | 0, _, _, _, _, _, _, _ => none
  | k + 1, x1, x2, x7, x8, x102000, x102001, x102002 => if x8 < (x2.length : Int) then (if 0 ≤ x8 then (luciferlaw01_whole.l1 k x1 x2 x7 x8 true (rd x2 x8) x102000 x102001 x102002) else (none)) else (some x7)
def luciferlaw01_whole.l1 : Nat → List Bool → List Int → Int → Int → Bool → Int → List Int → Int → List (S61) → Option (Int)
  | 0, _, _, _, _, _, _, _, _, _ => none
  | k + 1, x1, x2, x7, x8, x9, x10, x102000, x102001, x102002 => if 0 ≤ x8 then (if x8 < (x2.length : Int) then (if x10 < (wrap64 ((rd x2 x8) + x102001)) then (if x9 = true then (if 0 ≤ x10 then (if x10 < (x1.length : Int) then (luciferlaw01_whole.l1 k x1 x2 x7 x8 (!(rdOf false x1 x10)) (wrap64 (x10 + 1)) x102000 x102001 x102002) else (none)) else (none)) else (luciferlaw01_whole.l1 k x1 x2 x7 x8 false (wrap64 (x10 + 1)) x102000 x102001 x102002)) else (if x9 = true then (luciferlaw01_whole.l0 k x1 x2 (wrap64 (x7 + 1)) (wrap64 (x8 + 1)) x102000 x102001 x102002) else (luciferlaw01_whole.l0 k x1 x2 x7 (wrap64 (x8 + 1)) x102000 x102001 x102002))) else (none)) else (none)
end
def luciferlaw01_whole.f (k : Nat) (l0_0 : List Int) (a0_1 : Int) (l0_2 : List (S61)) (l1 : List Bool) (l2 : List Int) : Option (Int) := luciferlaw01_whole.l0 k l1 l2 0 0 l0_0 a0_1 l0_2
theorem luciferlaw01_whole.mono_l : ∀ k, (∀ y0 y1 y2 y3 y4 y5 y6, LeO (luciferlaw01_whole.l0 k y0 y1 y2 y3 y4 y5 y6) (luciferlaw01_whole.l0 (k + 1) y0 y1 y2 y3 y4 y5 y6)) ∧ (∀ y0 y1 y2 y3 y4 y5 y6 y7 y8, LeO (luciferlaw01_whole.l1 k y0 y1 y2 y3 y4 y5 y6 y7 y8) (luciferlaw01_whole.l1 (k + 1) y0 y1 y2 y3 y4 y5 y6 y7 y8))
  | 0 => ⟨fun _ _ _ _ _ _ _ r h => by simp [luciferlaw01_whole.l0] at h, fun _ _ _ _ _ _ _ _ _ r h => by simp [luciferlaw01_whole.l1] at h⟩
  | k + 1 => by
    obtain ⟨ih0, ih1⟩ := luciferlaw01_whole.mono_l k
    refine ⟨?_, ?_⟩
    · intro y0 y1 y2 y3 y4 y5 y6
      unfold luciferlaw01_whole.l0
      repeat' first
      | (with_reducible exact ih0 _ _ _ _ _ _ _)
      | (with_reducible exact ih1 _ _ _ _ _ _ _ _ _)
      | (with_reducible exact LeO.refl _)
      | (with_reducible exact LeO.none _)
      | (with_reducible refine LeO.ite ?_ ?_)
      | (with_reducible refine LeO.bind ?_ (fun _ => ?_))
      | exact ih0 _ _ _ _ _ _ _
      | exact ih1 _ _ _ _ _ _ _ _ _
      | exact LeO.none _
      | refine LeO.ite ?_ ?_
      | refine LeO.bind ?_ (fun _ => ?_)
    · intro y0 y1 y2 y3 y4 y5 y6 y7 y8
      unfold luciferlaw01_whole.l1
      repeat' first
      | (with_reducible exact ih0 _ _ _ _ _ _ _)
      | (with_reducible exact ih1 _ _ _ _ _ _ _ _ _)
      | (with_reducible exact LeO.refl _)
      | (with_reducible exact LeO.none _)
      | (with_reducible refine LeO.ite ?_ ?_)
      | (with_reducible refine LeO.bind ?_ (fun _ => ?_))
      | exact ih0 _ _ _ _ _ _ _
      | exact ih1 _ _ _ _ _ _ _ _ _
      | exact LeO.none _
      | refine LeO.ite ?_ ?_
      | refine LeO.bind ?_ (fun _ => ?_)
theorem luciferlaw01_whole.mono : ∀ a0 a1 a2 a3 a4 k, LeO (luciferlaw01_whole.f k a0 a1 a2 a3 a4) (luciferlaw01_whole.f (k + 1) a0 a1 a2 a3 a4) := by
  intro a0 a1 a2 a3 a4 k
  obtain ⟨ih0, ih1⟩ := luciferlaw01_whole.mono_l k
  unfold luciferlaw01_whole.f
  repeat' first
      | (with_reducible exact ih0 _ _ _ _ _ _ _)
      | (with_reducible exact ih1 _ _ _ _ _ _ _ _ _)
      | (with_reducible exact LeO.refl _)
      | (with_reducible exact LeO.none _)
      | (with_reducible refine LeO.ite ?_ ?_)
      | (with_reducible refine LeO.bind ?_ (fun _ => ?_))
      | exact ih0 _ _ _ _ _ _ _
      | exact ih1 _ _ _ _ _ _ _ _ _
      | exact LeO.none _
      | refine LeO.ite ?_ ?_
      | refine LeO.bind ?_ (fun _ => ?_)
set_option maxHeartbeats 8000000 in
set_option maxRecDepth 100000 in
theorem luciferlaw01_whole.calls (k : Nat) (A0_0 : Option Addr) (c0_0 : Nat) (l0_0 : List Int) (a0_1 : Int) (A0_2 : Option Addr) (c0_2 : Nat) (l0_2 : List (S61)) (A1 : Option Addr) (c1 : Nat) (l1 : List Bool) (A2 : Option Addr) (c2 : Nat) (l2 : List Int) (r : Int) (w : World) (hr0_0 : Kd.C (Kd.int .i64) w A0_0 l0_0.length l0_0) (hc0_0 : l0_0.length ≤ c0_0) (hr0_2 : Kd.C k61 w A0_2 l0_2.length l0_2) (hc0_2 : l0_2.length ≤ c0_2) (hr1 : Kd.C Kd.bool w A1 l1.length l1) (hc1 : l1.length ≤ c1) (hr2 : Kd.C (Kd.int .i64) w A2 l2.length l2) (hc2 : l2.length ≤ c2) (h : luciferlaw01_whole.f k l0_0 a0_1 l0_2 l1 l2 = some r) :
    Calls Tryd.prog 44 #[.agg #[.slice A0_0 l0_0.length c0_0, .int .i64 a0_1, .slice A0_2 l0_2.length c0_2], .slice A1 l1.length c1, .slice A2 l2.length c2] w fun e w' => e = .returned (.int .i64 r) ∧ Below w.heap.size w w' := by
  have hu25 := Tryd.underlying25
  have HR0_0 := Aside0.mk hr0_0
  have HC0_0 := Aside0.mk hc0_0
  clear hr0_0 hc0_0
  have HR0_2 := Aside0.mk hr0_2
  have HC0_2 := Aside0.mk hc0_2
  clear hr0_2 hc0_2
  have HR1 := Aside0.mk hr1
  have HC1 := Aside0.mk hc1
  clear hr1 hc1
  have HR2 := Aside0.mk hr2
  have HC2 := Aside0.mk hc2
  clear hr2 hc2
  have HB := Aside0.mk (Below.refl w.heap.size w)
  have H : (luciferlaw01_whole.l0 k l1 l2 0 0 l0_0 a0_1 l0_2) = some r := h
  clear h
  have H' := Aside0.mk H
  clear H
  go_enter Tryd.func44, Tryd.ntmps44
  go_wp2_with (first | ((with_reducible refine gate_dst (N := 3) rfl ?_); refine box_event ?hg (N := 3) ?hd (cs := #[.slice A0_0 l0_0.length c0_0, .int .i64 a0_1, .slice A0_2 l0_2.length c0_2]) (t := 25) ?hr ?_; (case hd => rfl); (case hg => rfl); (case hr => first | (go_simp; done) | (go_simp; rfl)); intro gb101 hg w4 hbox hb; have n0_ := Aside0.mk (below_step (B_) hb); have n1_ := Aside0.mk (hbox); have n2_ := Aside0.mk ((by rw [hg]; exact (below_size (B_)) : w.heap.size ≤ gb101)); have n3_ := Aside0.mk ((by rw [hg]; exact (below_size (B_)) : w.heap.size ≤ gb101)); clear HB; have HB := n0_; have BK101 := n1_; have GW101 := n2_; have GE101 := n3_; clear n0_ n1_ n2_ n3_; clear hb hbox hg))
  repeat (go_quiet (first | ((with_reducible refine gate_dst (N := 3) rfl ?_); refine box_event ?hg (N := 3) ?hd (cs := #[.slice A0_0 l0_0.length c0_0, .int .i64 a0_1, .slice A0_2 l0_2.length c0_2]) (t := 25) ?hr ?_; (case hd => rfl); (case hg => rfl); (case hr => first | (go_simp; done) | (go_simp; rfl)); intro gb101 hg w4 hbox hb; have n0_ := Aside0.mk (below_step (B_) hb); have n1_ := Aside0.mk (hbox); have n2_ := Aside0.mk ((by rw [hg]; exact (below_size (B_)) : w.heap.size ≤ gb101)); have n3_ := Aside0.mk ((by rw [hg]; exact (below_size (B_)) : w.heap.size ≤ gb101)); clear HB; have HB := n0_; have BK101 := n1_; have GW101 := n2_; have GE101 := n3_; clear n0_ n1_ n2_ n3_; clear hb hbox hg)); try go_wp2_with (first | ((with_reducible refine gate_dst (N := 3) rfl ?_); refine box_event ?hg (N := 3) ?hd (cs := #[.slice A0_0 l0_0.length c0_0, .int .i64 a0_1, .slice A0_2 l0_2.length c0_2]) (t := 25) ?hr ?_; (case hd => rfl); (case hg => rfl); (case hr => first | (go_simp; done) | (go_simp; rfl)); intro gb101 hg w4 hbox hb; have n0_ := Aside0.mk (below_step (B_) hb); have n1_ := Aside0.mk (hbox); have n2_ := Aside0.mk ((by rw [hg]; exact (below_size (B_)) : w.heap.size ≤ gb101)); have n3_ := Aside0.mk ((by rw [hg]; exact (below_size (B_)) : w.heap.size ≤ gb101)); clear HB; have HB := n0_; have BK101 := n1_; have GW101 := n2_; have GE101 := n3_; clear n0_ n1_ n2_ n3_; clear hb hbox hg)))
  go_loopg [7, 8] k (fun kq v7 v8 w' => ∃ (x7_1 : Int) (x8_1 : Int), v7 = .int .i64 x7_1 ∧ v8 = .int .i64 x8_1 ∧ Aside0 (luciferlaw01_whole.l0 kq l1 l2 x7_1 x8_1 l0_0 a0_1 l0_2 = some r) ∧ Aside0 (kq ≤ k) ∧ Aside0 (w'.heap[gb101]? = some (.cells #[(.slice A0_0 l0_0.length c0_0), .int .i64 a0_1, (.slice A0_2 l0_2.length c0_2)] 25 (0, 0))) ∧ Aside0 (Below w.heap.size w w'))
  case atStart => exact ⟨(0), (0), S_, S_, H', ⟨Nat.le_refl _⟩, ⟨K_ BK101⟩, ⟨B_⟩⟩
  case round =>
    clear H'
    try clear c1; try clear c2; try clear p2; try clear c4
    obtain ⟨x7_1, x8_1, rfl, rfl, HA, HK1, BK101, HB⟩ := hrel
    cases gk with
    | zero => exact absurd HA.out (by simp [luciferlaw01_whole.l0])
    | succ k1 =>
      have H := HA.out
      clear HA
      simp only [luciferlaw01_whole.l0] at H
      by_cases c5 : x8_1 < (l2.length : Int)
      · rw [if_pos c5] at H
        have c5b0 : decide (x8_1 < (l2.length : Int)) = true := decide_eq_true c5
        clear c5
        by_cases c6 : 0 ≤ x8_1
        · rw [if_pos c6] at H
          have c6b0 : decide (0 ≤ x8_1) = true := decide_eq_true c6
          clear c6
          have H' := Aside0.mk H
          clear H
          have p102 : 0 ≤ (x8_1 : Int) := of_decide_eq_true D_
          have q102 : x8_1 < (l2.length : Int) := of_decide_eq_true D_
          obtain ⟨ad102, e102, hx102_0⟩ := Kd.at_int HR2.out x8_1 p102 q102
          cases e102
          replace hx102_0 := (HB.out.cell (World.block_lt_of_cell? w _ hx102_0)).trans hx102_0
          replace p102 := eq_true p102
          replace q102 := eq_true q102
          go_wp2
          repeat (go_quiet (fail); try go_wp2)
          go_loopg [9, 10] k1 (fun kq v9 v10 w' => ∃ (x9_2 : Bool) (x10_2 : Int), v9 = .bool x9_2 ∧ v10 = .int .i64 x10_2 ∧ Aside0 (luciferlaw01_whole.l1 kq l1 l2 x7_1 x8_1 x9_2 x10_2 l0_0 a0_1 l0_2 = some r) ∧ Aside0 (kq ≤ k1) ∧ Aside0 (w'.heap[gb101]? = some (.cells #[(.slice A0_0 l0_0.length c0_0), .int .i64 a0_1, (.slice A0_2 l0_2.length c0_2)] 25 (0, 0))) ∧ Aside0 (Below w.heap.size w w'))
          case atStart => exact ⟨(true), (rd l2 x8_1), S_, S_, H', ⟨Nat.le_refl _⟩, ⟨K_ BK101⟩, ⟨B_⟩⟩
          case round =>
            clear H'
            try clear c1; try clear p1; try clear q1; try clear hx1; try clear c2; try clear p2; try clear c4; try clear c5; try clear c5b0; try clear c6; try clear c6b0; try clear hx102_0; try clear p102; try clear p2; try clear q102
            obtain ⟨x9_2, x10_2, rfl, rfl, HA, HK2, BK101, HB⟩ := hrel
            cases gk with
            | zero => exact absurd HA.out (by simp [luciferlaw01_whole.l1])
            | succ k2 =>
              have H := HA.out
              clear HA
              simp only [luciferlaw01_whole.l1] at H
              by_cases c7 : 0 ≤ x8_1
              · rw [if_pos c7] at H
                have c7b0 : decide (0 ≤ x8_1) = true := decide_eq_true c7
                clear c7
                by_cases c8 : x8_1 < (l2.length : Int)
                · rw [if_pos c8] at H
                  have c8b0 : decide (x8_1 < (l2.length : Int)) = true := decide_eq_true c8
                  clear c8
                  by_cases c9 : x10_2 < (wrap64 ((rd l2 x8_1) + a0_1))
                  · rw [if_pos c9] at H
                    have c9b0 : decide (x10_2 < (wrap64 ((rd l2 x8_1) + a0_1))) = true := decide_eq_true c9
                    clear c9
                    by_cases c10 : x9_2 = true
                    · subst c10
                      have H1 : (if 0 ≤ x10_2 then (if x10_2 < (l1.length : Int) then (luciferlaw01_whole.l1 k2 l1 l2 x7_1 x8_1 (!(rdOf false l1 x10_2)) (wrap64 (x10_2 + 1)) l0_0 a0_1 l0_2) else (none)) else (none)) = some r := by rw [if_pos rfl] at H; exact H
                      clear H
                      have H := H1
                      clear H1
                      by_cases c11 : 0 ≤ x10_2
                      · rw [if_pos c11] at H
                        have c11b0 : decide (0 ≤ x10_2) = true := decide_eq_true c11
                        clear c11
                        by_cases c12 : x10_2 < (l1.length : Int)
                        · rw [if_pos c12] at H
                          have c12b0 : decide (x10_2 < (l1.length : Int)) = true := decide_eq_true c12
                          clear c12
                          have H' := Aside0.mk H
                          clear H
                          have p103 : 0 ≤ (x8_1 : Int) := of_decide_eq_true D_
                          have q103 : x8_1 < (l2.length : Int) := of_decide_eq_true D_
                          obtain ⟨ad103, e103, hx103_0⟩ := Kd.at_int HR2.out x8_1 p103 q103
                          obtain rfl : ad102 = ad103 := (by injection e103)
                          replace hx103_0 := (HB.out.cell (World.block_lt_of_cell? w _ hx103_0)).trans hx103_0
                          replace p103 := eq_true p103
                          replace q103 := eq_true q103
                          obtain ⟨hcz13_0, hcz13_1, hcz13_2, hfz13_0, hfz13_1, hfz13_2⟩ := cz3 BK101
                          have p104 : 0 ≤ (x10_2 : Int) := of_decide_eq_true D_
                          have q104 : x10_2 < (l1.length : Int) := of_decide_eq_true D_
                          obtain ⟨ad104, e104, hx104_0⟩ := Kd.at_bool HR1.out x10_2 p104 q104
                          cases e104
                          replace hx104_0 := (HB.out.cell (World.block_lt_of_cell? w _ hx104_0)).trans hx104_0
                          replace p104 := eq_true p104
                          replace q104 := eq_true q104
                          go_wp2
                          repeat (go_quiet (fail); try go_wp2)
                          go_roundg k2
                          case measure => have := HK1.out; have := HK2.out; omega
                          case rel => exact ⟨(!(rdOf false l1 x10_2)), (wrap64 (x10_2 + 1)), S_, S_, H', ⟨by have := HK1.out; have := HK2.out; omega⟩, ⟨K_ BK101⟩, ⟨B_⟩⟩
                        · rw [if_neg c12] at H
                          exact absurd H (by simp)
                      · rw [if_neg c11] at H
                        exact absurd H (by simp)
                    · replace c10 := Bool.eq_false_iff.mpr c10
                      subst c10
                      have H1 : (luciferlaw01_whole.l1 k2 l1 l2 x7_1 x8_1 false (wrap64 (x10_2 + 1)) l0_0 a0_1 l0_2) = some r := by rw [if_neg (show ¬ (false = true) by decide)] at H; exact H
                      clear H
                      have H := H1
                      clear H1
                      have H' := Aside0.mk H
                      clear H
                      have p103 : 0 ≤ (x8_1 : Int) := of_decide_eq_true D_
                      have q103 : x8_1 < (l2.length : Int) := of_decide_eq_true D_
                      obtain ⟨ad103, e103, hx103_0⟩ := Kd.at_int HR2.out x8_1 p103 q103
                      obtain rfl : ad102 = ad103 := (by injection e103)
                      replace hx103_0 := (HB.out.cell (World.block_lt_of_cell? w _ hx103_0)).trans hx103_0
                      replace p103 := eq_true p103
                      replace q103 := eq_true q103
                      obtain ⟨hcz14_0, hcz14_1, hcz14_2, hfz14_0, hfz14_1, hfz14_2⟩ := cz3 BK101
                      go_wp2
                      repeat (go_quiet (fail); try go_wp2)
                      go_roundg k2
                      case measure => have := HK1.out; have := HK2.out; omega
                      case rel => exact ⟨(false), (wrap64 (x10_2 + 1)), S_, S_, H', ⟨by have := HK1.out; have := HK2.out; omega⟩, ⟨K_ BK101⟩, ⟨B_⟩⟩
                  · rw [if_neg c9] at H
                    have c9b0 : decide (x10_2 < (wrap64 ((rd l2 x8_1) + a0_1))) = false := decide_eq_false c9
                    clear c9
                    by_cases c15 : x9_2 = true
                    · subst c15
                      have H1 : (luciferlaw01_whole.l0 k2 l1 l2 (wrap64 (x7_1 + 1)) (wrap64 (x8_1 + 1)) l0_0 a0_1 l0_2) = some r := by rw [if_pos rfl] at H; exact H
                      clear H
                      have H := H1
                      clear H1
                      have H' := Aside0.mk H
                      clear H
                      have p103 : 0 ≤ (x8_1 : Int) := of_decide_eq_true D_
                      have q103 : x8_1 < (l2.length : Int) := of_decide_eq_true D_
                      obtain ⟨ad103, e103, hx103_0⟩ := Kd.at_int HR2.out x8_1 p103 q103
                      obtain rfl : ad102 = ad103 := (by injection e103)
                      replace hx103_0 := (HB.out.cell (World.block_lt_of_cell? w _ hx103_0)).trans hx103_0
                      replace p103 := eq_true p103
                      replace q103 := eq_true q103
                      obtain ⟨hcz16_0, hcz16_1, hcz16_2, hfz16_0, hfz16_1, hfz16_2⟩ := cz3 BK101
                      go_wp2
                      repeat (go_quiet (fail); try go_wp2)
                      go_roundg k2
                      case measure => have := HK1.out; have := HK2.out; omega
                      case rel => exact ⟨(wrap64 (x7_1 + 1)), (wrap64 (x8_1 + 1)), S_, S_, H', ⟨by have := HK1.out; have := HK2.out; omega⟩, ⟨K_ BK101⟩, ⟨B_⟩⟩
                    · replace c15 := Bool.eq_false_iff.mpr c15
                      subst c15
                      have H1 : (luciferlaw01_whole.l0 k2 l1 l2 x7_1 (wrap64 (x8_1 + 1)) l0_0 a0_1 l0_2) = some r := by rw [if_neg (show ¬ (false = true) by decide)] at H; exact H
                      clear H
                      have H := H1
                      clear H1
                      have H' := Aside0.mk H
                      clear H
                      have p103 : 0 ≤ (x8_1 : Int) := of_decide_eq_true D_
                      have q103 : x8_1 < (l2.length : Int) := of_decide_eq_true D_
                      obtain ⟨ad103, e103, hx103_0⟩ := Kd.at_int HR2.out x8_1 p103 q103
                      obtain rfl : ad102 = ad103 := (by injection e103)
                      replace hx103_0 := (HB.out.cell (World.block_lt_of_cell? w _ hx103_0)).trans hx103_0
                      replace p103 := eq_true p103
                      replace q103 := eq_true q103
                      obtain ⟨hcz17_0, hcz17_1, hcz17_2, hfz17_0, hfz17_1, hfz17_2⟩ := cz3 BK101
                      go_wp2
                      repeat (go_quiet (fail); try go_wp2)
                      go_roundg k2
                      case measure => have := HK1.out; have := HK2.out; omega
                      case rel => exact ⟨(x7_1), (wrap64 (x8_1 + 1)), S_, S_, H', ⟨by have := HK1.out; have := HK2.out; omega⟩, ⟨K_ BK101⟩, ⟨B_⟩⟩
                · rw [if_neg c8] at H
                  exact absurd H (by simp)
              · rw [if_neg c7] at H
                exact absurd H (by simp)
        · rw [if_neg c6] at H
          exact absurd H (by simp)
      · rw [if_neg c5] at H
        have c5b0 : decide (x8_1 < (l2.length : Int)) = false := decide_eq_false c5
        clear c5
        obtain rfl := Option.some.inj H
        go_wp2
        repeat (go_quiet (fail); try go_wp2)
        go_ret
        exact ⟨by first | rfl | (simp [errW_none, errW_some] <;> rfl) | (simp [*, errW_none, errW_some] <;> rfl), B_⟩

end Go.Proofs.YtigofgdmefobaaaDoor.PP
