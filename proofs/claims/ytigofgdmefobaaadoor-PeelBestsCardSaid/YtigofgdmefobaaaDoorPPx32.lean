-- Printed by a program of this session (the kit's print over contracts of ours for functions that it does not take).
import Derived.Test.YtigofgdmefobaaaDoorPPx0
import Derived.Test.YtigofgdmefobaaaDoorPPx4
import Derived.Test.YtigofgdmefobaaaDoorPPx5
import Derived.Test.YtigofgdmefobaaaDoorPPx9
import Derived.Test.YtigofgdmefobaaaDoorPPx20
import Derived.Test.YtigofgdmefobaaaDoorPPx25
import Derived.Test.YtigofgdmefobaaaDoorPPx31
namespace Go.Proofs.YtigofgdmefobaaaDoor.PP
open Go.RowKit Go.Proofs.YtigofgdmefobaaaDoorW.PrintWords Go.Proofs.YtigofgdmefobaaaDoorW.PrintLast Go.Proofs.YtigofgdmefobaaaDoorW.PrintMore
attribute [local go_sem] max2_int min2_int max_two min_two max_three min_three max_four min_four   -- for this text's walks alone
set_option linter.unusedVariables false
set_option linter.unusedSimpArgs false

/-! ### luciferref01_Ask: function 38 -/
mutual
def luciferref01_Ask.l0 : Nat → Int → Int → Int → List Int → Int → List (S61) → Option (Int × Int)
  | 0, _, _, _, _, _, _ => none
  | k + 1, x5, x6, x7, x299000, x299001, x299002 => if x7 < (x299002.length : Int) then (if 0 ≤ x7 then ((luciferref01_places.f k ((rd_T61 x299002 x7).f0.f0) ((rd_T61 x299002 x7).f0.f1) ((rd_T61 x299002 x7).f1.f0) ((rd_T61 x299002 x7).f1.f1)).bind fun t301 => ((luciferref00_Total.f k x299000).bind fun t304 => (luciferref01_Ask.l1 k x5 x6 x7 t301 t304 0 x299000 x299001 x299002))) else (none)) else (some (x5, 0))
def luciferref01_Ask.l1 : Nat → Int → Int → Int → List (S108) → Int → Int → List Int → Int → List (S61) → Option (Int × Int)
  | 0, _, _, _, _, _, _, _, _, _ => none
  | k + 1, x5, x6, x7, x8, x9, x10, x299000, x299001, x299002 => if x10 < (x8.length : Int) then (if 0 ≤ x10 then ((luciferref01_Found.f x299000 x299001 x299002 x7 ((rd_T108 x8 x10).f0) ((rd_T108 x8 x10).f1)).bind fun bt307 => ((luciferref01_some.f k bt307.1 bt307.2.1 bt307.2.2).bind fun t315 => ((luciferref01_best.f k bt307.1 bt307.2.1 bt307.2.2 t315).bind fun t318 => (luciferref01_Ask.l1 k x5 x6 x7 x8 (mn x9 (t318.length : Int)) (wrap64 (x10 + 1)) x299000 x299001 x299002)))) else (none)) else (if x9 > x6 then (luciferref01_Ask.l0 k x7 x9 (wrap64 (x7 + 1)) x299000 x299001 x299002) else (luciferref01_Ask.l0 k x5 x6 (wrap64 (x7 + 1)) x299000 x299001 x299002))
end
def luciferref01_Ask.f (k : Nat) (l0_0 : List Int) (a0_1 : Int) (l0_2 : List (S61)) : Option (Int × Int) := (luciferref01_Check.f k l0_0 a0_1 l0_2).bind fun t299 => (if t299 = 0 then (if (l0_2.length : Int) = 0 then (some (0, 4)) else (luciferref01_Ask.l0 k (-1) (-1) 0 l0_0 a0_1 l0_2)) else (some (0, t299)))
theorem luciferref01_Ask.mono_l : ∀ k, (∀ y0 y1 y2 y3 y4 y5, LeO (luciferref01_Ask.l0 k y0 y1 y2 y3 y4 y5) (luciferref01_Ask.l0 (k + 1) y0 y1 y2 y3 y4 y5)) ∧ (∀ y0 y1 y2 y3 y4 y5 y6 y7 y8, LeO (luciferref01_Ask.l1 k y0 y1 y2 y3 y4 y5 y6 y7 y8) (luciferref01_Ask.l1 (k + 1) y0 y1 y2 y3 y4 y5 y6 y7 y8))
  | 0 => ⟨fun _ _ _ _ _ _ r h => by simp [luciferref01_Ask.l0] at h, fun _ _ _ _ _ _ _ _ _ r h => by simp [luciferref01_Ask.l1] at h⟩
  | k + 1 => by
    obtain ⟨ih0, ih1⟩ := luciferref01_Ask.mono_l k
    refine ⟨?_, ?_⟩
    · intro y0 y1 y2 y3 y4 y5
      unfold luciferref01_Ask.l0
      repeat' first
      | (with_reducible exact ih0 _ _ _ _ _ _)
      | (with_reducible exact ih1 _ _ _ _ _ _ _ _ _)
      | (with_reducible exact luciferref00_Total.mono _ _)
      | (with_reducible exact luciferref01_Check.mono _ _ _ _)
      | (with_reducible exact luciferref01_best.mono _ _ _ _ _)
      | (with_reducible exact luciferref01_places.mono _ _ _ _ _)
      | (with_reducible exact luciferref01_some.mono _ _ _ _)
      | (with_reducible exact LeO.refl _)
      | (with_reducible exact LeO.none _)
      | (with_reducible refine LeO.ite ?_ ?_)
      | (with_reducible refine LeO.bind ?_ (fun _ => ?_))
      | exact ih0 _ _ _ _ _ _
      | exact ih1 _ _ _ _ _ _ _ _ _
      | exact luciferref00_Total.mono _ _
      | exact luciferref01_Check.mono _ _ _ _
      | exact luciferref01_best.mono _ _ _ _ _
      | exact luciferref01_places.mono _ _ _ _ _
      | exact luciferref01_some.mono _ _ _ _
      | exact LeO.none _
      | refine LeO.ite ?_ ?_
      | refine LeO.bind ?_ (fun _ => ?_)
    · intro y0 y1 y2 y3 y4 y5 y6 y7 y8
      unfold luciferref01_Ask.l1
      repeat' first
      | (with_reducible exact ih0 _ _ _ _ _ _)
      | (with_reducible exact ih1 _ _ _ _ _ _ _ _ _)
      | (with_reducible exact luciferref00_Total.mono _ _)
      | (with_reducible exact luciferref01_Check.mono _ _ _ _)
      | (with_reducible exact luciferref01_best.mono _ _ _ _ _)
      | (with_reducible exact luciferref01_places.mono _ _ _ _ _)
      | (with_reducible exact luciferref01_some.mono _ _ _ _)
      | (with_reducible exact LeO.refl _)
      | (with_reducible exact LeO.none _)
      | (with_reducible refine LeO.ite ?_ ?_)
      | (with_reducible refine LeO.bind ?_ (fun _ => ?_))
      | exact ih0 _ _ _ _ _ _
      | exact ih1 _ _ _ _ _ _ _ _ _
      | exact luciferref00_Total.mono _ _
      | exact luciferref01_Check.mono _ _ _ _
      | exact luciferref01_best.mono _ _ _ _ _
      | exact luciferref01_places.mono _ _ _ _ _
      | exact luciferref01_some.mono _ _ _ _
      | exact LeO.none _
      | refine LeO.ite ?_ ?_
      | refine LeO.bind ?_ (fun _ => ?_)
theorem luciferref01_Ask.mono : ∀ a0 a1 a2 k, LeO (luciferref01_Ask.f k a0 a1 a2) (luciferref01_Ask.f (k + 1) a0 a1 a2) := by
  intro a0 a1 a2 k
  obtain ⟨ih0, ih1⟩ := luciferref01_Ask.mono_l k
  unfold luciferref01_Ask.f
  repeat' first
      | (with_reducible exact ih0 _ _ _ _ _ _)
      | (with_reducible exact ih1 _ _ _ _ _ _ _ _ _)
      | (with_reducible exact luciferref00_Total.mono _ _)
      | (with_reducible exact luciferref01_Check.mono _ _ _ _)
      | (with_reducible exact luciferref01_best.mono _ _ _ _ _)
      | (with_reducible exact luciferref01_places.mono _ _ _ _ _)
      | (with_reducible exact luciferref01_some.mono _ _ _ _)
      | (with_reducible exact LeO.refl _)
      | (with_reducible exact LeO.none _)
      | (with_reducible refine LeO.ite ?_ ?_)
      | (with_reducible refine LeO.bind ?_ (fun _ => ?_))
      | exact ih0 _ _ _ _ _ _
      | exact ih1 _ _ _ _ _ _ _ _ _
      | exact luciferref00_Total.mono _ _
      | exact luciferref01_Check.mono _ _ _ _
      | exact luciferref01_best.mono _ _ _ _ _
      | exact luciferref01_places.mono _ _ _ _ _
      | exact luciferref01_some.mono _ _ _ _
      | exact LeO.none _
      | refine LeO.ite ?_ ?_
      | refine LeO.bind ?_ (fun _ => ?_)
def luciferref01_Ask.T15 : Bool × List (List Nat × List Nat) := (true, [([], []), ([], []), ([], []), ([], []), ([2, 3], [2, 3]), ([4], [4]), ([5], [5]), ([], []), ([], []), ([7, 8], [7, 8]), ([9], [9]), ([10], [10]), ([0, 1, 6, 11], [0, 1, 6, 11]), ([], []), ([13, 12, 12, 0, 1, 2, 3, 4, 5, 6, 7, 8, 9, 10, 11, 12, 13], [12, 13])])
def luciferref01_Ask.B15 : List Nat := [0, 0, 0, 0, 12, 28, 60, 0, 0, 384, 896, 1920, 4095, 0, 16383]
theorem luciferref01_Ask.tab15 : rtab .any (opsOf Tryd.f38 15) = luciferref01_Ask.T15 := by kernel_rfl
theorem luciferref01_Ask.bits15 : waitsOk luciferref01_Ask.T15.2 luciferref01_Ask.B15 = true := by kernel_rfl
def luciferref01_Ask.T16 : Bool × List (List Nat × List Nat) := (true, [([], []), ([], []), ([], []), ([2], [2]), ([1, 3, 3], [1, 3]), ([4], [4]), ([0, 5], [0, 5]), ([6, 4, 0, 1, 2, 3, 4, 5, 6], [0, 6])])
def luciferref01_Ask.B16 : List Nat := [0, 0, 0, 4, 14, 30, 63, 127]
theorem luciferref01_Ask.tab16 : rtab .any (opsOf Tryd.f38 16) = luciferref01_Ask.T16 := by kernel_rfl
theorem luciferref01_Ask.bits16 : waitsOk luciferref01_Ask.T16.2 luciferref01_Ask.B16 = true := by kernel_rfl
set_option maxHeartbeats 8000000 in
set_option maxRecDepth 100000 in
theorem luciferref01_Ask.calls (k : Nat) (A0_0 : Option Addr) (c0_0 : Nat) (l0_0 : List Int) (a0_1 : Int) (A0_2 : Option Addr) (c0_2 : Nat) (l0_2 : List (S61)) (r1 : Int) (r2 : Int) (w : World) (hr0_0 : Kd.C (Kd.int .i64) w A0_0 l0_0.length l0_0) (hc0_0 : l0_0.length ≤ c0_0) (hr0_2 : Kd.C k61 w A0_2 l0_2.length l0_2) (hc0_2 : l0_2.length ≤ c0_2) (h : luciferref01_Ask.f k l0_0 a0_1 l0_2 = some (r1, r2)) :
    Calls Tryd.prog 38 #[.agg #[.slice A0_0 l0_0.length c0_0, .int .i64 a0_1, .slice A0_2 l0_2.length c0_2]] w fun e w' => e = .returned (.tuple #[.int .i64 r1, .int .i64 r2]) ∧ Below w.heap.size w w' := by
  have hu25 := Tryd.underlying25
  have hu61 := Tryd.underlying61
  have HR0_0 := Aside0.mk hr0_0
  have HC0_0 := Aside0.mk hc0_0
  clear hr0_0 hc0_0
  have HR0_2 := Aside0.mk hr0_2
  have HC0_2 := Aside0.mk hc0_2
  clear hr0_2 hc0_2
  have HB := Aside0.mk (Below.refl w.heap.size w)
  have H : ((luciferref01_Check.f k l0_0 a0_1 l0_2).bind fun t299 => (if t299 = 0 then (if (l0_2.length : Int) = 0 then (some (0, 4)) else (luciferref01_Ask.l0 k (-1) (-1) 0 l0_0 a0_1 l0_2)) else (some (0, t299)))) = some (r1, r2) := h
  clear h
  replace H := Option.bind_eq_some_iff.mp H
  obtain ⟨t299, A20, H⟩ := H
  replace H : (if t299 = 0 then (if (l0_2.length : Int) = 0 then (some (0, 4)) else (luciferref01_Ask.l0 k (-1) (-1) 0 l0_0 a0_1 l0_2)) else (some (0, t299))) = some (r1, r2) := H
  have A2 := Aside0.mk A20
  clear A20
  by_cases c3 : t299 = 0
  · rw [if_pos c3] at H
    have c3b0 : (t299 == 0) = true := beq_iff_eq.mpr c3
    have c3b1 : (t299 != 0) = false := bne_eq_false_iff_eq.mpr c3
    clear c3
    by_cases c4 : (l0_2.length : Int) = 0
    · rw [if_pos c4] at H
      have c4b0 : ((l0_2.length : Int) == 0) = true := beq_iff_eq.mpr c4
      have c4b1 : ((l0_2.length : Int) != 0) = false := bne_eq_false_iff_eq.mpr c4
      clear c4
      simp only [Option.some.injEq, Prod.mk.injEq] at H
      obtain ⟨rfl, rfl⟩ := H
      go_enter Tryd.func38, Tryd.ntmps38
      go_wp2_with (first | ((with_reducible refine gate_dst (N := 1) rfl ?_); refine box_event ?hg (N := 1) ?hd (cs := #[.slice A0_0 l0_0.length c0_0, .int .i64 a0_1, .slice A0_2 l0_2.length c0_2]) (t := 25) ?hr ?_; (case hd => rfl); (case hg => rfl); (case hr => first | (go_simp; done) | (go_simp; rfl)); intro gb298 hg w5 hbox hb; have n0_ := Aside0.mk (below_step (B_) hb); have n1_ := Aside0.mk (hbox); have n2_ := Aside0.mk ((by rw [hg]; exact (below_size (B_)) : w.heap.size ≤ gb298)); have n3_ := Aside0.mk ((by rw [hg]; exact (below_size (B_)) : w.heap.size ≤ gb298)); clear HB; have HB := n0_; have BK298 := n1_; have GW298 := n2_; have GE298 := n3_; clear n0_ n1_ n2_ n3_; clear hb hbox hg; obtain ⟨hcz6_0, hcz6_1, hcz6_2, hfz6_0, hfz6_1, hfz6_2⟩ := cz3 BK298) | ((with_reducible refine gate_callee (f := 18) rfl ?_); refine goesL_ (some 13) rfl rfl Tryd.func18 (by kernel_rfl) rfl #[.agg #[.slice A0_0 l0_0.length c0_0, .int .i64 a0_1, .slice A0_2 l0_2.length c0_2]] rfl (by (try simp only [List.map_toArray, List.map_cons, List.map_nil]); first | done | rfl | (simp only [List.length_drop, List.length_take]; rfl)) ?_; (with_reducible refine (luciferref01_Check.calls k _ _ l0_0 a0_1 _ _ l0_2 t299 _ ?side1 ?side2 ?side3 ?side4 A2.out).mono ?_); (case side1 => exact C_ HR0_0); (case side2 => exact HC0_0.out); (case side3 => exact C_ HR0_2); (case side4 => exact HC0_2.out); rintro e w7 ⟨rfl, hb⟩; refine ⟨_, rfl, ?_⟩; have n0_ := Aside0.mk (blk_below (g := gb298) (o := .cells #[.slice A0_0 l0_0.length c0_0, .int .i64 a0_1, .slice A0_2 l0_2.length c0_2] 25 (0, 0)) (K_ BK298) hb); have n1_ := Aside0.mk (below_step (B_) hb); clear BK298; clear HB; have BK298 := n0_; have HB := n1_; clear n0_ n1_; (try clear hb); (try clear hb2); (try clear hk); (try clear hi); obtain ⟨hcz8_0, hcz8_1, hcz8_2, hfz8_0, hfz8_1, hfz8_2⟩ := cz3 BK298))
      go_ret2
      exact ⟨by first | rfl | (simp [errW_none, errW_some] <;> rfl) | (simp [*, errW_none, errW_some] <;> rfl), B_⟩
    · rw [if_neg c4] at H
      have c4b0 : ((l0_2.length : Int) == 0) = false := beq_eq_false_iff_ne.mpr c4
      have c4b1 : ((l0_2.length : Int) != 0) = true := bne_iff_ne.mpr c4
      have c4b2 : ¬ (l0_2 = []) := fun h_ => c4 (by rw [h_]; rfl)
      have H' := Aside0.mk H
      clear H
      go_enter Tryd.func38, Tryd.ntmps38
      go_wp2_with (first | ((with_reducible refine gate_dst (N := 1) rfl ?_); refine box_event ?hg (N := 1) ?hd (cs := #[.slice A0_0 l0_0.length c0_0, .int .i64 a0_1, .slice A0_2 l0_2.length c0_2]) (t := 25) ?hr ?_; (case hd => rfl); (case hg => rfl); (case hr => first | (go_simp; done) | (go_simp; rfl)); intro gb298 hg w9 hbox hb; have n0_ := Aside0.mk (below_step (B_) hb); have n1_ := Aside0.mk (hbox); have n2_ := Aside0.mk ((by rw [hg]; exact (below_size (B_)) : w.heap.size ≤ gb298)); have n3_ := Aside0.mk ((by rw [hg]; exact (below_size (B_)) : w.heap.size ≤ gb298)); clear HB; have HB := n0_; have BK298 := n1_; have GW298 := n2_; have GE298 := n3_; clear n0_ n1_ n2_ n3_; clear hb hbox hg; obtain ⟨hcz10_0, hcz10_1, hcz10_2, hfz10_0, hfz10_1, hfz10_2⟩ := cz3 BK298) | ((with_reducible refine gate_callee (f := 18) rfl ?_); refine goesL_ (some 13) rfl rfl Tryd.func18 (by kernel_rfl) rfl #[.agg #[.slice A0_0 l0_0.length c0_0, .int .i64 a0_1, .slice A0_2 l0_2.length c0_2]] rfl (by (try simp only [List.map_toArray, List.map_cons, List.map_nil]); first | done | rfl | (simp only [List.length_drop, List.length_take]; rfl)) ?_; (with_reducible refine (luciferref01_Check.calls k _ _ l0_0 a0_1 _ _ l0_2 t299 _ ?side1 ?side2 ?side3 ?side4 A2.out).mono ?_); (case side1 => exact C_ HR0_0); (case side2 => exact HC0_0.out); (case side3 => exact C_ HR0_2); (case side4 => exact HC0_2.out); rintro e w11 ⟨rfl, hb⟩; refine ⟨_, rfl, ?_⟩; have n0_ := Aside0.mk (blk_below (g := gb298) (o := .cells #[.slice A0_0 l0_0.length c0_0, .int .i64 a0_1, .slice A0_2 l0_2.length c0_2] 25 (0, 0)) (K_ BK298) hb); have n1_ := Aside0.mk (below_step (B_) hb); clear BK298; clear HB; have BK298 := n0_; have HB := n1_; clear n0_ n1_; (try clear hb); (try clear hb2); (try clear hk); (try clear hi); obtain ⟨hcz12_0, hcz12_1, hcz12_2, hfz12_0, hfz12_1, hfz12_2⟩ := cz3 BK298))
      go_loopg [5, 6, 7] k (fun kq v5 v6 v7 w' => ∃ (x5_1 : Int) (x6_1 : Int) (x7_1 : Int), v5 = .int .i64 x5_1 ∧ v6 = .int .i64 x6_1 ∧ v7 = .int .i64 x7_1 ∧ Aside0 (luciferref01_Ask.l0 kq x5_1 x6_1 x7_1 l0_0 a0_1 l0_2 = some (r1, r2)) ∧ Aside0 (kq ≤ k) ∧ Aside0 (w'.heap[gb298]? = some (.cells #[(.slice A0_0 l0_0.length c0_0), .int .i64 a0_1, (.slice A0_2 l0_2.length c0_2)] 25 (0, 0))) ∧ Aside0 (Below w.heap.size w w'))
      case atStart => exact ⟨((-1)), ((-1)), (0), S_, S_, S_, H', ⟨Nat.le_refl _⟩, ⟨K_ BK298⟩, ⟨B_⟩⟩
      case round =>
        clear H'
        try clear c1; try clear p2; try clear c3; try clear c3b0; try clear c3b1; try clear c4; try clear c4b0; try clear c4b1; try clear c4b2; try clear hcz10_0; try clear hcz10_1; try clear hcz10_2; try clear hcz12_0; try clear hcz12_1; try clear hcz12_2; try clear hcz6_0; try clear hcz6_1; try clear hcz6_2; try clear hcz8_0; try clear hcz8_1; try clear hcz8_2; try clear hfz10_0; try clear hfz10_1; try clear hfz10_2; try clear hfz12_0; try clear hfz12_1; try clear hfz12_2; try clear hfz6_0; try clear hfz6_1; try clear hfz6_2; try clear hfz8_0; try clear hfz8_1; try clear hfz8_2
        obtain ⟨x5_1, x6_1, x7_1, rfl, rfl, rfl, HA, HK1, BK298, HB⟩ := hrel
        cases gk with
        | zero => exact absurd HA.out (by simp [luciferref01_Ask.l0])
        | succ k1 =>
          have H := HA.out
          clear HA
          simp only [luciferref01_Ask.l0] at H
          by_cases c13 : x7_1 < (l0_2.length : Int)
          · rw [if_pos c13] at H
            have c13b0 : decide (x7_1 < (l0_2.length : Int)) = true := decide_eq_true c13
            clear c13
            by_cases c14 : 0 ≤ x7_1
            · rw [if_pos c14] at H
              have c14b0 : decide (0 ≤ x7_1) = true := decide_eq_true c14
              clear c14
              replace H := Option.bind_eq_some_iff.mp H
              obtain ⟨t301, A150, H⟩ := H
              replace H : ((luciferref00_Total.f k1 l0_0).bind fun t304 => (luciferref01_Ask.l1 k1 x5_1 x6_1 x7_1 t301 t304 0 l0_0 a0_1 l0_2)) = some (r1, r2) := H
              have A15 := Aside0.mk A150
              clear A150
              replace H := Option.bind_eq_some_iff.mp H
              obtain ⟨t304, A160, H⟩ := H
              replace H : (luciferref01_Ask.l1 k1 x5_1 x6_1 x7_1 t301 t304 0 l0_0 a0_1 l0_2) = some (r1, r2) := H
              have A16 := Aside0.mk A160
              clear A160
              have H' := Aside0.mk H
              clear H
              obtain ⟨hcz17_0, hcz17_1, hcz17_2, hfz17_0, hfz17_1, hfz17_2⟩ := cz3 BK298
              have p300 : 0 ≤ (x7_1 : Int) := of_decide_eq_true D_
              have q300 : x7_1 < (l0_2.length : Int) := of_decide_eq_true D_
              obtain ⟨ad300, e300, hx300_0, hx300_1, hx300_2, hx300_3⟩ := at_T61 HR0_2.out x7_1 p300 q300
              cases e300
              replace hx300_0 := (HB.out.cell (World.block_lt_of_cell? w _ hx300_0)).trans hx300_0
              replace hx300_1 := (HB.out.cell (World.block_lt_of_cell? w _ hx300_1)).trans hx300_1
              replace hx300_2 := (HB.out.cell (World.block_lt_of_cell? w _ hx300_2)).trans hx300_2
              replace hx300_3 := (HB.out.cell (World.block_lt_of_cell? w _ hx300_3)).trans hx300_3
              replace p300 := eq_true p300
              replace q300 := eq_true q300
              go_wp2_with (first | ((with_reducible refine gate_callee (f := 83) rfl ?_); refine goesL_ (some 33) rfl rfl Tryd.func83 (by kernel_rfl) rfl #[.agg #[.int .i64 ((rd_T61 l0_2 x7_1).f0.f0), .int .i64 ((rd_T61 l0_2 x7_1).f0.f1), .int .i64 ((rd_T61 l0_2 x7_1).f1.f0), .int .i64 ((rd_T61 l0_2 x7_1).f1.f1)]] rfl (by (try simp only [List.map_toArray, List.map_cons, List.map_nil]); first | done | rfl | (simp only [List.length_drop, List.length_take]; rfl)) ?_; (with_reducible refine (luciferref01_places.calls k1 ((rd_T61 l0_2 x7_1).f0.f0) ((rd_T61 l0_2 x7_1).f0.f1) ((rd_T61 l0_2 x7_1).f1.f0) ((rd_T61 l0_2 x7_1).f1.f1) t301 _ A15.out).mono ?_); rintro e w18 ⟨v302, rfl, ho0, hb⟩; refine ⟨_, rfl, ?_⟩; have n0_ := Aside0.mk (Kd.R_lower ho0 (below_size (B_))); have n1_ := Aside0.mk (blk_below (g := gb298) (o := .cells #[.slice A0_0 l0_0.length c0_0, .int .i64 a0_1, .slice (some ad300) l0_2.length c0_2] 25 (0, 0)) (K_ BK298) hb); have n2_ := Aside0.mk (below_step (B_) hb); clear BK298; clear HB; have HO303 := n0_; have BK298 := n1_; have HB := n2_; clear n0_ n1_ n2_; (try clear hb); (try clear hb2); (try clear hk); (try clear hi); (try clear ho0); obtain ⟨hcz19_0, hcz19_1, hcz19_2, hfz19_0, hfz19_1, hfz19_2⟩ := cz3 BK298) | ((with_reducible refine gate_callee (f := 47) rfl ?_); refine goesL_ (some 36) rfl rfl Tryd.func47 (by kernel_rfl) rfl #[.slice A0_0 l0_0.length c0_0] rfl (by (try simp only [List.map_toArray, List.map_cons, List.map_nil]); first | done | rfl | (simp only [List.length_drop, List.length_take]; rfl)) ?_; (with_reducible refine (luciferref00_Total.calls k1 _ _ l0_0 t304 _ ?side1 ?side2 A16.out).mono ?_); (case side1 => exact C_ HR0_0); (case side2 => exact HC0_0.out); rintro e w' ⟨rfl, ⟨nd, rfl⟩⟩; refine ⟨_, rfl, ?_⟩))
              go_loopg [9, 10] k1 (fun kq v9 v10 w' => ∃ (x9_2 : Int) (x10_2 : Int), v9 = .int .i64 x9_2 ∧ v10 = .int .i64 x10_2 ∧ Aside0 (luciferref01_Ask.l1 kq x5_1 x6_1 x7_1 t301 x9_2 x10_2 l0_0 a0_1 l0_2 = some (r1, r2)) ∧ Aside0 (kq ≤ k1) ∧ Aside0 (Kd.R k108 108 w' w.heap.size (fun _ => True) v302 t301) ∧ Aside0 (w'.heap[gb298]? = some (.cells #[(.slice A0_0 l0_0.length c0_0), .int .i64 a0_1, (.slice (some ad300) l0_2.length c0_2)] 25 (0, 0))) ∧ Aside0 (Below w.heap.size w w'))
              case atStart => exact ⟨(t304), (0), S_, S_, H', ⟨Nat.le_refl _⟩, ⟨R_ HO303⟩, ⟨K_ BK298⟩, ⟨B_⟩⟩
              case round =>
                clear H'
                try clear c1; try clear p2; try clear c3; try clear c3b0; try clear c3b1; try clear p3; try clear q3; try clear hx3; try clear c4; try clear c4b0; try clear c4b1; try clear c4b2; try clear c8; try clear c13; try clear c13b0; try clear c14; try clear c14b0; try clear c18; try clear hcz10_0; try clear hcz10_1; try clear hcz10_2; try clear hcz12_0; try clear hcz12_1; try clear hcz12_2; try clear hcz17_0; try clear hcz17_1; try clear hcz17_2; try clear hcz19_0; try clear hcz19_1; try clear hcz19_2; try clear hcz6_0; try clear hcz6_1; try clear hcz6_2; try clear hcz8_0; try clear hcz8_1; try clear hcz8_2; try clear hfz10_0; try clear hfz10_1; try clear hfz10_2; try clear hfz12_0; try clear hfz12_1; try clear hfz12_2; try clear hfz17_0; try clear hfz17_1; try clear hfz17_2; try clear hfz19_0; try clear hfz19_1; try clear hfz19_2; try clear hfz6_0; try clear hfz6_1; try clear hfz6_2; try clear hfz8_0; try clear hfz8_1; try clear hfz8_2; try clear hx300_0; try clear hx300_1; try clear hx300_2; try clear hx300_3; try clear p2; try clear p300; try clear q300
                obtain ⟨x9_2, x10_2, rfl, rfl, HA, HK2, HO_8, BK298, HB⟩ := hrel
                cases gk with
                | zero => exact absurd HA.out (by simp [luciferref01_Ask.l1])
                | succ k2 =>
                  have H := HA.out
                  clear HA
                  simp only [luciferref01_Ask.l1] at H
                  by_cases c20 : x10_2 < (t301.length : Int)
                  · rw [if_pos c20] at H
                    have c20b0 : decide (x10_2 < (t301.length : Int)) = true := decide_eq_true c20
                    clear c20
                    by_cases c21 : 0 ≤ x10_2
                    · rw [if_pos c21] at H
                      have c21b0 : decide (0 ≤ x10_2) = true := decide_eq_true c21
                      clear c21
                      replace H := Option.bind_eq_some_iff.mp H
                      obtain ⟨⟨t307, t310, t311⟩, A220, H⟩ := H
                      replace H : ((luciferref01_some.f k2 t307 t310 t311).bind fun t315 => ((luciferref01_best.f k2 t307 t310 t311 t315).bind fun t318 => (luciferref01_Ask.l1 k2 x5_1 x6_1 x7_1 t301 (mn x9_2 (t318.length : Int)) (wrap64 (x10_2 + 1)) l0_0 a0_1 l0_2))) = some (r1, r2) := H
                      have A22 := Aside0.mk A220
                      clear A220
                      replace H := Option.bind_eq_some_iff.mp H
                      obtain ⟨t315, A230, H⟩ := H
                      replace H : ((luciferref01_best.f k2 t307 t310 t311 t315).bind fun t318 => (luciferref01_Ask.l1 k2 x5_1 x6_1 x7_1 t301 (mn x9_2 (t318.length : Int)) (wrap64 (x10_2 + 1)) l0_0 a0_1 l0_2)) = some (r1, r2) := H
                      have A23 := Aside0.mk A230
                      clear A230
                      replace H := Option.bind_eq_some_iff.mp H
                      obtain ⟨t318, A240, H⟩ := H
                      replace H : (luciferref01_Ask.l1 k2 x5_1 x6_1 x7_1 t301 (mn x9_2 (t318.length : Int)) (wrap64 (x10_2 + 1)) l0_0 a0_1 l0_2) = some (r1, r2) := H
                      have A24 := Aside0.mk A240
                      clear A240
                      obtain ⟨ji25, hji25⟩ : ∃ j_ : Int, (mn x9_2 (t318.length : Int)) = j_ := ⟨_, rfl⟩
                      replace H : (luciferref01_Ask.l1 k2 x5_1 x6_1 x7_1 t301 ji25 (wrap64 (x10_2 + 1)) l0_0 a0_1 l0_2) = some (r1, r2) := by first | (rw [hji25] at H; exact H) | (simp only [hji25] at H ⊢; exact H)
                      (try rw [hji25] at A22)
                      (try rw [hji25] at A23)
                      (try rw [hji25] at A24)
                      have hji25_ : (if (t318.length : Int) < x9_2 then (t318.length : Int) else x9_2) = ji25 := hji25
                      have H' := Aside0.mk H
                      clear H
                      obtain ⟨Ao26, co26, eo26⟩ := Kd.R_slice HO_8.out
                      subst eo26
                      try go_wp2
                      have n0_ := Aside0.mk (Kd.R_drew HO_8.out)
                      have n1_ := Aside0.mk (blk_drew BK298.out)
                      have n2_ := Aside0.mk (below_drew1 HB.out)
                      clear HO_8
                      clear BK298
                      clear HB
                      have HO_8 := n0_
                      have BK298 := n1_
                      have HB := n2_
                      clear n0_ n1_ n2_
                      have p305 : 0 ≤ (x10_2 : Int) := of_decide_eq_true D_
                      have q305 : x10_2 < (t301.length : Int) := of_decide_eq_true D_
                      obtain ⟨ad305, e305, hx305_0, hx305_1⟩ := at_T108 (Kd.R_reads' HO_8.out).2.2 x10_2 p305 q305
                      cases e305
                      replace p305 := eq_true p305
                      replace q305 := eq_true q305
                      have p306 : 0 ≤ (x10_2 : Int) := of_decide_eq_true D_
                      have q306 : x10_2 < (t301.length : Int) := of_decide_eq_true D_
                      obtain ⟨ad306, e306, hx306_0, hx306_1⟩ := at_T108 (Kd.R_reads' HO_8.out).2.2 x10_2 p306 q306
                      obtain rfl : ad305 = ad306 := (by injection e306)
                      replace p306 := eq_true p306
                      replace q306 := eq_true q306
                      refine start_ (n := 15) (S := fun w' => w'.cell? ⟨gb298, 0, none⟩ = some (.slice A0_0 l0_0.length c0_0) ∧ w'.cell? ⟨gb298, 1, none⟩ = some (.int .i64 a0_1) ∧ w'.cell? ⟨gb298, 2, none⟩ = some (.slice (some ad300) l0_2.length c0_2) ∧ w'.cell? (ad305.add ((x10_2).toNat * 2)) = some (.int .i64 ((rd_T108 t301 x10_2).f0)) ∧ w'.cell? ⟨(ad305.add ((x10_2).toNat * 2)).block, (ad305.add ((x10_2).toNat * 2)).off + 1, none⟩ = some (.int .i64 ((rd_T108 t301 x10_2).f1)) ∧ w'.cell? (ad305.add ((x10_2).toNat * 2)) = some (.int .i64 ((rd_T108 t301 x10_2).f0)) ∧ w'.cell? ⟨(ad305.add ((x10_2).toNat * 2)).block, (ad305.add ((x10_2).toNat * 2)).off + 1, none⟩ = some (.int .i64 ((rd_T108 t301 x10_2).f1))) (ds := []) #[false, false, false, false, false, false, false, false, false, false, false, false, false, false, false] (by kernel_rfl) rfl rfl ⟨(blk_cell BK298.out 0).trans rfl, (blk_cell BK298.out 1).trans rfl, (blk_cell BK298.out 2).trans rfl, hx305_0, hx305_1, hx306_0, hx306_1⟩ (fun hHeld => ?_); refine with_tabW luciferref01_Ask.tab15 luciferref01_Ask.bits15 (fun HT_ HW_ => ?_)
                      generalize wr.drew = w27 at HO_8 BK298 HB hx305_0 hx305_1 hx306_0 hx306_1 hHeld ⊢
                      refine pure_ (i := 1) (N := some 44) (v := ?_) (a' := ?_) #[false, true, false, false, false, false, false, false, false, false, false, false, false, false, false] rfl rfl (any_of HT_.out (by kernel_rfl)) (fun _ _ _ h => h) (Or.inl ⟨by rfl, ?_⟩) ?_ ?_
                      rotate_left
                      · intro w'
                        go_simp
                        with_reducible rfl
                      rotate_left
                      · simp only [Act.put, List.setIfInBounds_toArray, List.set_cons_zero, List.set_cons_succ, i64_w, i32_w]
                        rfl
                      refine pure_ (i := 2) (N := some 45) (v := ?_) (a' := ?_) #[false, true, true, false, false, false, false, false, false, false, false, false, false, false, false] rfl rfl (any_of HT_.out (by kernel_rfl)) (fun _ _ _ h => h) (Or.inl ⟨by rfl, ?_⟩) ?_ ?_
                      rotate_left
                      · intro w'
                        go_simp
                        with_reducible rfl
                      rotate_left
                      · simp only [Act.put, List.setIfInBounds_toArray, List.set_cons_zero, List.set_cons_succ, i64_w, i32_w]
                        rfl
                      refine pure_ (i := 3) (N := some 46) (v := ?_) (a' := ?_) #[false, true, true, true, false, false, false, false, false, false, false, false, false, false, false] rfl rfl (any_of HT_.out (by kernel_rfl)) (fun _ _ _ h => h) (Or.inl ⟨by rfl, ?_⟩) ?_ ?_
                      rotate_left
                      · intro w'
                        go_simp
                        with_reducible rfl
                      rotate_left
                      · simp only [Act.put, List.setIfInBounds_toArray, List.set_cons_zero, List.set_cons_succ, i64_w, i32_w]
                        rfl
                      refine pure_ (i := 4) (N := some 47) (v := ?_) (a' := ?_) #[false, true, true, true, true, false, false, false, false, false, false, false, false, false, false] rfl rfl (any_of HT_.out (by kernel_rfl)) (fun _ _ _ h => h) (Or.inl ⟨by rfl, ?_⟩) ?_ ?_
                      rotate_left
                      · intro w'
                        go_simp
                        with_reducible rfl
                      rotate_left
                      · simp only [Act.put, List.setIfInBounds_toArray, List.set_cons_zero, List.set_cons_succ, i64_w, i32_w]
                        rfl
                      refine pure_ (i := 5) (N := some 48) (v := ?_) (a' := ?_) #[false, true, true, true, true, true, false, false, false, false, false, false, false, false, false] rfl rfl (any_of HT_.out (by kernel_rfl)) (fun _ _ _ h => h) (Or.inl ⟨by rfl, ?_⟩) ?_ ?_
                      rotate_left
                      · intro w'
                        go_simp
                        with_reducible rfl
                      rotate_left
                      · simp only [Act.put, List.setIfInBounds_toArray, List.set_cons_zero, List.set_cons_succ, i64_w, i32_w]
                        rfl
                      refine pure_ (i := 7) (N := some 50) (v := ?_) (a' := ?_) #[false, true, true, true, true, true, false, true, false, false, false, false, false, false, false] rfl rfl (any_of HT_.out (by kernel_rfl)) (fun _ _ _ h => h) (Or.inl ⟨by rfl, ?_⟩) ?_ ?_
                      rotate_left
                      · intro w'
                        go_simp
                        with_reducible rfl
                      rotate_left
                      · simp only [Act.put, List.setIfInBounds_toArray, List.set_cons_zero, List.set_cons_succ, i64_w, i32_w]
                        rfl
                      refine pure_ (i := 8) (N := some 51) (v := ?_) (a' := ?_) #[false, true, true, true, true, true, false, true, true, false, false, false, false, false, false] rfl rfl (any_of HT_.out (by kernel_rfl)) (fun _ _ _ h => h) (Or.inl ⟨by rfl, ?_⟩) ?_ ?_
                      rotate_left
                      · intro w'
                        go_simp
                        with_reducible rfl
                      rotate_left
                      · simp only [Act.put, List.setIfInBounds_toArray, List.set_cons_zero, List.set_cons_succ, i64_w, i32_w]
                        rfl
                      refine pure_ (i := 9) (N := some 52) (v := ?_) (a' := ?_) #[false, true, true, true, true, true, false, true, true, true, false, false, false, false, false] rfl rfl (any_of HT_.out (by kernel_rfl)) (fun _ _ _ h => h) (Or.inl ⟨by rfl, ?_⟩) ?_ ?_
                      rotate_left
                      · intro w'
                        go_simp
                        with_reducible rfl
                      rotate_left
                      · simp only [Act.put, List.setIfInBounds_toArray, List.set_cons_zero, List.set_cons_succ, i64_w, i32_w]
                        rfl
                      refine pure_ (i := 10) (N := some 53) (v := ?_) (a' := ?_) #[false, true, true, true, true, true, false, true, true, true, true, false, false, false, false] rfl rfl (any_of HT_.out (by kernel_rfl)) (fun _ _ _ h => h) (Or.inl ⟨by rfl, ?_⟩) ?_ ?_
                      rotate_left
                      · intro w'
                        go_simp
                        with_reducible rfl
                      rotate_left
                      · simp only [Act.put, List.setIfInBounds_toArray, List.set_cons_zero, List.set_cons_succ, i64_w, i32_w]
                        rfl
                      refine take_ (i := 0) (N := some 43) (v := ?_) (a' := ?_) #[true, true, true, true, true, true, false, true, true, true, true, false, false, false, false] rfl rfl (take_ofW HT_.out HW_.out (by kernel_rfl)) (fun _ _ _ h => h) (Or.inl ⟨by rfl, ?_⟩) hHeld ?_ ?_
                      rotate_left
                      · rintro w' ⟨s0, s1, s2, s3, s4, s5, s6⟩
                        go_simp
                        with_reducible rfl
                      rotate_left
                      · simp only [Act.put, List.setIfInBounds_toArray, List.set_cons_zero, List.set_cons_succ, i64_w, i32_w]
                        rfl
                      refine take_ (i := 6) (N := some 49) (v := ?_) (a' := ?_) #[true, true, true, true, true, true, true, true, true, true, true, false, false, false, false] rfl rfl (take_ofW HT_.out HW_.out (by kernel_rfl)) (fun _ _ _ h => h) (Or.inl ⟨by rfl, ?_⟩) hHeld ?_ ?_
                      rotate_left
                      · rintro w' ⟨s0, s1, s2, s3, s4, s5, s6⟩
                        go_simp
                        with_reducible rfl
                      rotate_left
                      · simp only [Act.put, List.setIfInBounds_toArray, List.set_cons_zero, List.set_cons_succ, i64_w, i32_w]
                        rfl
                      refine take_ (i := 11) (N := some 54) (v := ?_) (a' := ?_) #[true, true, true, true, true, true, true, true, true, true, true, true, false, false, false] rfl rfl (take_ofW HT_.out HW_.out (by kernel_rfl)) (fun _ _ _ h => h) (Or.inl ⟨by rfl, ?_⟩) hHeld ?_ ?_
                      rotate_left
                      · rintro w' ⟨s0, s1, s2, s3, s4, s5, s6⟩
                        go_simp
                        with_reducible rfl
                      rotate_left
                      · simp only [Act.put, List.setIfInBounds_toArray, List.set_cons_zero, List.set_cons_succ, i64_w, i32_w]
                        rfl
                      refine join_ (σ := Value × Value × Nat) 1 #[true, true, true, true, true, true, true, true, true, true, true, true, true, true, false] (fun s_ => [(55, .agg #[s_.1, .int .i64 t310, s_.2.1]), (11, .pointer (some ⟨s_.2.2, 0, none⟩))]) (fun s_ w' => (w'.cell? ⟨gb298, 0, none⟩ = some (.slice A0_0 l0_0.length c0_0) ∧ w'.cell? ⟨gb298, 1, none⟩ = some (.int .i64 a0_1) ∧ w'.cell? ⟨gb298, 2, none⟩ = some (.slice (some ad300) l0_2.length c0_2) ∧ w'.cell? (ad305.add ((x10_2).toNat * 2)) = some (.int .i64 ((rd_T108 t301 x10_2).f0)) ∧ w'.cell? ⟨(ad305.add ((x10_2).toNat * 2)).block, (ad305.add ((x10_2).toNat * 2)).off + 1, none⟩ = some (.int .i64 ((rd_T108 t301 x10_2).f1)) ∧ w'.cell? (ad305.add ((x10_2).toNat * 2)) = some (.int .i64 ((rd_T108 t301 x10_2).f0)) ∧ w'.cell? ⟨(ad305.add ((x10_2).toNat * 2)).block, (ad305.add ((x10_2).toNat * 2)).off + 1, none⟩ = some (.int .i64 ((rd_T108 t301 x10_2).f1))) ∧ (Kd.V (Kd.int .i64) 3 w' w.heap.size (fun k_ => some k_ ≠ (s_.2.1 : Value).ownBlock ∧ some k_ ≠ (.slice (some ad305) t301.length co26 : Value).ownBlock ∧ k_ ≠ gb298 ∧ k_ ≠ s_.2.2) s_.1 t307) ∧ (Kd.R k61 61 w' w.heap.size (fun _ => True) s_.2.1 t311) ∧ (Kd.R k108 108 w' w.heap.size (fun _ => True) (.slice (some ad305) t301.length co26) t301) ∧ (w'.heap[gb298]? = some (.cells #[.slice A0_0 l0_0.length c0_0, .int .i64 a0_1, .slice (some ad300) l0_2.length c0_2] 25 (0, 0))) ∧ (w'.heap[s_.2.2]? = some (.cells #[.slice none 0 0, .int .i64 0, .slice none 0 0] 25 (0, 0))) ∧ (w.heap.size ≤ s_.2.2) ∧ (w.heap.size ≤ s_.2.2) ∧ (gb298 ≠ s_.2.2) ∧ (s_.2.2 ≠ gb298) ∧ (Below w.heap.size w w')) ?_ ?_
                      rotate_left
                      · intro hCont
                        refine two_ (i := 12) (j := 13) (Ni := some 55) (Nj := some 11) #[true, true, true, true, true, true, true, true, true, true, true, true, true, false, false] #[true, true, true, true, true, true, true, true, true, true, true, true, false, true, false] rfl rfl rfl rfl (two_of HT_.out (by kernel_rfl)) (by decide) (by decide) (fun K hK => ?_) (fun K hK => ?_)
                        · skip
                          refine goes_ Tryd.func84 (by kernel_rfl) rfl #[.agg #[.slice A0_0 l0_0.length c0_0, .int .i64 a0_1, .slice (some ad300) l0_2.length c0_2], .int .i64 x7_1, .int .i64 ((rd_T108 t301 x10_2).f0), .int .i64 ((rd_T108 t301 x10_2).f1)] (by rfl) rfl rfl (by (try simp only [List.map_toArray, List.map_cons, List.map_nil]); first | done | rfl | (simp only [List.length_drop, List.length_take]; rfl)) ?_
                          with_reducible refine (luciferref01_Found.calls (fun k_ => k_ < w.heap.size) _ _ l0_0 a0_1 _ _ l0_2 x7_1 ((rd_T108 t301 x10_2).f0) ((rd_T108 t301 x10_2).f1) t307 t310 t311 _ ?side1 ?side2 ?side3 A22.out).mono ?_
                          (case side1 => exact Kd.V_mk HC0_0.out (Kd.F_below (Kd.C_F (Kd.heap_int .i64) HR0_0.out) (B_)))
                          (case side2 => exact C_ HR0_2)
                          (case side3 => exact HC0_2.out)
                          rintro e w28 ⟨v308, v312, rfl, ho0, ho1, hb⟩
                          have HS3_ := (hb.cell (World.block_lt_of_cell? _ _ (hHeld.2.2.2.1))).trans (hHeld.2.2.2.1)
                          have HS4_ := (hb.cell (World.block_lt_of_cell? _ _ (hHeld.2.2.2.2.1))).trans (hHeld.2.2.2.2.1)
                          have HS5_ := (hb.cell (World.block_lt_of_cell? _ _ (hHeld.2.2.2.2.2.1))).trans (hHeld.2.2.2.2.2.1)
                          have HS6_ := (hb.cell (World.block_lt_of_cell? _ _ (hHeld.2.2.2.2.2.2))).trans (hHeld.2.2.2.2.2.2)
                          refine ⟨_, rfl, ?_⟩
                          have n0_ := Aside0.mk (Kd.R_below (R_ HO_8) hb)
                          have n1_ := Aside0.mk (Kd.V_lower (Kd.V_mono (ok' := fun k_ => some k_ ≠ (v312 : Value).ownBlock ∧ some k_ ≠ (.slice (some ad305) t301.length co26 : Value).ownBlock ∧ k_ ≠ gb298) ho0 (fun k_ hk_ => ⟨hk_.2, Or.elim hk_.1 (fun hs_ => fun e_ => Nat.not_le.2 hs_ (Kd.R_base HO_8.out k_ e_.symm)) (fun hn_ => (Kd.fresh' (Kd.R_lt (R_ HO_8)) k_ hn_)), Or.elim hk_.1 (fun hs_ => fun e_ => Nat.not_le.2 hs_ (by rw [e_]; exact GW298.out)) (fun hn_ => (Kd.freshB (g := gb298) (o := .cells #[.slice A0_0 l0_0.length c0_0, .int .i64 a0_1, .slice (some ad300) l0_2.length c0_2] 25 (0, 0)) (K_ BK298) k_ hn_))⟩)) (below_size (B_)))
                          have n2_ := Aside0.mk (Kd.R_lower (Kd.R_mono (ok' := fun k_ => True) ho1 (fun _ hk_ => trivial)) (below_size (B_)))
                          have n3_ := Aside0.mk (blk_below (g := gb298) (o := .cells #[.slice A0_0 l0_0.length c0_0, .int .i64 a0_1, .slice (some ad300) l0_2.length c0_2] 25 (0, 0)) (K_ BK298) hb)
                          have n4_ := Aside0.mk (below_step (B_) hb)
                          clear HO_8
                          clear BK298
                          clear HB
                          have HO_8 := n0_
                          have HO309 := n1_
                          have HO313 := n2_
                          have BK298 := n3_
                          have HB := n4_
                          clear n0_ n1_ n2_ n3_ n4_
                          (try clear hb)
                          (try clear hb2)
                          (try clear hk)
                          (try clear hi)
                          (try clear ho0)
                          (try clear ho1)
                          refine hK.out _ _ ⟨(blk_cell BK298.out 0).trans rfl, (blk_cell BK298.out 1).trans rfl, (blk_cell BK298.out 2).trans rfl, HS3_, HS4_, HS5_, HS6_⟩ (fun hHeld => ?_)
                          clear hK K
                          refine norm_ (a' := ?_) ?_ ?_
                          rotate_left
                          · show Act.put _ (some 55) _ = _
                            simp only [Act.put, List.setIfInBounds_toArray, List.set_cons_zero, List.set_cons_succ, i64_w, i32_w]
                            rfl
                          refine one_ (i := 13) (N := some 11) #[true, true, true, true, true, true, true, true, true, true, true, true, true, true, false] rfl rfl (one_of HT_.out (by kernel_rfl)) (by decide) (fun K hK => ?_)
                          refine box_step ?hg (N := 11) ?hd (cs := #[.slice none 0 0, .int .i64 0, .slice none 0 0]) (t := 25) ?hr ?_; (case hd => rfl); (case hg => rfl); (case hr => first | (go_simp; done) | (go_simp; rfl))
                          intro gb314 hg w29 hbox hb
                          have HS3_ := (hb.cell (World.block_lt_of_cell? _ _ (hHeld.2.2.2.1))).trans (hHeld.2.2.2.1)
                          have HS4_ := (hb.cell (World.block_lt_of_cell? _ _ (hHeld.2.2.2.2.1))).trans (hHeld.2.2.2.2.1)
                          have HS5_ := (hb.cell (World.block_lt_of_cell? _ _ (hHeld.2.2.2.2.2.1))).trans (hHeld.2.2.2.2.2.1)
                          have HS6_ := (hb.cell (World.block_lt_of_cell? _ _ (hHeld.2.2.2.2.2.2))).trans (hHeld.2.2.2.2.2.2)
                          have n0_ := Aside0.mk (Kd.R_below (R_ HO_8) hb)
                          have n1_ := Aside0.mk (Kd.V_below (Kd.V_elderB (by (with_reducible repeat (first | apply Kd.V_alloc | apply Kd.V_drewN | apply Kd.V_drew)); exact HO309.out) gb314 (Nat.le_of_eq hg.symm)) hb)
                          have n2_ := Aside0.mk (Kd.R_below (R_ HO313) hb)
                          have n3_ := Aside0.mk (blk_below (g := gb298) (o := .cells #[.slice A0_0 l0_0.length c0_0, .int .i64 a0_1, .slice (some ad300) l0_2.length c0_2] 25 (0, 0)) (K_ BK298) hb)
                          have n4_ := Aside0.mk (below_step (B_) hb)
                          have n5_ := Aside0.mk (hbox)
                          have n6_ := Aside0.mk ((by rw [hg]; exact (below_size (B_)) : w.heap.size ≤ gb314))
                          have n7_ := Aside0.mk ((by rw [hg]; exact (below_size (B_)) : w.heap.size ≤ gb314))
                          have n8_ := Aside0.mk ((by rw [hg]; exact Nat.ne_of_lt (blk_lt (g := gb298) (o := .cells #[.slice A0_0 l0_0.length c0_0, .int .i64 a0_1, .slice (some ad300) l0_2.length c0_2] 25 (0, 0)) (K_ BK298)) : gb298 ≠ gb314))
                          have n9_ := Aside0.mk ((by rw [hg]; exact Nat.ne_of_gt (blk_lt (g := gb298) (o := .cells #[.slice A0_0 l0_0.length c0_0, .int .i64 a0_1, .slice (some ad300) l0_2.length c0_2] 25 (0, 0)) (K_ BK298)) : gb314 ≠ gb298))
                          clear HO_8
                          clear HO309
                          clear HO313
                          clear BK298
                          clear HB
                          have HO_8 := n0_
                          have HO309 := n1_
                          have HO313 := n2_
                          have BK298 := n3_
                          have HB := n4_
                          have BK314 := n5_
                          have GW314 := n6_
                          have GE314 := n7_
                          have NB298_314 := n8_
                          have NB314_298 := n9_
                          clear n0_ n1_ n2_ n3_ n4_ n5_ n6_ n7_ n8_ n9_
                          clear hb hbox hg
                          refine hK.out _ _ ⟨(blk_cell BK298.out 0).trans rfl, (blk_cell BK298.out 1).trans rfl, (blk_cell BK298.out 2).trans rfl, HS3_, HS4_, HS5_, HS6_⟩ (fun hHeld => ?_)
                          clear hK K
                          refine norm_ (a' := ?_) ?_ ?_
                          rotate_left
                          · show Act.put _ (some 11) _ = _
                            simp only [Act.put, List.setIfInBounds_toArray, List.set_cons_zero, List.set_cons_succ, i64_w, i32_w]
                            rfl
                          exact norm_ (by simp only [putAll, Act.put, List.setIfInBounds_toArray, List.set_cons_zero, List.set_cons_succ]) (hCont (v308, v312, gb314) _ ⟨hHeld, (by (with_reducible repeat (first | apply Kd.V_alloc | apply Kd.V_drewN | apply Kd.V_drew)); exact Kd.V_mono HO309.out (fun _ hk => ⟨hk.1.1, ⟨hk.1.2.1, ⟨hk.1.2.2, hk.2⟩⟩⟩)), (R_ HO313), (R_ HO_8), (K_ BK298), (K_ BK314), GW314.out, GE314.out, NB298_314.out, NB314_298.out, (B_)⟩)
                        · skip
                          refine box_step ?hg (N := 11) ?hd (cs := #[.slice none 0 0, .int .i64 0, .slice none 0 0]) (t := 25) ?hr ?_; (case hd => rfl); (case hg => rfl); (case hr => first | (go_simp; done) | (go_simp; rfl))
                          intro gb314 hg w28 hbox hb
                          have HS3_ := (hb.cell (World.block_lt_of_cell? _ _ (hHeld.2.2.2.1))).trans (hHeld.2.2.2.1)
                          have HS4_ := (hb.cell (World.block_lt_of_cell? _ _ (hHeld.2.2.2.2.1))).trans (hHeld.2.2.2.2.1)
                          have HS5_ := (hb.cell (World.block_lt_of_cell? _ _ (hHeld.2.2.2.2.2.1))).trans (hHeld.2.2.2.2.2.1)
                          have HS6_ := (hb.cell (World.block_lt_of_cell? _ _ (hHeld.2.2.2.2.2.2))).trans (hHeld.2.2.2.2.2.2)
                          have n0_ := Aside0.mk (Kd.R_below (R_ HO_8) hb)
                          have n1_ := Aside0.mk (blk_below (g := gb298) (o := .cells #[.slice A0_0 l0_0.length c0_0, .int .i64 a0_1, .slice (some ad300) l0_2.length c0_2] 25 (0, 0)) (K_ BK298) hb)
                          have n2_ := Aside0.mk (below_step (B_) hb)
                          have n3_ := Aside0.mk (hbox)
                          have n4_ := Aside0.mk ((by rw [hg]; exact (below_size (B_)) : w.heap.size ≤ gb314))
                          have n5_ := Aside0.mk ((by rw [hg]; exact (below_size (B_)) : w.heap.size ≤ gb314))
                          have n6_ := Aside0.mk ((by rw [hg]; exact Nat.ne_of_lt (blk_lt (g := gb298) (o := .cells #[.slice A0_0 l0_0.length c0_0, .int .i64 a0_1, .slice (some ad300) l0_2.length c0_2] 25 (0, 0)) (K_ BK298)) : gb298 ≠ gb314))
                          have n7_ := Aside0.mk ((by rw [hg]; exact Nat.ne_of_gt (blk_lt (g := gb298) (o := .cells #[.slice A0_0 l0_0.length c0_0, .int .i64 a0_1, .slice (some ad300) l0_2.length c0_2] 25 (0, 0)) (K_ BK298)) : gb314 ≠ gb298))
                          clear HO_8
                          clear BK298
                          clear HB
                          have HO_8 := n0_
                          have BK298 := n1_
                          have HB := n2_
                          have BK314 := n3_
                          have GW314 := n4_
                          have GE314 := n5_
                          have NB298_314 := n6_
                          have NB314_298 := n7_
                          clear n0_ n1_ n2_ n3_ n4_ n5_ n6_ n7_
                          clear hb hbox hg
                          refine hK.out _ _ ⟨(blk_cell BK298.out 0).trans rfl, (blk_cell BK298.out 1).trans rfl, (blk_cell BK298.out 2).trans rfl, HS3_, HS4_, HS5_, HS6_⟩ (fun hHeld => ?_)
                          clear hK K
                          refine norm_ (a' := ?_) ?_ ?_
                          rotate_left
                          · show Act.put _ (some 11) _ = _
                            simp only [Act.put, List.setIfInBounds_toArray, List.set_cons_zero, List.set_cons_succ, i64_w, i32_w]
                            rfl
                          refine one_ (i := 12) (N := some 55) #[true, true, true, true, true, true, true, true, true, true, true, true, true, true, false] rfl rfl (one_of HT_.out (by kernel_rfl)) (by decide) (fun K hK => ?_)
                          refine goes_ Tryd.func84 (by kernel_rfl) rfl #[.agg #[.slice A0_0 l0_0.length c0_0, .int .i64 a0_1, .slice (some ad300) l0_2.length c0_2], .int .i64 x7_1, .int .i64 ((rd_T108 t301 x10_2).f0), .int .i64 ((rd_T108 t301 x10_2).f1)] (by rfl) rfl rfl (by (try simp only [List.map_toArray, List.map_cons, List.map_nil]); first | done | rfl | (simp only [List.length_drop, List.length_take]; rfl)) ?_
                          with_reducible refine (luciferref01_Found.calls (fun k_ => k_ < w.heap.size) _ _ l0_0 a0_1 _ _ l0_2 x7_1 ((rd_T108 t301 x10_2).f0) ((rd_T108 t301 x10_2).f1) t307 t310 t311 _ ?side1 ?side2 ?side3 A22.out).mono ?_
                          (case side1 => exact Kd.V_mk HC0_0.out (Kd.F_below (Kd.C_F (Kd.heap_int .i64) HR0_0.out) (B_)))
                          (case side2 => exact C_ HR0_2)
                          (case side3 => exact HC0_2.out)
                          rintro e w29 ⟨v308, v312, rfl, ho0, ho1, hb⟩
                          have HS3_ := (hb.cell (World.block_lt_of_cell? _ _ (hHeld.2.2.2.1))).trans (hHeld.2.2.2.1)
                          have HS4_ := (hb.cell (World.block_lt_of_cell? _ _ (hHeld.2.2.2.2.1))).trans (hHeld.2.2.2.2.1)
                          have HS5_ := (hb.cell (World.block_lt_of_cell? _ _ (hHeld.2.2.2.2.2.1))).trans (hHeld.2.2.2.2.2.1)
                          have HS6_ := (hb.cell (World.block_lt_of_cell? _ _ (hHeld.2.2.2.2.2.2))).trans (hHeld.2.2.2.2.2.2)
                          refine ⟨_, rfl, ?_⟩
                          have n0_ := Aside0.mk (Kd.R_below (R_ HO_8) hb)
                          have n1_ := Aside0.mk (Kd.V_lower (Kd.V_mono (ok' := fun k_ => some k_ ≠ (v312 : Value).ownBlock ∧ some k_ ≠ (.slice (some ad305) t301.length co26 : Value).ownBlock ∧ k_ ≠ gb298 ∧ k_ ≠ gb314) ho0 (fun k_ hk_ => ⟨hk_.2, Or.elim hk_.1 (fun hs_ => fun e_ => Nat.not_le.2 hs_ (Kd.R_base HO_8.out k_ e_.symm)) (fun hn_ => (Kd.fresh' (Kd.R_lt (R_ HO_8)) k_ hn_)), Or.elim hk_.1 (fun hs_ => fun e_ => Nat.not_le.2 hs_ (by rw [e_]; exact GW298.out)) (fun hn_ => (Kd.freshB (g := gb298) (o := .cells #[.slice A0_0 l0_0.length c0_0, .int .i64 a0_1, .slice (some ad300) l0_2.length c0_2] 25 (0, 0)) (K_ BK298) k_ hn_)), Or.elim hk_.1 (fun hs_ => fun e_ => Nat.not_le.2 hs_ (by rw [e_]; exact GW314.out)) (fun hn_ => (Kd.freshB (g := gb314) (o := .cells #[.slice none 0 0, .int .i64 0, .slice none 0 0] 25 (0, 0)) (K_ BK314) k_ hn_))⟩)) (below_size (B_)))
                          have n2_ := Aside0.mk (Kd.R_lower (Kd.R_mono (ok' := fun k_ => True) ho1 (fun _ hk_ => trivial)) (below_size (B_)))
                          have n3_ := Aside0.mk (blk_below (g := gb298) (o := .cells #[.slice A0_0 l0_0.length c0_0, .int .i64 a0_1, .slice (some ad300) l0_2.length c0_2] 25 (0, 0)) (K_ BK298) hb)
                          have n4_ := Aside0.mk (blk_below (g := gb314) (o := .cells #[.slice none 0 0, .int .i64 0, .slice none 0 0] 25 (0, 0)) (K_ BK314) hb)
                          have n5_ := Aside0.mk (below_step (B_) hb)
                          clear HO_8
                          clear BK298
                          clear BK314
                          clear HB
                          have HO_8 := n0_
                          have HO309 := n1_
                          have HO313 := n2_
                          have BK298 := n3_
                          have BK314 := n4_
                          have HB := n5_
                          clear n0_ n1_ n2_ n3_ n4_ n5_
                          (try clear hb)
                          (try clear hb2)
                          (try clear hk)
                          (try clear hi)
                          (try clear ho0)
                          (try clear ho1)
                          refine hK.out _ _ ⟨(blk_cell BK298.out 0).trans rfl, (blk_cell BK298.out 1).trans rfl, (blk_cell BK298.out 2).trans rfl, HS3_, HS4_, HS5_, HS6_⟩ (fun hHeld => ?_)
                          clear hK K
                          refine norm_ (a' := ?_) ?_ ?_
                          rotate_left
                          · show Act.put _ (some 55) _ = _
                            simp only [Act.put, List.setIfInBounds_toArray, List.set_cons_zero, List.set_cons_succ, i64_w, i32_w]
                            rfl
                          exact norm_ (by simp only [putAll, Act.put, List.setIfInBounds_toArray, List.set_cons_zero, List.set_cons_succ]) (hCont (v308, v312, gb314) _ ⟨hHeld, (by (with_reducible repeat (first | apply Kd.V_alloc | apply Kd.V_drewN | apply Kd.V_drew)); exact HO309.out), (R_ HO313), (R_ HO_8), (K_ BK298), (K_ BK314), GW314.out, GE314.out, NB298_314.out, NB314_298.out, (B_)⟩)
                      rintro ⟨v308, v312, gb314⟩ w30 ⟨hS_, h0_, h1_, h2_, h3_, h4_, h5_, h6_, h7_, h8_, h9_⟩
                      have n0_ : Aside0 (Kd.V (Kd.int .i64) 3 w30 w.heap.size (fun k_ => some k_ ≠ (v312 : Value).ownBlock ∧ some k_ ≠ (.slice (some ad305) t301.length co26 : Value).ownBlock ∧ k_ ≠ gb298 ∧ k_ ≠ gb314) v308 t307) := ⟨h0_⟩
                      have n1_ : Aside0 (Kd.R k61 61 w30 w.heap.size (fun _ => True) v312 t311) := ⟨h1_⟩
                      have n2_ : Aside0 (Kd.R k108 108 w30 w.heap.size (fun _ => True) (.slice (some ad305) t301.length co26) t301) := ⟨h2_⟩
                      have n3_ : Aside0 (w30.heap[gb298]? = some (.cells #[.slice A0_0 l0_0.length c0_0, .int .i64 a0_1, .slice (some ad300) l0_2.length c0_2] 25 (0, 0))) := ⟨h3_⟩
                      have n4_ : Aside0 (w30.heap[gb314]? = some (.cells #[.slice none 0 0, .int .i64 0, .slice none 0 0] 25 (0, 0))) := ⟨h4_⟩
                      have n5_ : Aside0 (w.heap.size ≤ gb314) := ⟨h5_⟩
                      have n6_ : Aside0 (w.heap.size ≤ gb314) := ⟨h6_⟩
                      have n7_ : Aside0 (gb298 ≠ gb314) := ⟨h7_⟩
                      have n8_ : Aside0 (gb314 ≠ gb298) := ⟨h8_⟩
                      have n9_ : Aside0 (Below w.heap.size w w30) := ⟨h9_⟩
                      clear HO_8
                      clear BK298
                      clear HB
                      clear h0_ h1_ h2_ h3_ h4_ h5_ h6_ h7_ h8_ h9_
                      have HO309 := n0_
                      have HO313 := n1_
                      have HO_8 := n2_
                      have BK298 := n3_
                      have BK314 := n4_
                      have GW314 := n5_
                      have GE314 := n6_
                      have NB298_314 := n7_
                      have NB314_298 := n8_
                      have HB := n9_
                      clear n0_ n1_ n2_ n3_ n4_ n5_ n6_ n7_ n8_ n9_
                      have hHeld : w30.cell? ⟨gb298, 0, none⟩ = some (.slice A0_0 l0_0.length c0_0) ∧ w30.cell? ⟨gb298, 1, none⟩ = some (.int .i64 a0_1) ∧ w30.cell? ⟨gb298, 2, none⟩ = some (.slice (some ad300) l0_2.length c0_2) ∧ w30.cell? (ad305.add ((x10_2).toNat * 2)) = some (.int .i64 ((rd_T108 t301 x10_2).f0)) ∧ w30.cell? ⟨(ad305.add ((x10_2).toNat * 2)).block, (ad305.add ((x10_2).toNat * 2)).off + 1, none⟩ = some (.int .i64 ((rd_T108 t301 x10_2).f1)) ∧ w30.cell? (ad305.add ((x10_2).toNat * 2)) = some (.int .i64 ((rd_T108 t301 x10_2).f0)) ∧ w30.cell? ⟨(ad305.add ((x10_2).toNat * 2)).block, (ad305.add ((x10_2).toNat * 2)).off + 1, none⟩ = some (.int .i64 ((rd_T108 t301 x10_2).f1)) := hS_
                      obtain ⟨Ao31, co31, eo31⟩ := Kd.V_slice HO309.out
                      (first | subst eo31 | (injection eo31 with f1_ f2_ f3_; have f4_ := f1_.symm; have f5_ := f3_.symm; clear f1_ f2_ f3_; subst f4_; subst f5_))
                      obtain ⟨Ao34, co34, eo34⟩ := Kd.R_slice HO313.out
                      (first | subst eo34 | (injection eo34 with f1_ f2_ f3_; have f4_ := f1_.symm; have f5_ := f3_.symm; clear f1_ f2_ f3_; subst f4_; subst f5_))
                      refine norm_ (a' := ?_) ?_ ?_
                      rotate_left
                      · simp only [putAll, Act.put, List.setIfInBounds_toArray, List.set_cons_zero, List.set_cons_succ]
                        rfl
                      refine one_ (i := 14) (N := none) #[true, true, true, true, true, true, true, true, true, true, true, true, true, true, true] rfl rfl (one_of HT_.out (by kernel_rfl)) (by decide) (fun K hK => ?_)
                      have hs32 : w30.cell? ⟨gb314, 0, none⟩ = some (.slice none 0 0) := (blk_cell BK314.out 0).trans rfl
                      have hfs32 := blk_frozen BK314.out 0
                      have hns32_0 := NB298_314.out
                      have hms32_0 := NB314_298.out
                      have hs33 : w30.cell? ⟨gb314, 1, none⟩ = some (.int .i64 0) := (blk_cell BK314.out 1).trans rfl
                      have hfs33 := blk_frozen BK314.out 1
                      have hns33_0 := NB298_314.out
                      have hms33_0 := NB314_298.out
                      have hs35 : w30.cell? ⟨gb314, 2, none⟩ = some (.slice none 0 0) := (blk_cell BK314.out 2).trans rfl
                      have hfs35 := blk_frozen BK314.out 2
                      have hns35_0 := NB298_314.out
                      have hms35_0 := NB314_298.out
                      refine skip_ (w1 := ?_) (by rfl) rfl ?_ ?_
                      rotate_left
                      · go_simp
                        rfl
                      refine hK.out _ _ ⟨((cell_far (p := ⟨gb314, _, none⟩) NB298_314.out _).trans (((cell_far (p := ⟨gb314, _, none⟩) NB298_314.out _).trans (((cell_far (p := ⟨gb314, _, none⟩) NB298_314.out _).trans (hHeld.1)))))), ((cell_far (p := ⟨gb314, _, none⟩) NB298_314.out _).trans (((cell_far (p := ⟨gb314, _, none⟩) NB298_314.out _).trans (((cell_far (p := ⟨gb314, _, none⟩) NB298_314.out _).trans (hHeld.2.1)))))), ((cell_far (p := ⟨gb314, _, none⟩) NB298_314.out _).trans (((cell_far (p := ⟨gb314, _, none⟩) NB298_314.out _).trans (((cell_far (p := ⟨gb314, _, none⟩) NB298_314.out _).trans (hHeld.2.2.1)))))), ((cell_far (p := ⟨gb314, _, none⟩) (by first | exact Kd.own_blk (Kd.R_ne HO_8.out BK314.out (by decide)) | (rw [add_block]; exact Kd.own_blk (Kd.R_ne HO_8.out BK314.out (by decide))) | (show (Addr.add _ _).block ≠ _; rw [add_block]; exact Kd.own_blk (Kd.R_ne HO_8.out BK314.out (by decide))) | (dsimp only; exact Kd.own_blk (Kd.R_ne HO_8.out BK314.out (by decide)))) _).trans (((cell_far (p := ⟨gb314, _, none⟩) (by first | exact Kd.own_blk (Kd.R_ne HO_8.out BK314.out (by decide)) | (rw [add_block]; exact Kd.own_blk (Kd.R_ne HO_8.out BK314.out (by decide))) | (show (Addr.add _ _).block ≠ _; rw [add_block]; exact Kd.own_blk (Kd.R_ne HO_8.out BK314.out (by decide))) | (dsimp only; exact Kd.own_blk (Kd.R_ne HO_8.out BK314.out (by decide)))) _).trans (((cell_far (p := ⟨gb314, _, none⟩) (by first | exact Kd.own_blk (Kd.R_ne HO_8.out BK314.out (by decide)) | (rw [add_block]; exact Kd.own_blk (Kd.R_ne HO_8.out BK314.out (by decide))) | (show (Addr.add _ _).block ≠ _; rw [add_block]; exact Kd.own_blk (Kd.R_ne HO_8.out BK314.out (by decide))) | (dsimp only; exact Kd.own_blk (Kd.R_ne HO_8.out BK314.out (by decide)))) _).trans (hHeld.2.2.2.1)))))), ((cell_far (p := ⟨gb314, _, none⟩) (by first | exact Kd.own_blk (Kd.R_ne HO_8.out BK314.out (by decide)) | (rw [add_block]; exact Kd.own_blk (Kd.R_ne HO_8.out BK314.out (by decide))) | (show (Addr.add _ _).block ≠ _; rw [add_block]; exact Kd.own_blk (Kd.R_ne HO_8.out BK314.out (by decide))) | (dsimp only; exact Kd.own_blk (Kd.R_ne HO_8.out BK314.out (by decide)))) _).trans (((cell_far (p := ⟨gb314, _, none⟩) (by first | exact Kd.own_blk (Kd.R_ne HO_8.out BK314.out (by decide)) | (rw [add_block]; exact Kd.own_blk (Kd.R_ne HO_8.out BK314.out (by decide))) | (show (Addr.add _ _).block ≠ _; rw [add_block]; exact Kd.own_blk (Kd.R_ne HO_8.out BK314.out (by decide))) | (dsimp only; exact Kd.own_blk (Kd.R_ne HO_8.out BK314.out (by decide)))) _).trans (((cell_far (p := ⟨gb314, _, none⟩) (by first | exact Kd.own_blk (Kd.R_ne HO_8.out BK314.out (by decide)) | (rw [add_block]; exact Kd.own_blk (Kd.R_ne HO_8.out BK314.out (by decide))) | (show (Addr.add _ _).block ≠ _; rw [add_block]; exact Kd.own_blk (Kd.R_ne HO_8.out BK314.out (by decide))) | (dsimp only; exact Kd.own_blk (Kd.R_ne HO_8.out BK314.out (by decide)))) _).trans (hHeld.2.2.2.2.1)))))), ((cell_far (p := ⟨gb314, _, none⟩) (by first | exact Kd.own_blk (Kd.R_ne HO_8.out BK314.out (by decide)) | (rw [add_block]; exact Kd.own_blk (Kd.R_ne HO_8.out BK314.out (by decide))) | (show (Addr.add _ _).block ≠ _; rw [add_block]; exact Kd.own_blk (Kd.R_ne HO_8.out BK314.out (by decide))) | (dsimp only; exact Kd.own_blk (Kd.R_ne HO_8.out BK314.out (by decide)))) _).trans (((cell_far (p := ⟨gb314, _, none⟩) (by first | exact Kd.own_blk (Kd.R_ne HO_8.out BK314.out (by decide)) | (rw [add_block]; exact Kd.own_blk (Kd.R_ne HO_8.out BK314.out (by decide))) | (show (Addr.add _ _).block ≠ _; rw [add_block]; exact Kd.own_blk (Kd.R_ne HO_8.out BK314.out (by decide))) | (dsimp only; exact Kd.own_blk (Kd.R_ne HO_8.out BK314.out (by decide)))) _).trans (((cell_far (p := ⟨gb314, _, none⟩) (by first | exact Kd.own_blk (Kd.R_ne HO_8.out BK314.out (by decide)) | (rw [add_block]; exact Kd.own_blk (Kd.R_ne HO_8.out BK314.out (by decide))) | (show (Addr.add _ _).block ≠ _; rw [add_block]; exact Kd.own_blk (Kd.R_ne HO_8.out BK314.out (by decide))) | (dsimp only; exact Kd.own_blk (Kd.R_ne HO_8.out BK314.out (by decide)))) _).trans (hHeld.2.2.2.2.2.1)))))), ((cell_far (p := ⟨gb314, _, none⟩) (by first | exact Kd.own_blk (Kd.R_ne HO_8.out BK314.out (by decide)) | (rw [add_block]; exact Kd.own_blk (Kd.R_ne HO_8.out BK314.out (by decide))) | (show (Addr.add _ _).block ≠ _; rw [add_block]; exact Kd.own_blk (Kd.R_ne HO_8.out BK314.out (by decide))) | (dsimp only; exact Kd.own_blk (Kd.R_ne HO_8.out BK314.out (by decide)))) _).trans (((cell_far (p := ⟨gb314, _, none⟩) (by first | exact Kd.own_blk (Kd.R_ne HO_8.out BK314.out (by decide)) | (rw [add_block]; exact Kd.own_blk (Kd.R_ne HO_8.out BK314.out (by decide))) | (show (Addr.add _ _).block ≠ _; rw [add_block]; exact Kd.own_blk (Kd.R_ne HO_8.out BK314.out (by decide))) | (dsimp only; exact Kd.own_blk (Kd.R_ne HO_8.out BK314.out (by decide)))) _).trans (((cell_far (p := ⟨gb314, _, none⟩) (by first | exact Kd.own_blk (Kd.R_ne HO_8.out BK314.out (by decide)) | (rw [add_block]; exact Kd.own_blk (Kd.R_ne HO_8.out BK314.out (by decide))) | (show (Addr.add _ _).block ≠ _; rw [add_block]; exact Kd.own_blk (Kd.R_ne HO_8.out BK314.out (by decide))) | (dsimp only; exact Kd.own_blk (Kd.R_ne HO_8.out BK314.out (by decide)))) _).trans (hHeld.2.2.2.2.2.2))))))⟩ (fun hHeld => ?_)
                      clear hK K
                      refine done_ (done_of HT_.out (by kernel_rfl)) ?_
                      try go_wp2
                      have n0_ : Aside0 (Kd.R k108 108 (((w30.setCell ⟨gb314, 0, none⟩ (.slice Ao31 t307.length co31)).setCell ⟨gb314, 1, none⟩ (.int .i64 t310)).setCell ⟨gb314, 2, none⟩ (.slice Ao34 t311.length co34)) w.heap.size (fun _ => True) (.slice (some ad305) t301.length co26) t301) := ⟨by (with_reducible repeat (first | apply Kd.R_alloc | apply Kd.R_drewN | apply Kd.R_drew)); exact Kd.R_mono (Kd.R_far (p := ⟨gb314, 2, none⟩) (Kd.R_far (p := ⟨gb314, 1, none⟩) (Kd.R_far (p := ⟨gb314, 0, none⟩) (Kd.R_types HO_8.out BK314.out (by decide)) (fun _ hk => hk.2) (.slice Ao31 t307.length co31)) (fun _ hk => hk.2) (.int .i64 t310)) (fun _ hk => hk.2) (.slice Ao34 t311.length co34)) (fun _ hk => trivial)⟩
                      have n1_ : Aside0 (Kd.V (Kd.int .i64) 3 (((w30.setCell ⟨gb314, 0, none⟩ (.slice Ao31 t307.length co31)).setCell ⟨gb314, 1, none⟩ (.int .i64 t310)).setCell ⟨gb314, 2, none⟩ (.slice Ao34 t311.length co34)) w.heap.size (fun k_ => some k_ ≠ (.slice (some ad305) t301.length co26 : Value).ownBlock ∧ some k_ ≠ (.slice Ao34 t311.length co34 : Value).ownBlock ∧ k_ ≠ gb298 ∧ k_ ≠ gb314) (.slice Ao31 t307.length co31) t307) := ⟨by (with_reducible repeat (first | apply Kd.V_alloc | apply Kd.V_drewN | apply Kd.V_drew)); exact Kd.V_mono (Kd.V_far (p := ⟨gb314, 2, none⟩) (Kd.V_far (p := ⟨gb314, 1, none⟩) (Kd.V_far (p := ⟨gb314, 0, none⟩) (Kd.V_mono HO309.out (fun k_ hk => (⟨hk, hk.2.2.2⟩ : _ ∧ k_ ≠ gb314))) (fun _ hk => hk.2) (.slice Ao31 t307.length co31)) (fun _ hk => hk.2) (.int .i64 t310)) (fun _ hk => hk.2) (.slice Ao34 t311.length co34)) (fun _ hk => ⟨hk.1.2.1, ⟨hk.1.1, ⟨hk.1.2.2.1, hk.1.2.2.2⟩⟩⟩)⟩
                      have n2_ : Aside0 (Kd.R k61 61 (((w30.setCell ⟨gb314, 0, none⟩ (.slice Ao31 t307.length co31)).setCell ⟨gb314, 1, none⟩ (.int .i64 t310)).setCell ⟨gb314, 2, none⟩ (.slice Ao34 t311.length co34)) w.heap.size (fun _ => True) (.slice Ao34 t311.length co34) t311) := ⟨by (with_reducible repeat (first | apply Kd.R_alloc | apply Kd.R_drewN | apply Kd.R_drew)); exact Kd.R_mono (Kd.R_far (p := ⟨gb314, 2, none⟩) (Kd.R_far (p := ⟨gb314, 1, none⟩) (Kd.R_far (p := ⟨gb314, 0, none⟩) (Kd.R_types HO313.out BK314.out (by decide)) (fun _ hk => hk.2) (.slice Ao31 t307.length co31)) (fun _ hk => hk.2) (.int .i64 t310)) (fun _ hk => hk.2) (.slice Ao34 t311.length co34)) (fun _ hk => trivial)⟩
                      have n3_ : Aside0 ((((w30.setCell ⟨gb314, 0, none⟩ (.slice Ao31 t307.length co31)).setCell ⟨gb314, 1, none⟩ (.int .i64 t310)).setCell ⟨gb314, 2, none⟩ (.slice Ao34 t311.length co34)).heap[gb298]? = some (.cells #[.slice A0_0 l0_0.length c0_0, .int .i64 a0_1, .slice (some ad300) l0_2.length c0_2] 25 (0, 0))) := ⟨by (with_reducible repeat (first | refine blk_drewN ?_ _ | refine blk_drew ?_ | refine blk_alloc ?_ _)); refine blk_far ?_ NB298_314.out _; (with_reducible repeat (first | refine blk_drewN ?_ _ | refine blk_drew ?_ | refine blk_alloc ?_ _)); refine blk_far ?_ NB298_314.out _; (with_reducible repeat (first | refine blk_drewN ?_ _ | refine blk_drew ?_ | refine blk_alloc ?_ _)); refine blk_far ?_ NB298_314.out _; (with_reducible repeat (first | refine blk_drewN ?_ _ | refine blk_drew ?_ | refine blk_alloc ?_ _)); exact BK298.out⟩
                      have n4_ : Aside0 ((((w30.setCell ⟨gb314, 0, none⟩ (.slice Ao31 t307.length co31)).setCell ⟨gb314, 1, none⟩ (.int .i64 t310)).setCell ⟨gb314, 2, none⟩ (.slice Ao34 t311.length co34)).heap[gb314]? = some (.cells #[.slice Ao31 t307.length co31, .int .i64 t310, .slice Ao34 t311.length co34] 25 (0, 0))) := ⟨by (with_reducible repeat (first | refine blk_drewN ?_ _ | refine blk_drew ?_ | refine blk_alloc ?_ _)); refine blk_put (cs := #[.slice Ao31 t307.length co31, .int .i64 t310, .slice none 0 0]) ?_ 2 _ rfl; (with_reducible repeat (first | refine blk_drewN ?_ _ | refine blk_drew ?_ | refine blk_alloc ?_ _)); refine blk_put (cs := #[.slice Ao31 t307.length co31, .int .i64 0, .slice none 0 0]) ?_ 1 _ rfl; (with_reducible repeat (first | refine blk_drewN ?_ _ | refine blk_drew ?_ | refine blk_alloc ?_ _)); refine blk_put (cs := #[.slice none 0 0, .int .i64 0, .slice none 0 0]) ?_ 0 _ rfl; (with_reducible repeat (first | refine blk_drewN ?_ _ | refine blk_drew ?_ | refine blk_alloc ?_ _)); exact BK314.out⟩
                      have n5_ : Aside0 (Below w.heap.size w (((w30.setCell ⟨gb314, 0, none⟩ (.slice Ao31 t307.length co31)).setCell ⟨gb314, 1, none⟩ (.int .i64 t310)).setCell ⟨gb314, 2, none⟩ (.slice Ao34 t311.length co34))) := ⟨B_⟩
                      (try clear HO_8)
                      (try clear HO309)
                      (try clear HO313)
                      (try clear BK298)
                      (try clear BK314)
                      (try clear HB)
                      generalize (((w30.setCell ⟨gb314, 0, none⟩ (.slice Ao31 t307.length co31)).setCell ⟨gb314, 1, none⟩ (.int .i64 t310)).setCell ⟨gb314, 2, none⟩ (.slice Ao34 t311.length co34)) = w36 at n0_ n1_ n2_ n3_ n4_ n5_ ⊢
                      have HO_8 := n0_
                      have HO309 := n1_
                      have HO313 := n2_
                      have BK298 := n3_
                      have BK314 := n4_
                      have HB := n5_
                      clear n0_ n1_ n2_ n3_ n4_ n5_
                      have n0_ := Aside0.mk (Kd.R_drew HO_8.out)
                      have n1_ := Aside0.mk (Kd.V_drew HO309.out)
                      have n2_ := Aside0.mk (Kd.R_drew HO313.out)
                      have n3_ := Aside0.mk (blk_drew BK298.out)
                      have n4_ := Aside0.mk (blk_drew BK314.out)
                      have n5_ := Aside0.mk (below_drew1 HB.out)
                      clear HO_8
                      clear HO309
                      clear HO313
                      clear BK298
                      clear BK314
                      clear HB
                      have HO_8 := n0_
                      have HO309 := n1_
                      have HO313 := n2_
                      have BK298 := n3_
                      have BK314 := n4_
                      have HB := n5_
                      clear n0_ n1_ n2_ n3_ n4_ n5_
                      refine start_ (n := 8) (S := fun w' => w'.cell? ⟨gb314, 0, none⟩ = some (.slice Ao31 t307.length co31) ∧ w'.cell? ⟨gb314, 1, none⟩ = some (.int .i64 t310) ∧ w'.cell? ⟨gb314, 2, none⟩ = some (.slice Ao34 t311.length co34)) (ds := []) #[false, false, false, false, false, false, false, false] (by kernel_rfl) rfl rfl ⟨(blk_cell BK314.out 0).trans rfl, (blk_cell BK314.out 1).trans rfl, (blk_cell BK314.out 2).trans rfl⟩ (fun hHeld => ?_); refine with_tabW luciferref01_Ask.tab16 luciferref01_Ask.bits16 (fun HT_ HW_ => ?_)
                      generalize w36.drew = w37 at HO_8 HO309 HO313 BK298 BK314 HB hHeld ⊢
                      refine pure_ (i := 0) (N := some 56) (v := ?_) (a' := ?_) #[true, false, false, false, false, false, false, false] rfl rfl (any_of HT_.out (by kernel_rfl)) (fun _ _ _ h => h) (Or.inl ⟨by rfl, ?_⟩) ?_ ?_
                      rotate_left
                      · intro w'
                        go_simp
                        with_reducible rfl
                      rotate_left
                      · simp only [Act.put, List.setIfInBounds_toArray, List.set_cons_zero, List.set_cons_succ, i64_w, i32_w]
                        rfl
                      refine take_ (i := 1) (N := some 57) (v := ?_) (a' := ?_) #[true, true, false, false, false, false, false, false] rfl rfl (take_ofW HT_.out HW_.out (by kernel_rfl)) (fun _ _ _ h => h) (Or.inl ⟨by rfl, ?_⟩) hHeld ?_ ?_
                      rotate_left
                      · rintro w' ⟨s0, s1, s2⟩
                        go_simp
                        with_reducible rfl
                      rotate_left
                      · simp only [Act.put, List.setIfInBounds_toArray, List.set_cons_zero, List.set_cons_succ, i64_w, i32_w]
                        rfl
                      refine take_ (i := 2) (N := some 58) (v := ?_) (a' := ?_) #[true, true, true, false, false, false, false, false] rfl rfl (take_ofW HT_.out HW_.out (by kernel_rfl)) (fun _ _ _ h => h) (Or.inl ⟨by rfl, ?_⟩) hHeld ?_ ?_
                      rotate_left
                      · rintro w' ⟨s0, s1, s2⟩
                        go_simp
                        with_reducible rfl
                      rotate_left
                      · simp only [Act.put, List.setIfInBounds_toArray, List.set_cons_zero, List.set_cons_succ, i64_w, i32_w]
                        rfl
                      refine one_ (i := 3) (N := some 59) #[true, true, true, true, false, false, false, false] rfl rfl (one_of HT_.out (by kernel_rfl)) (by decide) (fun K hK => ?_)
                      refine goes_ Tryd.func76 (by kernel_rfl) rfl #[.agg #[.slice Ao31 t307.length co31, .int .i64 t310, .slice Ao34 t311.length co34]] (by rfl) rfl rfl (by (try simp only [List.map_toArray, List.map_cons, List.map_nil]); first | done | rfl | (simp only [List.length_drop, List.length_take]; rfl)) ?_
                      with_reducible refine (luciferref01_some.calls k2 _ _ t307 t310 _ _ t311 t315 _ ?side1 ?side2 ?side3 ?side4 A23.out).mono ?_
                      (case side1 => repeat (first | exact (Kd.V_reads' HO309.out).2.2 | (with_reducible refine Kd.C_alloc ?_ _) | (with_reducible refine Kd.C_drewN ?_ _) | (with_reducible refine Kd.C_drew ?_)))
                      (case side2 => exact (Kd.V_reads' HO309.out).2.1)
                      (case side3 => repeat (first | exact (Kd.R_reads' HO313.out).2.2 | (with_reducible refine Kd.C_alloc ?_ _) | (with_reducible refine Kd.C_drewN ?_ _) | (with_reducible refine Kd.C_drew ?_)))
                      (case side4 => exact (Kd.R_reads' HO313.out).2.1)
                      rintro e w38 ⟨v316, rfl, ho0, hb⟩
                      refine ⟨_, rfl, ?_⟩
                      have n0_ := Aside0.mk (Kd.R_below (R_ HO_8) hb)
                      have n1_ := Aside0.mk (Kd.V_elder' (by (with_reducible repeat (first | apply Kd.V_alloc | apply Kd.V_drewN | apply Kd.V_drew)); exact HO309.out) (Kd.R_base ho0) hb)
                      have n2_ := Aside0.mk (Kd.R_below (R_ HO313) hb)
                      have n3_ := Aside0.mk (Kd.R_lower ho0 (below_size (B_)))
                      have n4_ := Aside0.mk (blk_below (g := gb298) (o := .cells #[.slice A0_0 l0_0.length c0_0, .int .i64 a0_1, .slice (some ad300) l0_2.length c0_2] 25 (0, 0)) (K_ BK298) hb)
                      have n5_ := Aside0.mk (blk_below (g := gb314) (o := .cells #[.slice Ao31 t307.length co31, .int .i64 t310, .slice Ao34 t311.length co34] 25 (0, 0)) (K_ BK314) hb)
                      have n6_ := Aside0.mk (below_step (B_) hb)
                      clear HO_8
                      clear HO309
                      clear HO313
                      clear BK298
                      clear BK314
                      clear HB
                      have HO_8 := n0_
                      have HO309 := n1_
                      have HO313 := n2_
                      have HO317 := n3_
                      have BK298 := n4_
                      have BK314 := n5_
                      have HB := n6_
                      clear n0_ n1_ n2_ n3_ n4_ n5_ n6_
                      (try clear hb)
                      (try clear hb2)
                      (try clear hk)
                      (try clear hi)
                      (try clear ho0)
                      obtain ⟨Ao39, co39, eo39⟩ := Kd.R_slice HO317.out
                      (first | subst eo39 | (injection eo39 with f1_ f2_ f3_; have f4_ := f1_.symm; have f5_ := f3_.symm; clear f1_ f2_ f3_; subst f4_; subst f5_))
                      refine hK.out _ _ ⟨(blk_cell BK314.out 0).trans rfl, (blk_cell BK314.out 1).trans rfl, (blk_cell BK314.out 2).trans rfl⟩ (fun hHeld => ?_)
                      clear hK K
                      refine norm_ (a' := ?_) ?_ ?_
                      rotate_left
                      · show Act.put _ (some 59) _ = _
                        simp only [Act.put, List.setIfInBounds_toArray, List.set_cons_zero, List.set_cons_succ, i64_w, i32_w]
                        rfl
                      refine one_ (i := 4) (N := some 60) #[true, true, true, true, true, false, false, false] rfl rfl (one_of HT_.out (by kernel_rfl)) (by decide) (fun K hK => ?_)
                      refine goes_ Tryd.func80 (by kernel_rfl) rfl #[.agg #[.slice Ao31 t307.length co31, .int .i64 t310, .slice Ao34 t311.length co34], .slice Ao39 t315.length co39] (by rfl) rfl rfl (by (try simp only [List.map_toArray, List.map_cons, List.map_nil]); first | done | rfl | (simp only [List.length_drop, List.length_take]; rfl)) ?_
                      with_reducible refine (luciferref01_best.calls k2 _ _ t307 t310 _ _ t311 _ _ t315 t318 _ ?side1 ?side2 ?side3 ?side4 ?side5 ?side6 A24.out).mono ?_
                      (case side1 => repeat (first | exact (Kd.V_reads' HO309.out).2.2 | (with_reducible refine Kd.C_alloc ?_ _) | (with_reducible refine Kd.C_drewN ?_ _) | (with_reducible refine Kd.C_drew ?_)))
                      (case side2 => exact (Kd.V_reads' HO309.out).2.1)
                      (case side3 => repeat (first | exact (Kd.R_reads' HO313.out).2.2 | (with_reducible refine Kd.C_alloc ?_ _) | (with_reducible refine Kd.C_drewN ?_ _) | (with_reducible refine Kd.C_drew ?_)))
                      (case side4 => exact (Kd.R_reads' HO313.out).2.1)
                      (case side5 => repeat (first | exact (Kd.R_reads' HO317.out).2.2 | (with_reducible refine Kd.C_alloc ?_ _) | (with_reducible refine Kd.C_drewN ?_ _) | (with_reducible refine Kd.C_drew ?_)))
                      (case side6 => exact (Kd.R_reads' HO317.out).2.1)
                      rintro e w40 ⟨v319, rfl, ho0, hb⟩
                      refine ⟨_, rfl, ?_⟩
                      have n0_ := Aside0.mk (Kd.R_below (R_ HO_8) hb)
                      have n1_ := Aside0.mk (Kd.V_elder' (by (with_reducible repeat (first | apply Kd.V_alloc | apply Kd.V_drewN | apply Kd.V_drew)); exact HO309.out) (Kd.R_base ho0) hb)
                      have n2_ := Aside0.mk (Kd.R_below (R_ HO313) hb)
                      have n3_ := Aside0.mk (Kd.R_below (R_ HO317) hb)
                      have n4_ := Aside0.mk (Kd.R_lower ho0 (below_size (B_)))
                      have n5_ := Aside0.mk (blk_below (g := gb298) (o := .cells #[.slice A0_0 l0_0.length c0_0, .int .i64 a0_1, .slice (some ad300) l0_2.length c0_2] 25 (0, 0)) (K_ BK298) hb)
                      have n6_ := Aside0.mk (blk_below (g := gb314) (o := .cells #[.slice Ao31 t307.length co31, .int .i64 t310, .slice Ao34 t311.length co34] 25 (0, 0)) (K_ BK314) hb)
                      have n7_ := Aside0.mk (below_step (B_) hb)
                      clear HO_8
                      clear HO309
                      clear HO313
                      clear HO317
                      clear BK298
                      clear BK314
                      clear HB
                      have HO_8 := n0_
                      have HO309 := n1_
                      have HO313 := n2_
                      have HO317 := n3_
                      have HO320 := n4_
                      have BK298 := n5_
                      have BK314 := n6_
                      have HB := n7_
                      clear n0_ n1_ n2_ n3_ n4_ n5_ n6_ n7_
                      (try clear hb)
                      (try clear hb2)
                      (try clear hk)
                      (try clear hi)
                      (try clear ho0)
                      obtain ⟨Ao41, co41, eo41⟩ := Kd.R_slice HO320.out
                      (first | subst eo41 | (injection eo41 with f1_ f2_ f3_; have f4_ := f1_.symm; have f5_ := f3_.symm; clear f1_ f2_ f3_; subst f4_; subst f5_))
                      refine hK.out _ _ ⟨(blk_cell BK314.out 0).trans rfl, (blk_cell BK314.out 1).trans rfl, (blk_cell BK314.out 2).trans rfl⟩ (fun hHeld => ?_)
                      clear hK K
                      refine norm_ (a' := ?_) ?_ ?_
                      rotate_left
                      · show Act.put _ (some 60) _ = _
                        simp only [Act.put, List.setIfInBounds_toArray, List.set_cons_zero, List.set_cons_succ, i64_w, i32_w]
                        rfl
                      refine pure_ (i := 5) (N := some 61) (v := ?_) (a' := ?_) #[true, true, true, true, true, true, false, false] rfl rfl (any_of HT_.out (by kernel_rfl)) (fun _ _ _ h => h) (Or.inl ⟨by rfl, ?_⟩) ?_ ?_
                      rotate_left
                      · intro w'
                        go_simp
                        with_reducible rfl
                      rotate_left
                      · simp only [Act.put, List.setIfInBounds_toArray, List.set_cons_zero, List.set_cons_succ, i64_w, i32_w]
                        rfl
                      refine pure_ (i := 6) (N := some 62) (v := ?_) (a' := ?_) #[true, true, true, true, true, true, true, false] rfl rfl (any_of HT_.out (by kernel_rfl)) (fun _ _ _ h => h) (Or.inl ⟨by rfl, ?_⟩) ?_ ?_
                      rotate_left
                      · intro w'
                        go_simp
                        with_reducible rfl
                      rotate_left
                      · simp only [Act.put, List.setIfInBounds_toArray, List.set_cons_zero, List.set_cons_succ, i64_w, i32_w]
                        rfl
                      refine pure_ (i := 7) (N := some 9) (v := ?_) (a' := ?_) #[true, true, true, true, true, true, true, true] rfl rfl (any_of HT_.out (by kernel_rfl)) (fun _ _ _ h => h) (Or.inl ⟨by rfl, ?_⟩) ?_ ?_
                      rotate_left
                      · intro w'
                        go_simp
                        with_reducible rfl
                      rotate_left
                      · simp only [Act.put, List.setIfInBounds_toArray, List.set_cons_zero, List.set_cons_succ, i64_w, i32_w]
                        rfl
                      refine done_ (done_of HT_.out (by kernel_rfl)) ?_
                      try go_wp2
                      go_roundg k2
                      case measure => have := HK1.out; have := HK2.out; omega
                      case rel => exact ⟨(ji25), (wrap64 (x10_2 + 1)), (by first | rfl | (simp; done) | (simp only [← hji25] <;> (first | rfl | simp)) | (simp [*]; done)), S_, H', ⟨by have := HK1.out; have := HK2.out; omega⟩, ⟨R_ HO_8⟩, ⟨K_ BK298⟩, ⟨B_⟩⟩
                    · rw [if_neg c21] at H
                      exact absurd H (by simp)
                  · rw [if_neg c20] at H
                    have c20b0 : decide (x10_2 < (t301.length : Int)) = false := decide_eq_false c20
                    clear c20
                    by_cases c42 : x9_2 > x6_1
                    · rw [if_pos c42] at H
                      have c42b0 : decide (x6_1 < x9_2) = true := decide_eq_true c42
                      clear c42
                      have H' := Aside0.mk H
                      clear H
                      obtain ⟨Ao43, co43, eo43⟩ := Kd.R_slice HO_8.out
                      subst eo43
                      go_wp2
                      go_roundg k2
                      case measure => have := HK1.out; have := HK2.out; omega
                      case rel => exact ⟨(x7_1), (x9_2), (wrap64 (x7_1 + 1)), S_, S_, S_, H', ⟨by have := HK1.out; have := HK2.out; omega⟩, ⟨K_ BK298⟩, ⟨B_⟩⟩
                    · rw [if_neg c42] at H
                      have c42b0 : decide (x6_1 < x9_2) = false := decide_eq_false c42
                      clear c42
                      have H' := Aside0.mk H
                      clear H
                      obtain ⟨Ao44, co44, eo44⟩ := Kd.R_slice HO_8.out
                      subst eo44
                      go_wp2
                      go_roundg k2
                      case measure => have := HK1.out; have := HK2.out; omega
                      case rel => exact ⟨(x5_1), (x6_1), (wrap64 (x7_1 + 1)), S_, S_, S_, H', ⟨by have := HK1.out; have := HK2.out; omega⟩, ⟨K_ BK298⟩, ⟨B_⟩⟩
            · rw [if_neg c14] at H
              exact absurd H (by simp)
          · rw [if_neg c13] at H
            have c13b0 : decide (x7_1 < (l0_2.length : Int)) = false := decide_eq_false c13
            clear c13
            simp only [Option.some.injEq, Prod.mk.injEq] at H
            obtain ⟨rfl, rfl⟩ := H
            obtain ⟨hcz45_0, hcz45_1, hcz45_2, hfz45_0, hfz45_1, hfz45_2⟩ := cz3 BK298
            go_wp2
            go_ret2
            exact ⟨by first | rfl | (simp [errW_none, errW_some] <;> rfl) | (simp [*, errW_none, errW_some] <;> rfl), B_⟩
  · rw [if_neg c3] at H
    have c3b0 : (t299 == 0) = false := beq_eq_false_iff_ne.mpr c3
    have c3b1 : (t299 != 0) = true := bne_iff_ne.mpr c3
    simp only [Option.some.injEq, Prod.mk.injEq] at H
    obtain ⟨rfl, rfl⟩ := H
    go_enter Tryd.func38, Tryd.ntmps38
    go_wp2_with (first | ((with_reducible refine gate_dst (N := 1) rfl ?_); refine box_event ?hg (N := 1) ?hd (cs := #[.slice A0_0 l0_0.length c0_0, .int .i64 a0_1, .slice A0_2 l0_2.length c0_2]) (t := 25) ?hr ?_; (case hd => rfl); (case hg => rfl); (case hr => first | (go_simp; done) | (go_simp; rfl)); intro gb298 hg w46 hbox hb; have n0_ := Aside0.mk (below_step (B_) hb); have n1_ := Aside0.mk (hbox); have n2_ := Aside0.mk ((by rw [hg]; exact (below_size (B_)) : w.heap.size ≤ gb298)); have n3_ := Aside0.mk ((by rw [hg]; exact (below_size (B_)) : w.heap.size ≤ gb298)); clear HB; have HB := n0_; have BK298 := n1_; have GW298 := n2_; have GE298 := n3_; clear n0_ n1_ n2_ n3_; clear hb hbox hg; obtain ⟨hcz47_0, hcz47_1, hcz47_2, hfz47_0, hfz47_1, hfz47_2⟩ := cz3 BK298) | ((with_reducible refine gate_callee (f := 18) rfl ?_); refine goesL_ (some 13) rfl rfl Tryd.func18 (by kernel_rfl) rfl #[.agg #[.slice A0_0 l0_0.length c0_0, .int .i64 a0_1, .slice A0_2 l0_2.length c0_2]] rfl (by (try simp only [List.map_toArray, List.map_cons, List.map_nil]); first | done | rfl | (simp only [List.length_drop, List.length_take]; rfl)) ?_; (with_reducible refine (luciferref01_Check.calls k _ _ l0_0 a0_1 _ _ l0_2 t299 _ ?side1 ?side2 ?side3 ?side4 A2.out).mono ?_); (case side1 => exact C_ HR0_0); (case side2 => exact HC0_0.out); (case side3 => exact C_ HR0_2); (case side4 => exact HC0_2.out); rintro e w48 ⟨rfl, hb⟩; refine ⟨_, rfl, ?_⟩; have n0_ := Aside0.mk (blk_below (g := gb298) (o := .cells #[.slice A0_0 l0_0.length c0_0, .int .i64 a0_1, .slice A0_2 l0_2.length c0_2] 25 (0, 0)) (K_ BK298) hb); have n1_ := Aside0.mk (below_step (B_) hb); clear BK298; clear HB; have BK298 := n0_; have HB := n1_; clear n0_ n1_; (try clear hb); (try clear hb2); (try clear hk); (try clear hi)))
    go_ret2
    exact ⟨by first | rfl | (simp [errW_none, errW_some] <;> rfl) | (simp [*, errW_none, errW_some] <;> rfl), B_⟩

end Go.Proofs.YtigofgdmefobaaaDoor.PP
