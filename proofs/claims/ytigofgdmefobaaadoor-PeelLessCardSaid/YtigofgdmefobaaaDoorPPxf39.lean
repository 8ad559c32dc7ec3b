-- Printed by a program of this session (the kit's print over contracts of ours for functions that it does not take).
import Derived.Test.YtigofgdmefobaaaDoorGiven
import Derived.Test.YtigofgdmefobaaaDoorPPx0
import Derived.Test.YtigofgdmefobaaaDoorPPxf46
import Derived.Test.YtigofgdmefobaaaDoorPPxf61
namespace Go.Proofs.YtigofgdmefobaaaDoor.PP
open Go.RowKit Go.Proofs.YtigofgdmefobaaaDoorW.PrintWords Go.Proofs.YtigofgdmefobaaaDoorW.PrintLast Go.Proofs.YtigofgdmefobaaaDoorW.PrintMore
attribute [local go_sem] max2_int min2_int max_two min_two max_three min_three max_four min_four   -- for this text's walks alone
set_option linter.unusedVariables false
set_option linter.unusedSimpArgs false

/-! ### luciferlaw01_sound: function 39 -/
mutual
def luciferlaw01_sound.j0 : Nat → Bool → List Int → Int → List (S61) → Option (Bool)
  | 0, _, _, _, _ => none
  | k + 1, x3, x102000, x102001, x102002 => luciferlaw01_sound.l0 k x3 0 x102000 x102001 x102002
def luciferlaw01_sound.j2 : Nat → Bool → List Int → Int → List (S61) → Option (Bool)
  | 0, _, _, _, _ => none
  | k + 1, x3, x102000, x102001, x102002 => luciferlaw01_sound.l1 k x3 0 x102000 x102001 x102002
def luciferlaw01_sound.l1 : Nat → Bool → Int → List Int → Int → List (S61) → Option (Bool)
  | 0, _, _, _, _, _ => none
  | k + 1, x3, x5, x102000, x102001, x102002 => if x3 = true then (luciferlaw01_sound.j4 k x3 x5 (decide (x5 < (x102002.length : Int))) x102000 x102001 x102002) else (luciferlaw01_sound.j4 k x3 x5 false x102000 x102001 x102002)
def luciferlaw01_sound.j4 : Nat → Bool → Int → Bool → List Int → Int → List (S61) → Option (Bool)
  | 0, _, _, _, _, _, _ => none
  | k + 1, x3, x5, x50, x102000, x102001, x102002 => if x50 = true then (if 0 ≤ x5 then (if x5 < (x102002.length : Int) then ((luciferref00_Right.f ((rd_T61 x102002 x5).f0.f0) ((rd_T61 x102002 x5).f0.f1) 0 23).bind fun t109 => (if t109 = true then ((luciferref00_Right.f ((rd_T61 x102002 x5).f1.f0) ((rd_T61 x102002 x5).f1.f1) 0 (x102000.length : Int)).bind fun t110 => (if t110 = true then (if (wrap64 (((rd_T61 x102002 x5).f0.f1) - ((rd_T61 x102002 x5).f0.f0))) ≤ 3 then (luciferlaw01_sound.l1 k (decide ((wrap64 (((rd_T61 x102002 x5).f1.f1) - ((rd_T61 x102002 x5).f1.f0))) ≤ 1)) (wrap64 (x5 + 1)) x102000 x102001 x102002) else (luciferlaw01_sound.l1 k false (wrap64 (x5 + 1)) x102000 x102001 x102002)) else (luciferlaw01_sound.l1 k false (wrap64 (x5 + 1)) x102000 x102001 x102002))) else (luciferlaw01_sound.l1 k false (wrap64 (x5 + 1)) x102000 x102001 x102002))) else (none)) else (none)) else (some x3)
def luciferlaw01_sound.l0 : Nat → Bool → Int → List Int → Int → List (S61) → Option (Bool)
  | 0, _, _, _, _, _ => none
  | k + 1, x3, x4, x102000, x102001, x102002 => if x3 = true then (if x4 < (x102000.length : Int) then (if 0 ≤ x4 then ((luciferref00_Fits.f (rd x102000 x4) 1 12).bind fun t106 => (luciferlaw01_sound.l0 k t106 (wrap64 (x4 + 1)) x102000 x102001 x102002)) else (none)) else (luciferlaw01_sound.j2 k x3 x102000 x102001 x102002)) else (luciferlaw01_sound.j2 k x3 x102000 x102001 x102002)
end
def luciferlaw01_sound.f (k : Nat) (l0_0 : List Int) (a0_1 : Int) (l0_2 : List (S61)) : Option (Bool) := (peel_Check.f l0_0 a0_1 l0_2).bind fun t102 => (if t102 = 0 then ((luciferref00_Fits.f (l0_0.length : Int) 1 6).bind fun t103 => (if t103 = true then ((luciferref00_Fits.f a0_1 1 6).bind fun t104 => (if t104 = true then (luciferlaw01_sound.j0 k (decide ((l0_2.length : Int) ≤ 3)) l0_0 a0_1 l0_2) else (luciferlaw01_sound.j0 k false l0_0 a0_1 l0_2))) else (luciferlaw01_sound.j0 k false l0_0 a0_1 l0_2))) else (luciferlaw01_sound.j0 k false l0_0 a0_1 l0_2))
theorem luciferlaw01_sound.mono_l : ∀ k, (∀ y0 y1 y2 y3, LeO (luciferlaw01_sound.j0 k y0 y1 y2 y3) (luciferlaw01_sound.j0 (k + 1) y0 y1 y2 y3)) ∧ (∀ y0 y1 y2 y3, LeO (luciferlaw01_sound.j2 k y0 y1 y2 y3) (luciferlaw01_sound.j2 (k + 1) y0 y1 y2 y3)) ∧ (∀ y0 y1 y2 y3 y4, LeO (luciferlaw01_sound.l1 k y0 y1 y2 y3 y4) (luciferlaw01_sound.l1 (k + 1) y0 y1 y2 y3 y4)) ∧ (∀ y0 y1 y2 y3 y4 y5, LeO (luciferlaw01_sound.j4 k y0 y1 y2 y3 y4 y5) (luciferlaw01_sound.j4 (k + 1) y0 y1 y2 y3 y4 y5)) ∧ (∀ y0 y1 y2 y3 y4, LeO (luciferlaw01_sound.l0 k y0 y1 y2 y3 y4) (luciferlaw01_sound.l0 (k + 1) y0 y1 y2 y3 y4))
  | 0 => ⟨fun _ _ _ _ r h => by simp [luciferlaw01_sound.j0] at h, fun _ _ _ _ r h => by simp [luciferlaw01_sound.j2] at h, fun _ _ _ _ _ r h => by simp [luciferlaw01_sound.l1] at h, fun _ _ _ _ _ _ r h => by simp [luciferlaw01_sound.j4] at h, fun _ _ _ _ _ r h => by simp [luciferlaw01_sound.l0] at h⟩
  | k + 1 => by
    obtain ⟨ih0, ih1, ih2, ih3, ih4⟩ := luciferlaw01_sound.mono_l k
    refine ⟨?_, ?_, ?_, ?_, ?_⟩
    · intro y0 y1 y2 y3
      unfold luciferlaw01_sound.j0
      repeat' first
      | (with_reducible exact ih0 _ _ _ _)
      | (with_reducible exact ih1 _ _ _ _)
      | (with_reducible exact ih2 _ _ _ _ _)
      | (with_reducible exact ih3 _ _ _ _ _ _)
      | (with_reducible exact ih4 _ _ _ _ _)
      | (with_reducible exact LeO.refl _)
      | (with_reducible exact LeO.none _)
      | (with_reducible refine LeO.ite ?_ ?_)
      | (with_reducible refine LeO.bind ?_ (fun _ => ?_))
      | exact ih0 _ _ _ _
      | exact ih1 _ _ _ _
      | exact ih2 _ _ _ _ _
      | exact ih3 _ _ _ _ _ _
      | exact ih4 _ _ _ _ _
      | exact LeO.none _
      | refine LeO.ite ?_ ?_
      | refine LeO.bind ?_ (fun _ => ?_)
    · intro y0 y1 y2 y3
      unfold luciferlaw01_sound.j2
      repeat' first
      | (with_reducible exact ih0 _ _ _ _)
      | (with_reducible exact ih1 _ _ _ _)
      | (with_reducible exact ih2 _ _ _ _ _)
      | (with_reducible exact ih3 _ _ _ _ _ _)
      | (with_reducible exact ih4 _ _ _ _ _)
      | (with_reducible exact LeO.refl _)
      | (with_reducible exact LeO.none _)
      | (with_reducible refine LeO.ite ?_ ?_)
      | (with_reducible refine LeO.bind ?_ (fun _ => ?_))
      | exact ih0 _ _ _ _
      | exact ih1 _ _ _ _
      | exact ih2 _ _ _ _ _
      | exact ih3 _ _ _ _ _ _
      | exact ih4 _ _ _ _ _
      | exact LeO.none _
      | refine LeO.ite ?_ ?_
      | refine LeO.bind ?_ (fun _ => ?_)
    · intro y0 y1 y2 y3 y4
      unfold luciferlaw01_sound.l1
      repeat' first
      | (with_reducible exact ih0 _ _ _ _)
      | (with_reducible exact ih1 _ _ _ _)
      | (with_reducible exact ih2 _ _ _ _ _)
      | (with_reducible exact ih3 _ _ _ _ _ _)
      | (with_reducible exact ih4 _ _ _ _ _)
      | (with_reducible exact LeO.refl _)
      | (with_reducible exact LeO.none _)
      | (with_reducible refine LeO.ite ?_ ?_)
      | (with_reducible refine LeO.bind ?_ (fun _ => ?_))
      | exact ih0 _ _ _ _
      | exact ih1 _ _ _ _
      | exact ih2 _ _ _ _ _
      | exact ih3 _ _ _ _ _ _
      | exact ih4 _ _ _ _ _
      | exact LeO.none _
      | refine LeO.ite ?_ ?_
      | refine LeO.bind ?_ (fun _ => ?_)
    · intro y0 y1 y2 y3 y4 y5
      unfold luciferlaw01_sound.j4
      repeat' first
      | (with_reducible exact ih0 _ _ _ _)
      | (with_reducible exact ih1 _ _ _ _)
      | (with_reducible exact ih2 _ _ _ _ _)
      | (with_reducible exact ih3 _ _ _ _ _ _)
      | (with_reducible exact ih4 _ _ _ _ _)
      | (with_reducible exact LeO.refl _)
      | (with_reducible exact LeO.none _)
      | (with_reducible refine LeO.ite ?_ ?_)
      | (with_reducible refine LeO.bind ?_ (fun _ => ?_))
      | exact ih0 _ _ _ _
      | exact ih1 _ _ _ _
      | exact ih2 _ _ _ _ _
      | exact ih3 _ _ _ _ _ _
      | exact ih4 _ _ _ _ _
      | exact LeO.none _
      | refine LeO.ite ?_ ?_
      | refine LeO.bind ?_ (fun _ => ?_)
    · intro y0 y1 y2 y3 y4
      unfold luciferlaw01_sound.l0
      repeat' first
      | (with_reducible exact ih0 _ _ _ _)
      | (with_reducible exact ih1 _ _ _ _)
      | (with_reducible exact ih2 _ _ _ _ _)
      | (with_reducible exact ih3 _ _ _ _ _ _)
      | (with_reducible exact ih4 _ _ _ _ _)
      | (with_reducible exact LeO.refl _)
      | (with_reducible exact LeO.none _)
      | (with_reducible refine LeO.ite ?_ ?_)
      | (with_reducible refine LeO.bind ?_ (fun _ => ?_))
      | exact ih0 _ _ _ _
      | exact ih1 _ _ _ _
      | exact ih2 _ _ _ _ _
      | exact ih3 _ _ _ _ _ _
      | exact ih4 _ _ _ _ _
      | exact LeO.none _
      | refine LeO.ite ?_ ?_
      | refine LeO.bind ?_ (fun _ => ?_)
theorem luciferlaw01_sound.mono : ∀ a0 a1 a2 k, LeO (luciferlaw01_sound.f k a0 a1 a2) (luciferlaw01_sound.f (k + 1) a0 a1 a2) := by
  intro a0 a1 a2 k
  obtain ⟨ih0, ih1, ih2, ih3, ih4⟩ := luciferlaw01_sound.mono_l k
  unfold luciferlaw01_sound.f
  repeat' first
      | (with_reducible exact ih0 _ _ _ _)
      | (with_reducible exact ih1 _ _ _ _)
      | (with_reducible exact ih2 _ _ _ _ _)
      | (with_reducible exact ih3 _ _ _ _ _ _)
      | (with_reducible exact ih4 _ _ _ _ _)
      | (with_reducible exact LeO.refl _)
      | (with_reducible exact LeO.none _)
      | (with_reducible refine LeO.ite ?_ ?_)
      | (with_reducible refine LeO.bind ?_ (fun _ => ?_))
      | exact ih0 _ _ _ _
      | exact ih1 _ _ _ _
      | exact ih2 _ _ _ _ _
      | exact ih3 _ _ _ _ _ _
      | exact ih4 _ _ _ _ _
      | exact LeO.none _
      | refine LeO.ite ?_ ?_
      | refine LeO.bind ?_ (fun _ => ?_)
set_option maxHeartbeats 8000000 in
set_option maxRecDepth 100000 in
theorem luciferlaw01_sound.calls (k : Nat) (A0_0 : Option Addr) (c0_0 : Nat) (l0_0 : List Int) (a0_1 : Int) (A0_2 : Option Addr) (c0_2 : Nat) (l0_2 : List (S61)) (r : Bool) (w : World) (hr0_0 : Kd.C (Kd.int .i64) w A0_0 l0_0.length l0_0) (hc0_0 : l0_0.length ≤ c0_0) (hr0_2 : Kd.C k61 w A0_2 l0_2.length l0_2) (hc0_2 : l0_2.length ≤ c0_2) (h : luciferlaw01_sound.f k l0_0 a0_1 l0_2 = some r) :
    Calls Tryd.prog 39 #[.agg #[.slice A0_0 l0_0.length c0_0, .int .i64 a0_1, .slice A0_2 l0_2.length c0_2]] w fun e w' => e = .returned (.bool r) ∧ Below w.heap.size w w' := by
  have hu25 := Tryd.underlying25
  have hu61 := Tryd.underlying61
  have hu39 := Tryd.underlying39
  have HR0_0 := Aside0.mk hr0_0
  have HC0_0 := Aside0.mk hc0_0
  clear hr0_0 hc0_0
  have HR0_2 := Aside0.mk hr0_2
  have HC0_2 := Aside0.mk hc0_2
  clear hr0_2 hc0_2
  have HB := Aside0.mk (Below.refl w.heap.size w)
  have H : ((peel_Check.f l0_0 a0_1 l0_2).bind fun t102 => (if t102 = 0 then ((luciferref00_Fits.f (l0_0.length : Int) 1 6).bind fun t103 => (if t103 = true then ((luciferref00_Fits.f a0_1 1 6).bind fun t104 => (if t104 = true then (luciferlaw01_sound.j0 k (decide ((l0_2.length : Int) ≤ 3)) l0_0 a0_1 l0_2) else (luciferlaw01_sound.j0 k false l0_0 a0_1 l0_2))) else (luciferlaw01_sound.j0 k false l0_0 a0_1 l0_2))) else (luciferlaw01_sound.j0 k false l0_0 a0_1 l0_2))) = some r := h
  clear h
  have HC2 := Aside0.mk H
  clear H
  go_enter Tryd.func39, Tryd.ntmps39
  go_upto_region 1 with (first | ((with_reducible refine gate_dst (N := 1) rfl ?_); refine box_event ?hg (N := 1) ?hd (cs := #[.slice A0_0 l0_0.length c0_0, .int .i64 a0_1, .slice A0_2 l0_2.length c0_2]) (t := 25) ?hr ?_; (case hd => rfl); (case hg => rfl); (case hr => first | (go_simp; done) | (go_simp; rfl)); intro gb101 hg w3 hbox hb; have n0_ := Aside0.mk (below_step (B_) hb); have n1_ := Aside0.mk (hbox); have n2_ := Aside0.mk ((by rw [hg]; exact (below_size (B_)) : w.heap.size ≤ gb101)); have n3_ := Aside0.mk ((by rw [hg]; exact (below_size (B_)) : w.heap.size ≤ gb101)); clear HB; have HB := n0_; have BK101 := n1_; have GW101 := n2_; have GE101 := n3_; clear n0_ n1_ n2_ n3_; clear hb hbox hg))
  (try simp only [Act.put, List.setIfInBounds_toArray, List.set_cons_zero, List.set_cons_succ])
  go_cut [3] (fun v3 wc => ∃ (kq : Nat) (x3_1 : Bool), v3 = .bool x3_1 ∧ Aside0 (luciferlaw01_sound.j0 kq x3_1 l0_0 a0_1 l0_2 = some r) ∧ Aside0 (kq ≤ k) ∧ Aside0 (wc.heap[gb101]? = some (.cells #[(.slice A0_0 l0_0.length c0_0), .int .i64 a0_1, (.slice A0_2 l0_2.length c0_2)] 25 (0, 0))) ∧ Aside0 (Below w.heap.size w wc))
  case first =>
    have H := HC2.out
    clear HC2
    replace H := Option.bind_eq_some_iff.mp H
    obtain ⟨t102, A40, H⟩ := H
    replace H : (if t102 = 0 then ((luciferref00_Fits.f (l0_0.length : Int) 1 6).bind fun t103 => (if t103 = true then ((luciferref00_Fits.f a0_1 1 6).bind fun t104 => (if t104 = true then (luciferlaw01_sound.j0 k (decide ((l0_2.length : Int) ≤ 3)) l0_0 a0_1 l0_2) else (luciferlaw01_sound.j0 k false l0_0 a0_1 l0_2))) else (luciferlaw01_sound.j0 k false l0_0 a0_1 l0_2))) else (luciferlaw01_sound.j0 k false l0_0 a0_1 l0_2)) = some r := H
    have A4 := Aside0.mk A40
    clear A40
    by_cases c5 : t102 = 0
    · rw [if_pos c5] at H
      have c5b0 : (t102 == 0) = true := beq_iff_eq.mpr c5
      have c5b1 : (t102 != 0) = false := bne_eq_false_iff_eq.mpr c5
      clear c5
      (first | rw [c5b0] | (simp only [i64_w, i32_w]; rw [c5b0]) | skip)
      replace H := Option.bind_eq_some_iff.mp H
      obtain ⟨t103, A60, H⟩ := H
      replace H : (if t103 = true then ((luciferref00_Fits.f a0_1 1 6).bind fun t104 => (if t104 = true then (luciferlaw01_sound.j0 k (decide ((l0_2.length : Int) ≤ 3)) l0_0 a0_1 l0_2) else (luciferlaw01_sound.j0 k false l0_0 a0_1 l0_2))) else (luciferlaw01_sound.j0 k false l0_0 a0_1 l0_2)) = some r := H
      have A6 := Aside0.mk A60
      clear A60
      by_cases c7 : t103 = true
      · subst c7
        have H1 : ((luciferref00_Fits.f a0_1 1 6).bind fun t104 => (if t104 = true then (luciferlaw01_sound.j0 k (decide ((l0_2.length : Int) ≤ 3)) l0_0 a0_1 l0_2) else (luciferlaw01_sound.j0 k false l0_0 a0_1 l0_2))) = some r := by rw [if_pos rfl] at H; exact H
        clear H
        have H := H1
        clear H1
        replace H := Option.bind_eq_some_iff.mp H
        obtain ⟨t104, A80, H⟩ := H
        replace H : (if t104 = true then (luciferlaw01_sound.j0 k (decide ((l0_2.length : Int) ≤ 3)) l0_0 a0_1 l0_2) else (luciferlaw01_sound.j0 k false l0_0 a0_1 l0_2)) = some r := H
        have A8 := Aside0.mk A80
        clear A80
        by_cases c9 : t104 = true
        · subst c9
          have H1 : (luciferlaw01_sound.j0 k (decide ((l0_2.length : Int) ≤ 3)) l0_0 a0_1 l0_2) = some r := by rw [if_pos rfl] at H; exact H
          clear H
          have H := H1
          clear H1
          have H' := Aside0.mk H
          clear H
          obtain ⟨hcz10_0, hcz10_1, hcz10_2, hfz10_0, hfz10_1, hfz10_2⟩ := cz3 BK101
          go_wp2_with (first | ((with_reducible refine gate_callee (f := 17) rfl ?_); refine goesL_ (some 8) rfl rfl Tryd.func17 (by kernel_rfl) rfl #[.agg #[.slice A0_0 l0_0.length c0_0, .int .i64 a0_1, .slice A0_2 l0_2.length c0_2]] rfl (by (try simp only [List.map_toArray, List.map_cons, List.map_nil]); first | done | rfl | (simp only [List.length_drop, List.length_take]; rfl)) ?_; (with_reducible refine (peel_Check.calls _ _ l0_0 a0_1 _ _ l0_2 t102 _ ?side1 ?side2 ?side3 ?side4 A4.out).mono ?_); (case side1 => exact C_ HR0_0); (case side2 => exact HC0_0.out); (case side3 => exact C_ HR0_2); (case side4 => exact HC0_2.out); rintro e w11 ⟨rfl, hb⟩; refine ⟨_, rfl, ?_⟩; have n0_ := Aside0.mk (blk_below (g := gb101) (o := .cells #[.slice A0_0 l0_0.length c0_0, .int .i64 a0_1, .slice A0_2 l0_2.length c0_2] 25 (0, 0)) (K_ BK101) hb); have n1_ := Aside0.mk (below_step (B_) hb); clear BK101; clear HB; have BK101 := n0_; have HB := n1_; clear n0_ n1_; (try clear hb); (try clear hb2); (try clear hk); (try clear hi); obtain ⟨hcz12_0, hcz12_1, hcz12_2, hfz12_0, hfz12_1, hfz12_2⟩ := cz3 BK101) | (go_at_call 46; (with_reducible refine (luciferref00_Fits.calls (l0_0.length : Int) 1 6 true _ A6.out).mono ?_); rintro e w' ⟨rfl, ⟨nd, rfl⟩⟩) | (go_at_call 46; (with_reducible refine (luciferref00_Fits.calls a0_1 1 6 true _ A8.out).mono ?_); rintro e w' ⟨rfl, ⟨nd, rfl⟩⟩))
          go_meet
          case rel => exact ⟨_, (decide ((l0_2.length : Int) ≤ 3)), S_, H', ⟨by first | omega | exact Nat.le_refl _⟩, ⟨K_ BK101⟩, ⟨B_⟩⟩
        · replace c9 := Bool.eq_false_iff.mpr c9
          subst c9
          have H1 : (luciferlaw01_sound.j0 k false l0_0 a0_1 l0_2) = some r := by rw [if_neg (show ¬ (false = true) by decide)] at H; exact H
          clear H
          have H := H1
          clear H1
          have H' := Aside0.mk H
          clear H
          obtain ⟨hcz13_0, hcz13_1, hcz13_2, hfz13_0, hfz13_1, hfz13_2⟩ := cz3 BK101
          go_wp2_with (first | ((with_reducible refine gate_callee (f := 17) rfl ?_); refine goesL_ (some 8) rfl rfl Tryd.func17 (by kernel_rfl) rfl #[.agg #[.slice A0_0 l0_0.length c0_0, .int .i64 a0_1, .slice A0_2 l0_2.length c0_2]] rfl (by (try simp only [List.map_toArray, List.map_cons, List.map_nil]); first | done | rfl | (simp only [List.length_drop, List.length_take]; rfl)) ?_; (with_reducible refine (peel_Check.calls _ _ l0_0 a0_1 _ _ l0_2 t102 _ ?side1 ?side2 ?side3 ?side4 A4.out).mono ?_); (case side1 => exact C_ HR0_0); (case side2 => exact HC0_0.out); (case side3 => exact C_ HR0_2); (case side4 => exact HC0_2.out); rintro e w14 ⟨rfl, hb⟩; refine ⟨_, rfl, ?_⟩; have n0_ := Aside0.mk (blk_below (g := gb101) (o := .cells #[.slice A0_0 l0_0.length c0_0, .int .i64 a0_1, .slice A0_2 l0_2.length c0_2] 25 (0, 0)) (K_ BK101) hb); have n1_ := Aside0.mk (below_step (B_) hb); clear BK101; clear HB; have BK101 := n0_; have HB := n1_; clear n0_ n1_; (try clear hb); (try clear hb2); (try clear hk); (try clear hi); obtain ⟨hcz15_0, hcz15_1, hcz15_2, hfz15_0, hfz15_1, hfz15_2⟩ := cz3 BK101) | (go_at_call 46; (with_reducible refine (luciferref00_Fits.calls (l0_0.length : Int) 1 6 true _ A6.out).mono ?_); rintro e w' ⟨rfl, ⟨nd, rfl⟩⟩) | (go_at_call 46; (with_reducible refine (luciferref00_Fits.calls a0_1 1 6 false _ A8.out).mono ?_); rintro e w' ⟨rfl, ⟨nd, rfl⟩⟩))
          go_meet
          case rel => exact ⟨_, (false), S_, H', ⟨by first | omega | exact Nat.le_refl _⟩, ⟨K_ BK101⟩, ⟨B_⟩⟩
      · replace c7 := Bool.eq_false_iff.mpr c7
        subst c7
        have H1 : (luciferlaw01_sound.j0 k false l0_0 a0_1 l0_2) = some r := by rw [if_neg (show ¬ (false = true) by decide)] at H; exact H
        clear H
        have H := H1
        clear H1
        have H' := Aside0.mk H
        clear H
        obtain ⟨hcz16_0, hcz16_1, hcz16_2, hfz16_0, hfz16_1, hfz16_2⟩ := cz3 BK101
        go_wp2_with (first | ((with_reducible refine gate_callee (f := 17) rfl ?_); refine goesL_ (some 8) rfl rfl Tryd.func17 (by kernel_rfl) rfl #[.agg #[.slice A0_0 l0_0.length c0_0, .int .i64 a0_1, .slice A0_2 l0_2.length c0_2]] rfl (by (try simp only [List.map_toArray, List.map_cons, List.map_nil]); first | done | rfl | (simp only [List.length_drop, List.length_take]; rfl)) ?_; (with_reducible refine (peel_Check.calls _ _ l0_0 a0_1 _ _ l0_2 t102 _ ?side1 ?side2 ?side3 ?side4 A4.out).mono ?_); (case side1 => exact C_ HR0_0); (case side2 => exact HC0_0.out); (case side3 => exact C_ HR0_2); (case side4 => exact HC0_2.out); rintro e w17 ⟨rfl, hb⟩; refine ⟨_, rfl, ?_⟩; have n0_ := Aside0.mk (blk_below (g := gb101) (o := .cells #[.slice A0_0 l0_0.length c0_0, .int .i64 a0_1, .slice A0_2 l0_2.length c0_2] 25 (0, 0)) (K_ BK101) hb); have n1_ := Aside0.mk (below_step (B_) hb); clear BK101; clear HB; have BK101 := n0_; have HB := n1_; clear n0_ n1_; (try clear hb); (try clear hb2); (try clear hk); (try clear hi); obtain ⟨hcz18_0, hcz18_1, hcz18_2, hfz18_0, hfz18_1, hfz18_2⟩ := cz3 BK101) | (go_at_call 46; (with_reducible refine (luciferref00_Fits.calls (l0_0.length : Int) 1 6 false _ A6.out).mono ?_); rintro e w' ⟨rfl, ⟨nd, rfl⟩⟩))
        go_meet
        case rel => exact ⟨_, (false), S_, H', ⟨by first | omega | exact Nat.le_refl _⟩, ⟨K_ BK101⟩, ⟨B_⟩⟩
    · rw [if_neg c5] at H
      have c5b0 : (t102 == 0) = false := beq_eq_false_iff_ne.mpr c5
      have c5b1 : (t102 != 0) = true := bne_iff_ne.mpr c5
      (first | rw [c5b0] | (simp only [i64_w, i32_w]; rw [c5b0]) | skip)
      have H' := Aside0.mk H
      clear H
      obtain ⟨hcz19_0, hcz19_1, hcz19_2, hfz19_0, hfz19_1, hfz19_2⟩ := cz3 BK101
      go_wp2_with (first | ((with_reducible refine gate_callee (f := 17) rfl ?_); refine goesL_ (some 8) rfl rfl Tryd.func17 (by kernel_rfl) rfl #[.agg #[.slice A0_0 l0_0.length c0_0, .int .i64 a0_1, .slice A0_2 l0_2.length c0_2]] rfl (by (try simp only [List.map_toArray, List.map_cons, List.map_nil]); first | done | rfl | (simp only [List.length_drop, List.length_take]; rfl)) ?_; (with_reducible refine (peel_Check.calls _ _ l0_0 a0_1 _ _ l0_2 t102 _ ?side1 ?side2 ?side3 ?side4 A4.out).mono ?_); (case side1 => exact C_ HR0_0); (case side2 => exact HC0_0.out); (case side3 => exact C_ HR0_2); (case side4 => exact HC0_2.out); rintro e w20 ⟨rfl, hb⟩; refine ⟨_, rfl, ?_⟩; have n0_ := Aside0.mk (blk_below (g := gb101) (o := .cells #[.slice A0_0 l0_0.length c0_0, .int .i64 a0_1, .slice A0_2 l0_2.length c0_2] 25 (0, 0)) (K_ BK101) hb); have n1_ := Aside0.mk (below_step (B_) hb); clear BK101; clear HB; have BK101 := n0_; have HB := n1_; clear n0_ n1_; (try clear hb); (try clear hb2); (try clear hk); (try clear hi)))
      go_meet
      case rel => exact ⟨_, (false), S_, H', ⟨by first | omega | exact Nat.le_refl _⟩, ⟨K_ BK101⟩, ⟨B_⟩⟩
  case rest =>
    clear HC2
    try clear c1; try clear p2; try clear c3; try clear c5; try clear c5b0; try clear c5b1; try clear c7; try clear c9; try clear c17; try clear hcz10_0; try clear hcz10_1; try clear hcz10_2; try clear hcz12_0; try clear hcz12_1; try clear hcz12_2; try clear hcz13_0; try clear hcz13_1; try clear hcz13_2; try clear hcz15_0; try clear hcz15_1; try clear hcz15_2; try clear hcz16_0; try clear hcz16_1; try clear hcz16_2; try clear hcz18_0; try clear hcz18_1; try clear hcz18_2; try clear hcz19_0; try clear hcz19_1; try clear hcz19_2; try clear hfz10_0; try clear hfz10_1; try clear hfz10_2; try clear hfz12_0; try clear hfz12_1; try clear hfz12_2; try clear hfz13_0; try clear hfz13_1; try clear hfz13_2; try clear hfz15_0; try clear hfz15_1; try clear hfz15_2; try clear hfz16_0; try clear hfz16_1; try clear hfz16_2; try clear hfz18_0; try clear hfz18_1; try clear hfz18_2; try clear hfz19_0; try clear hfz19_1; try clear hfz19_2
    obtain ⟨kq, x3_1, rfl, HA, HJ1, BK101, HB⟩ := hcut
    cases kq with
    | zero => exact absurd HA.out (by simp [luciferlaw01_sound.j0])
    | succ kj1 =>
      have H := HA.out
      clear HA
      simp only [luciferlaw01_sound.j0] at H
      have HC21 := Aside0.mk H
      clear H
      go_upto_block 0 with (fail)
      go_cut [3] (fun v3 wc => ∃ (kq : Nat) (x3_20 : Bool), v3 = .bool x3_20 ∧ Aside0 (luciferlaw01_sound.j2 kq x3_20 l0_0 a0_1 l0_2 = some r) ∧ Aside0 (kq ≤ kj1) ∧ Aside0 (wc.heap[gb101]? = some (.cells #[(.slice A0_0 l0_0.length c0_0), .int .i64 a0_1, (.slice A0_2 l0_2.length c0_2)] 25 (0, 0))) ∧ Aside0 (Below w.heap.size w wc))
      case first =>
        have H := HC21.out
        clear HC21
        have H' := Aside0.mk H
        clear H
        go_wp2
        go_loopg [3, 4] kj1 (fun kq v3 v4 w' => ∃ (x3_2 : Bool) (x4_2 : Int), v3 = .bool x3_2 ∧ v4 = .int .i64 x4_2 ∧ Aside0 (luciferlaw01_sound.l0 kq x3_2 x4_2 l0_0 a0_1 l0_2 = some r) ∧ Aside0 (kq ≤ kj1) ∧ Aside0 (w'.heap[gb101]? = some (.cells #[(.slice A0_0 l0_0.length c0_0), .int .i64 a0_1, (.slice A0_2 l0_2.length c0_2)] 25 (0, 0))) ∧ Aside0 (Below w.heap.size w w'))
        case atStart => exact ⟨(x3_1), (0), S_, S_, H', ⟨Nat.le_refl _⟩, ⟨K_ BK101⟩, ⟨B_⟩⟩
        case round =>
          clear H'
          try clear c1; try clear p2; try clear c3; try clear c5; try clear c5b0; try clear c5b1; try clear c7; try clear c9; try clear c17; try clear hcz10_0; try clear hcz10_1; try clear hcz10_2; try clear hcz12_0; try clear hcz12_1; try clear hcz12_2; try clear hcz13_0; try clear hcz13_1; try clear hcz13_2; try clear hcz15_0; try clear hcz15_1; try clear hcz15_2; try clear hcz16_0; try clear hcz16_1; try clear hcz16_2; try clear hcz18_0; try clear hcz18_1; try clear hcz18_2; try clear hcz19_0; try clear hcz19_1; try clear hcz19_2; try clear hfz10_0; try clear hfz10_1; try clear hfz10_2; try clear hfz12_0; try clear hfz12_1; try clear hfz12_2; try clear hfz13_0; try clear hfz13_1; try clear hfz13_2; try clear hfz15_0; try clear hfz15_1; try clear hfz15_2; try clear hfz16_0; try clear hfz16_1; try clear hfz16_2; try clear hfz18_0; try clear hfz18_1; try clear hfz18_2; try clear hfz19_0; try clear hfz19_1; try clear hfz19_2; try clear p2
          obtain ⟨x3_2, x4_2, rfl, rfl, HA, HK2, BK101, HB⟩ := hrel
          cases gk with
          | zero => exact absurd HA.out (by simp [luciferlaw01_sound.l0])
          | succ k2 =>
            have H := HA.out
            clear HA
            simp only [luciferlaw01_sound.l0] at H
            by_cases c22 : x3_2 = true
            · subst c22
              have H1 : (if x4_2 < (l0_0.length : Int) then (if 0 ≤ x4_2 then ((luciferref00_Fits.f (rd l0_0 x4_2) 1 12).bind fun t106 => (luciferlaw01_sound.l0 k2 t106 (wrap64 (x4_2 + 1)) l0_0 a0_1 l0_2)) else (none)) else (luciferlaw01_sound.j2 k2 true l0_0 a0_1 l0_2)) = some r := by rw [if_pos rfl] at H; exact H
              clear H
              have H := H1
              clear H1
              by_cases c23 : x4_2 < (l0_0.length : Int)
              · rw [if_pos c23] at H
                have c23b0 : decide (x4_2 < (l0_0.length : Int)) = true := decide_eq_true c23
                clear c23
                (first | rw [c23b0] | (simp only [i64_w, i32_w]; rw [c23b0]) | skip)
                by_cases c24 : 0 ≤ x4_2
                · rw [if_pos c24] at H
                  have c24b0 : decide (0 ≤ x4_2) = true := decide_eq_true c24
                  clear c24
                  replace H := Option.bind_eq_some_iff.mp H
                  obtain ⟨t106, A250, H⟩ := H
                  replace H : (luciferlaw01_sound.l0 k2 t106 (wrap64 (x4_2 + 1)) l0_0 a0_1 l0_2) = some r := H
                  have A25 := Aside0.mk A250
                  clear A250
                  have H' := Aside0.mk H
                  clear H
                  obtain ⟨hcz26_0, hcz26_1, hcz26_2, hfz26_0, hfz26_1, hfz26_2⟩ := cz3 BK101
                  have p105 : 0 ≤ (x4_2 : Int) := of_decide_eq_true D_
                  have q105 : x4_2 < (l0_0.length : Int) := of_decide_eq_true D_
                  obtain ⟨ad105, e105, hx105_0⟩ := Kd.at_int HR0_0.out x4_2 p105 q105
                  cases e105
                  replace hx105_0 := (HB.out.cell (World.block_lt_of_cell? w _ hx105_0)).trans hx105_0
                  replace p105 := eq_true p105
                  replace q105 := eq_true q105
                  go_wp2_with (first | ((with_reducible refine gate_callee (f := 46) rfl ?_); refine goesL_ (some 42) rfl rfl Tryd.func46 (by kernel_rfl) rfl #[.int .i64 (rd l0_0 x4_2), .int .i64 1, .int .i64 12] rfl (by (try simp only [List.map_toArray, List.map_cons, List.map_nil]); first | done | rfl | (simp only [List.length_drop, List.length_take]; rfl)) ?_; (with_reducible refine (luciferref00_Fits.calls (rd l0_0 x4_2) 1 12 t106 _ A25.out).mono ?_); rintro e w' ⟨rfl, ⟨nd, rfl⟩⟩; refine ⟨_, rfl, ?_⟩))
                  go_roundg k2
                  case measure => have := HJ1.out; have := HK2.out; omega
                  case rel => exact ⟨(t106), (wrap64 (x4_2 + 1)), S_, S_, H', ⟨by have := HJ1.out; have := HK2.out; omega⟩, ⟨K_ BK101⟩, ⟨B_⟩⟩
                · rw [if_neg c24] at H
                  exact absurd H (by simp)
              · rw [if_neg c23] at H
                have c23b0 : decide (x4_2 < (l0_0.length : Int)) = false := decide_eq_false c23
                clear c23
                (first | rw [c23b0] | (simp only [i64_w, i32_w]; rw [c23b0]) | skip)
                have H' := Aside0.mk H
                clear H
                obtain ⟨hcz27_0, hcz27_1, hcz27_2, hfz27_0, hfz27_1, hfz27_2⟩ := cz3 BK101
                go_wp2
                go_meet
                case rel => exact ⟨_, (true), S_, H', ⟨by have := HJ1.out; have := HK2.out; first | omega | exact Nat.le_refl _⟩, ⟨K_ BK101⟩, ⟨B_⟩⟩
            · replace c22 := Bool.eq_false_iff.mpr c22
              subst c22
              have H1 : (luciferlaw01_sound.j2 k2 false l0_0 a0_1 l0_2) = some r := by rw [if_neg (show ¬ (false = true) by decide)] at H; exact H
              clear H
              have H := H1
              clear H1
              have H' := Aside0.mk H
              clear H
              go_wp2
              go_meet
              case rel => exact ⟨_, (false), S_, H', ⟨by have := HJ1.out; have := HK2.out; first | omega | exact Nat.le_refl _⟩, ⟨K_ BK101⟩, ⟨B_⟩⟩
      case rest =>
        clear HC21
        try clear c1; try clear p1; try clear q1; try clear hx1; try clear c2; try clear p2; try clear c3; try clear c4; try clear c5; try clear c5b0; try clear c5b1; try clear p6; try clear c7; try clear c9; try clear p10; try clear q10; try clear hx10; try clear c17; try clear c22; try clear c23; try clear c23b0; try clear c24; try clear c24b0; try clear hcz10_0; try clear hcz10_1; try clear hcz10_2; try clear hcz12_0; try clear hcz12_1; try clear hcz12_2; try clear hcz13_0; try clear hcz13_1; try clear hcz13_2; try clear hcz15_0; try clear hcz15_1; try clear hcz15_2; try clear hcz16_0; try clear hcz16_1; try clear hcz16_2; try clear hcz18_0; try clear hcz18_1; try clear hcz18_2; try clear hcz19_0; try clear hcz19_1; try clear hcz19_2; try clear hcz26_0; try clear hcz26_1; try clear hcz26_2; try clear hcz27_0; try clear hcz27_1; try clear hcz27_2; try clear hfz10_0; try clear hfz10_1; try clear hfz10_2; try clear hfz12_0; try clear hfz12_1; try clear hfz12_2; try clear hfz13_0; try clear hfz13_1; try clear hfz13_2; try clear hfz15_0; try clear hfz15_1; try clear hfz15_2; try clear hfz16_0; try clear hfz16_1; try clear hfz16_2; try clear hfz18_0; try clear hfz18_1; try clear hfz18_2; try clear hfz19_0; try clear hfz19_1; try clear hfz19_2; try clear hfz26_0; try clear hfz26_1; try clear hfz26_2; try clear hfz27_0; try clear hfz27_1; try clear hfz27_2; try clear hx105_0; try clear p105; try clear p2; try clear q105
        obtain ⟨kq, x3_20, rfl, HA, HJ20, BK101, HB⟩ := hcut
        cases kq with
        | zero => exact absurd HA.out (by simp [luciferlaw01_sound.j2])
        | succ kj20 =>
          have H := HA.out
          clear HA
          simp only [luciferlaw01_sound.j2] at H
          have H' := Aside0.mk H
          clear H
          go_wp2
          go_loopg [3, 5] kj20 (fun kq v3 v5 w' => ∃ (x3_3 : Bool) (x5_3 : Int), v3 = .bool x3_3 ∧ v5 = .int .i64 x5_3 ∧ Aside0 (luciferlaw01_sound.l1 kq x3_3 x5_3 l0_0 a0_1 l0_2 = some r) ∧ Aside0 (kq ≤ kj20) ∧ Aside0 (w'.heap[gb101]? = some (.cells #[(.slice A0_0 l0_0.length c0_0), .int .i64 a0_1, (.slice A0_2 l0_2.length c0_2)] 25 (0, 0))) ∧ Aside0 (Below w.heap.size w w'))
          case atStart => exact ⟨(x3_20), (0), S_, S_, H', ⟨Nat.le_refl _⟩, ⟨K_ BK101⟩, ⟨B_⟩⟩
          case round =>
            clear H'
            try clear c1; try clear p1; try clear q1; try clear hx1; try clear c2; try clear p2; try clear c3; try clear c4; try clear c5; try clear c5b0; try clear c5b1; try clear p6; try clear c7; try clear c9; try clear p10; try clear q10; try clear hx10; try clear c17; try clear c22; try clear c23; try clear c23b0; try clear c24; try clear c24b0; try clear hcz10_0; try clear hcz10_1; try clear hcz10_2; try clear hcz12_0; try clear hcz12_1; try clear hcz12_2; try clear hcz13_0; try clear hcz13_1; try clear hcz13_2; try clear hcz15_0; try clear hcz15_1; try clear hcz15_2; try clear hcz16_0; try clear hcz16_1; try clear hcz16_2; try clear hcz18_0; try clear hcz18_1; try clear hcz18_2; try clear hcz19_0; try clear hcz19_1; try clear hcz19_2; try clear hcz26_0; try clear hcz26_1; try clear hcz26_2; try clear hcz27_0; try clear hcz27_1; try clear hcz27_2; try clear hfz10_0; try clear hfz10_1; try clear hfz10_2; try clear hfz12_0; try clear hfz12_1; try clear hfz12_2; try clear hfz13_0; try clear hfz13_1; try clear hfz13_2; try clear hfz15_0; try clear hfz15_1; try clear hfz15_2; try clear hfz16_0; try clear hfz16_1; try clear hfz16_2; try clear hfz18_0; try clear hfz18_1; try clear hfz18_2; try clear hfz19_0; try clear hfz19_1; try clear hfz19_2; try clear hfz26_0; try clear hfz26_1; try clear hfz26_2; try clear hfz27_0; try clear hfz27_1; try clear hfz27_2; try clear hx105_0; try clear p1; try clear p10; try clear p105; try clear p2; try clear p6; try clear q1; try clear q10; try clear q105
            obtain ⟨x3_3, x5_3, rfl, rfl, HA, HK3, BK101, HB⟩ := hrel
            cases gk with
            | zero => exact absurd HA.out (by simp [luciferlaw01_sound.l1])
            | succ k3 =>
              have H := HA.out
              clear HA
              simp only [luciferlaw01_sound.l1] at H
              have HC28 := Aside0.mk H
              clear H
              go_upto_region 7 with (fail)
              go_cut [50] (fun v50 wc => ∃ (kq : Nat) (x50_27 : Bool), v50 = .bool x50_27 ∧ Aside0 (luciferlaw01_sound.j4 kq x3_3 x5_3 x50_27 l0_0 a0_1 l0_2 = some r) ∧ Aside0 (kq ≤ k3) ∧ Aside0 (wc.heap[gb101]? = some (.cells #[(.slice A0_0 l0_0.length c0_0), .int .i64 a0_1, (.slice A0_2 l0_2.length c0_2)] 25 (0, 0))) ∧ Aside0 (Below w.heap.size w wc))
              case first =>
                have H := HC28.out
                clear HC28
                by_cases c29 : x3_3 = true
                · subst c29
                  have H1 : (luciferlaw01_sound.j4 k3 true x5_3 (decide (x5_3 < (l0_2.length : Int))) l0_0 a0_1 l0_2) = some r := by rw [if_pos rfl] at H; exact H
                  clear H
                  have H := H1
                  clear H1
                  have H' := Aside0.mk H
                  clear H
                  obtain ⟨hcz30_0, hcz30_1, hcz30_2, hfz30_0, hfz30_1, hfz30_2⟩ := cz3 BK101
                  go_wp2
                  go_meet
                  case rel => exact ⟨_, (decide (x5_3 < (l0_2.length : Int))), S_, H', ⟨by have := HJ1.out; have := HJ20.out; have := HK3.out; first | omega | exact Nat.le_refl _⟩, ⟨K_ BK101⟩, ⟨B_⟩⟩
                · replace c29 := Bool.eq_false_iff.mpr c29
                  subst c29
                  have H1 : (luciferlaw01_sound.j4 k3 false x5_3 false l0_0 a0_1 l0_2) = some r := by rw [if_neg (show ¬ (false = true) by decide)] at H; exact H
                  clear H
                  have H := H1
                  clear H1
                  have H' := Aside0.mk H
                  clear H
                  go_wp2
                  go_meet
                  case rel => exact ⟨_, (false), S_, H', ⟨by have := HJ1.out; have := HJ20.out; have := HK3.out; first | omega | exact Nat.le_refl _⟩, ⟨K_ BK101⟩, ⟨B_⟩⟩
              case rest =>
                clear HC28
                try clear c1; try clear p1; try clear q1; try clear hx1; try clear c2; try clear p2; try clear c3; try clear c4; try clear c5; try clear c5b0; try clear c5b1; try clear p6; try clear c7; try clear c9; try clear p10; try clear q10; try clear hx10; try clear c17; try clear c22; try clear c23; try clear c23b0; try clear c24; try clear c24b0; try clear c29; try clear hcz10_0; try clear hcz10_1; try clear hcz10_2; try clear hcz12_0; try clear hcz12_1; try clear hcz12_2; try clear hcz13_0; try clear hcz13_1; try clear hcz13_2; try clear hcz15_0; try clear hcz15_1; try clear hcz15_2; try clear hcz16_0; try clear hcz16_1; try clear hcz16_2; try clear hcz18_0; try clear hcz18_1; try clear hcz18_2; try clear hcz19_0; try clear hcz19_1; try clear hcz19_2; try clear hcz26_0; try clear hcz26_1; try clear hcz26_2; try clear hcz27_0; try clear hcz27_1; try clear hcz27_2; try clear hcz30_0; try clear hcz30_1; try clear hcz30_2; try clear hfz10_0; try clear hfz10_1; try clear hfz10_2; try clear hfz12_0; try clear hfz12_1; try clear hfz12_2; try clear hfz13_0; try clear hfz13_1; try clear hfz13_2; try clear hfz15_0; try clear hfz15_1; try clear hfz15_2; try clear hfz16_0; try clear hfz16_1; try clear hfz16_2; try clear hfz18_0; try clear hfz18_1; try clear hfz18_2; try clear hfz19_0; try clear hfz19_1; try clear hfz19_2; try clear hfz26_0; try clear hfz26_1; try clear hfz26_2; try clear hfz27_0; try clear hfz27_1; try clear hfz27_2; try clear hfz30_0; try clear hfz30_1; try clear hfz30_2; try clear hx105_0; try clear p1; try clear p10; try clear p105; try clear p2; try clear p6; try clear q1; try clear q10; try clear q105
                obtain ⟨kq, x50_27, rfl, HA, HJ27, BK101, HB⟩ := hcut
                cases kq with
                | zero => exact absurd HA.out (by simp [luciferlaw01_sound.j4])
                | succ kj27 =>
                  have H := HA.out
                  clear HA
                  simp only [luciferlaw01_sound.j4] at H
                  by_cases c31 : x50_27 = true
                  · subst c31
                    have H1 : (if 0 ≤ x5_3 then (if x5_3 < (l0_2.length : Int) then ((luciferref00_Right.f ((rd_T61 l0_2 x5_3).f0.f0) ((rd_T61 l0_2 x5_3).f0.f1) 0 23).bind fun t109 => (if t109 = true then ((luciferref00_Right.f ((rd_T61 l0_2 x5_3).f1.f0) ((rd_T61 l0_2 x5_3).f1.f1) 0 (l0_0.length : Int)).bind fun t110 => (if t110 = true then (if (wrap64 (((rd_T61 l0_2 x5_3).f0.f1) - ((rd_T61 l0_2 x5_3).f0.f0))) ≤ 3 then (luciferlaw01_sound.l1 kj27 (decide ((wrap64 (((rd_T61 l0_2 x5_3).f1.f1) - ((rd_T61 l0_2 x5_3).f1.f0))) ≤ 1)) (wrap64 (x5_3 + 1)) l0_0 a0_1 l0_2) else (luciferlaw01_sound.l1 kj27 false (wrap64 (x5_3 + 1)) l0_0 a0_1 l0_2)) else (luciferlaw01_sound.l1 kj27 false (wrap64 (x5_3 + 1)) l0_0 a0_1 l0_2))) else (luciferlaw01_sound.l1 kj27 false (wrap64 (x5_3 + 1)) l0_0 a0_1 l0_2))) else (none)) else (none)) = some r := by rw [if_pos rfl] at H; exact H
                    clear H
                    have H := H1
                    clear H1
                    by_cases c32 : 0 ≤ x5_3
                    · rw [if_pos c32] at H
                      have c32b0 : decide (0 ≤ x5_3) = true := decide_eq_true c32
                      clear c32
                      by_cases c33 : x5_3 < (l0_2.length : Int)
                      · rw [if_pos c33] at H
                        have c33b0 : decide (x5_3 < (l0_2.length : Int)) = true := decide_eq_true c33
                        clear c33
                        replace H := Option.bind_eq_some_iff.mp H
                        obtain ⟨t109, A340, H⟩ := H
                        replace H : (if t109 = true then ((luciferref00_Right.f ((rd_T61 l0_2 x5_3).f1.f0) ((rd_T61 l0_2 x5_3).f1.f1) 0 (l0_0.length : Int)).bind fun t110 => (if t110 = true then (if (wrap64 (((rd_T61 l0_2 x5_3).f0.f1) - ((rd_T61 l0_2 x5_3).f0.f0))) ≤ 3 then (luciferlaw01_sound.l1 kj27 (decide ((wrap64 (((rd_T61 l0_2 x5_3).f1.f1) - ((rd_T61 l0_2 x5_3).f1.f0))) ≤ 1)) (wrap64 (x5_3 + 1)) l0_0 a0_1 l0_2) else (luciferlaw01_sound.l1 kj27 false (wrap64 (x5_3 + 1)) l0_0 a0_1 l0_2)) else (luciferlaw01_sound.l1 kj27 false (wrap64 (x5_3 + 1)) l0_0 a0_1 l0_2))) else (luciferlaw01_sound.l1 kj27 false (wrap64 (x5_3 + 1)) l0_0 a0_1 l0_2)) = some r := H
                        have A34 := Aside0.mk A340
                        clear A340
                        by_cases c35 : t109 = true
                        · subst c35
                          have H1 : ((luciferref00_Right.f ((rd_T61 l0_2 x5_3).f1.f0) ((rd_T61 l0_2 x5_3).f1.f1) 0 (l0_0.length : Int)).bind fun t110 => (if t110 = true then (if (wrap64 (((rd_T61 l0_2 x5_3).f0.f1) - ((rd_T61 l0_2 x5_3).f0.f0))) ≤ 3 then (luciferlaw01_sound.l1 kj27 (decide ((wrap64 (((rd_T61 l0_2 x5_3).f1.f1) - ((rd_T61 l0_2 x5_3).f1.f0))) ≤ 1)) (wrap64 (x5_3 + 1)) l0_0 a0_1 l0_2) else (luciferlaw01_sound.l1 kj27 false (wrap64 (x5_3 + 1)) l0_0 a0_1 l0_2)) else (luciferlaw01_sound.l1 kj27 false (wrap64 (x5_3 + 1)) l0_0 a0_1 l0_2))) = some r := by rw [if_pos rfl] at H; exact H
                          clear H
                          have H := H1
                          clear H1
                          replace H := Option.bind_eq_some_iff.mp H
                          obtain ⟨t110, A360, H⟩ := H
                          replace H : (if t110 = true then (if (wrap64 (((rd_T61 l0_2 x5_3).f0.f1) - ((rd_T61 l0_2 x5_3).f0.f0))) ≤ 3 then (luciferlaw01_sound.l1 kj27 (decide ((wrap64 (((rd_T61 l0_2 x5_3).f1.f1) - ((rd_T61 l0_2 x5_3).f1.f0))) ≤ 1)) (wrap64 (x5_3 + 1)) l0_0 a0_1 l0_2) else (luciferlaw01_sound.l1 kj27 false (wrap64 (x5_3 + 1)) l0_0 a0_1 l0_2)) else (luciferlaw01_sound.l1 kj27 false (wrap64 (x5_3 + 1)) l0_0 a0_1 l0_2)) = some r := H
                          have A36 := Aside0.mk A360
                          clear A360
                          by_cases c37 : t110 = true
                          · subst c37
                            have H1 : (if (wrap64 (((rd_T61 l0_2 x5_3).f0.f1) - ((rd_T61 l0_2 x5_3).f0.f0))) ≤ 3 then (luciferlaw01_sound.l1 kj27 (decide ((wrap64 (((rd_T61 l0_2 x5_3).f1.f1) - ((rd_T61 l0_2 x5_3).f1.f0))) ≤ 1)) (wrap64 (x5_3 + 1)) l0_0 a0_1 l0_2) else (luciferlaw01_sound.l1 kj27 false (wrap64 (x5_3 + 1)) l0_0 a0_1 l0_2)) = some r := by rw [if_pos rfl] at H; exact H
                            clear H
                            have H := H1
                            clear H1
                            by_cases c38 : (wrap64 (((rd_T61 l0_2 x5_3).f0.f1) - ((rd_T61 l0_2 x5_3).f0.f0))) ≤ 3
                            · rw [if_pos c38] at H
                              have c38b0 : decide ((wrap64 (((rd_T61 l0_2 x5_3).f0.f1) - ((rd_T61 l0_2 x5_3).f0.f0))) ≤ 3) = true := decide_eq_true c38
                              clear c38
                              have H' := Aside0.mk H
                              clear H
                              obtain ⟨hcz39_0, hcz39_1, hcz39_2, hfz39_0, hfz39_1, hfz39_2⟩ := cz3 BK101
                              have p107 : 0 ≤ (x5_3 : Int) := of_decide_eq_true D_
                              have q107 : x5_3 < (l0_2.length : Int) := of_decide_eq_true D_
                              obtain ⟨ad107, e107, hx107_0, hx107_1, hx107_2, hx107_3⟩ := at_T61 HR0_2.out x5_3 p107 q107
                              cases e107
                              replace hx107_0 := (HB.out.cell (World.block_lt_of_cell? w _ hx107_0)).trans hx107_0
                              replace hx107_1 := (HB.out.cell (World.block_lt_of_cell? w _ hx107_1)).trans hx107_1
                              replace hx107_2 := (HB.out.cell (World.block_lt_of_cell? w _ hx107_2)).trans hx107_2
                              replace hx107_3 := (HB.out.cell (World.block_lt_of_cell? w _ hx107_3)).trans hx107_3
                              replace p107 := eq_true p107
                              replace q107 := eq_true q107
                              go_wp2_with (first | ((with_reducible refine gate_dst (N := 6) rfl ?_); refine box_event ?hg (N := 6) ?hd (cs := #[.int .i64 0, .int .i64 0, .int .i64 0, .int .i64 0]) (t := 61) ?hr ?_; (case hd => rfl); (case hg => rfl); (case hr => first | (go_simp; done) | (go_simp; rfl)); intro gb108 hg w40 hbox hb; have n0_ := Aside0.mk (blk_below (g := gb101) (o := .cells #[.slice A0_0 l0_0.length c0_0, .int .i64 a0_1, .slice (some ad107) l0_2.length c0_2] 25 (0, 0)) (K_ BK101) hb); have n1_ := Aside0.mk (below_step (B_) hb); have n2_ := Aside0.mk (hbox); have n3_ := Aside0.mk ((by rw [hg]; exact (below_size (B_)) : w.heap.size ≤ gb108)); have n4_ := Aside0.mk ((by rw [hg]; exact (below_size (B_)) : w.heap.size ≤ gb108)); have n5_ := Aside0.mk ((by rw [hg]; exact Nat.ne_of_lt (blk_lt (g := gb101) (o := .cells #[.slice A0_0 l0_0.length c0_0, .int .i64 a0_1, .slice (some ad107) l0_2.length c0_2] 25 (0, 0)) (K_ BK101)) : gb101 ≠ gb108)); have n6_ := Aside0.mk ((by rw [hg]; exact Nat.ne_of_gt (blk_lt (g := gb101) (o := .cells #[.slice A0_0 l0_0.length c0_0, .int .i64 a0_1, .slice (some ad107) l0_2.length c0_2] 25 (0, 0)) (K_ BK101)) : gb108 ≠ gb101)); clear BK101; clear HB; have BK101 := n0_; have HB := n1_; have BK108 := n2_; have GW108 := n3_; have GE108 := n4_; have NB101_108 := n5_; have NB108_101 := n6_; clear n0_ n1_ n2_ n3_ n4_ n5_ n6_; clear hb hbox hg; have hnb41 := NB108_101.out; have hnc41 := NB101_108.out; obtain ⟨hcz42_0, hcz42_1, hcz42_2, hcz42_3, hfz42_0, hfz42_1, hfz42_2, hfz42_3⟩ := cz4 BK108) | ((with_reducible refine gate_callee (f := 61) rfl ?_); refine goesL_ (some 60) rfl rfl Tryd.func61 (by kernel_rfl) rfl #[.agg #[.int .i64 ((rd_T61 l0_2 x5_3).f0.f0), .int .i64 ((rd_T61 l0_2 x5_3).f0.f1)], .int .i64 0, .int .i64 23] rfl (by (try simp only [List.map_toArray, List.map_cons, List.map_nil]); first | done | rfl | (simp only [List.length_drop, List.length_take]; rfl)) ?_; (with_reducible refine (luciferref00_Right.calls ((rd_T61 l0_2 x5_3).f0.f0) ((rd_T61 l0_2 x5_3).f0.f1) 0 23 true _ A34.out).mono ?_); rintro e w43 ⟨rfl, hb⟩; refine ⟨_, rfl, ?_⟩; have n0_ := Aside0.mk (blk_below (g := gb101) (o := .cells #[.slice A0_0 l0_0.length c0_0, .int .i64 a0_1, .slice (some ad107) l0_2.length c0_2] 25 (0, 0)) (by (with_reducible repeat (first | refine blk_drewN ?_ _ | refine blk_drew ?_ | refine blk_alloc ?_ _)); refine blk_far ?_ NB101_108.out _; (with_reducible repeat (first | refine blk_drewN ?_ _ | refine blk_drew ?_ | refine blk_alloc ?_ _)); refine blk_far ?_ NB101_108.out _; (with_reducible repeat (first | refine blk_drewN ?_ _ | refine blk_drew ?_ | refine blk_alloc ?_ _)); refine blk_far ?_ NB101_108.out _; (with_reducible repeat (first | refine blk_drewN ?_ _ | refine blk_drew ?_ | refine blk_alloc ?_ _)); refine blk_far ?_ NB101_108.out _; (with_reducible repeat (first | refine blk_drewN ?_ _ | refine blk_drew ?_ | refine blk_alloc ?_ _)); exact BK101.out) hb); have n1_ := Aside0.mk (blk_below (g := gb108) (o := .cells #[.int .i64 ((rd_T61 l0_2 x5_3).f0.f0), .int .i64 ((rd_T61 l0_2 x5_3).f0.f1), .int .i64 ((rd_T61 l0_2 x5_3).f1.f0), .int .i64 ((rd_T61 l0_2 x5_3).f1.f1)] 61 (0, 0)) (by (with_reducible repeat (first | refine blk_drewN ?_ _ | refine blk_drew ?_ | refine blk_alloc ?_ _)); refine blk_put (cs := #[.int .i64 ((rd_T61 l0_2 x5_3).f0.f0), .int .i64 ((rd_T61 l0_2 x5_3).f0.f1), .int .i64 ((rd_T61 l0_2 x5_3).f1.f0), .int .i64 0]) ?_ 3 _ rfl; (with_reducible repeat (first | refine blk_drewN ?_ _ | refine blk_drew ?_ | refine blk_alloc ?_ _)); refine blk_put (cs := #[.int .i64 ((rd_T61 l0_2 x5_3).f0.f0), .int .i64 ((rd_T61 l0_2 x5_3).f0.f1), .int .i64 0, .int .i64 0]) ?_ 2 _ rfl; (with_reducible repeat (first | refine blk_drewN ?_ _ | refine blk_drew ?_ | refine blk_alloc ?_ _)); refine blk_put (cs := #[.int .i64 ((rd_T61 l0_2 x5_3).f0.f0), .int .i64 0, .int .i64 0, .int .i64 0]) ?_ 1 _ rfl; (with_reducible repeat (first | refine blk_drewN ?_ _ | refine blk_drew ?_ | refine blk_alloc ?_ _)); refine blk_put (cs := #[.int .i64 0, .int .i64 0, .int .i64 0, .int .i64 0]) ?_ 0 _ rfl; (with_reducible repeat (first | refine blk_drewN ?_ _ | refine blk_drew ?_ | refine blk_alloc ?_ _)); exact BK108.out) hb); have n2_ := Aside0.mk (below_step (B_) hb); clear BK101; clear BK108; clear HB; have BK101 := n0_; have BK108 := n1_; have HB := n2_; clear n0_ n1_ n2_; (try clear hb); (try clear hb2); (try clear hk); (try clear hi); obtain ⟨hcz44_0, hcz44_1, hcz44_2, hcz44_3, hfz44_0, hfz44_1, hfz44_2, hfz44_3⟩ := cz4 BK108; obtain ⟨hcz45_0, hcz45_1, hcz45_2, hfz45_0, hfz45_1, hfz45_2⟩ := cz3 BK101) | (go_at_call 61; (with_reducible refine (luciferref00_Right.calls ((rd_T61 l0_2 x5_3).f1.f0) ((rd_T61 l0_2 x5_3).f1.f1) 0 (l0_0.length : Int) true _ A36.out).mono ?_); rintro e w46 ⟨rfl, hb⟩; have n0_ := Aside0.mk (blk_below (g := gb101) (o := .cells #[.slice A0_0 l0_0.length c0_0, .int .i64 a0_1, .slice (some ad107) l0_2.length c0_2] 25 (0, 0)) (K_ BK101) hb); have n1_ := Aside0.mk (blk_below (g := gb108) (o := .cells #[.int .i64 ((rd_T61 l0_2 x5_3).f0.f0), .int .i64 ((rd_T61 l0_2 x5_3).f0.f1), .int .i64 ((rd_T61 l0_2 x5_3).f1.f0), .int .i64 ((rd_T61 l0_2 x5_3).f1.f1)] 61 (0, 0)) (K_ BK108) hb); have n2_ := Aside0.mk (below_step (B_) hb); clear BK101; clear BK108; clear HB; have BK101 := n0_; have BK108 := n1_; have HB := n2_; clear n0_ n1_ n2_; (try clear hb); (try clear hb2); (try clear hk); (try clear hi); obtain ⟨hcz47_0, hcz47_1, hcz47_2, hcz47_3, hfz47_0, hfz47_1, hfz47_2, hfz47_3⟩ := cz4 BK108))
                              go_roundg kj27
                              case measure => have := HJ1.out; have := HJ20.out; have := HK3.out; have := HJ27.out; omega
                              case rel => exact ⟨(decide ((wrap64 (((rd_T61 l0_2 x5_3).f1.f1) - ((rd_T61 l0_2 x5_3).f1.f0))) ≤ 1)), (wrap64 (x5_3 + 1)), S_, S_, H', ⟨by have := HJ1.out; have := HJ20.out; have := HK3.out; have := HJ27.out; omega⟩, ⟨K_ BK101⟩, ⟨B_⟩⟩
                            · rw [if_neg c38] at H
                              have c38b0 : decide ((wrap64 (((rd_T61 l0_2 x5_3).f0.f1) - ((rd_T61 l0_2 x5_3).f0.f0))) ≤ 3) = false := decide_eq_false c38
                              clear c38
                              have H' := Aside0.mk H
                              clear H
                              obtain ⟨hcz48_0, hcz48_1, hcz48_2, hfz48_0, hfz48_1, hfz48_2⟩ := cz3 BK101
                              have p107 : 0 ≤ (x5_3 : Int) := of_decide_eq_true D_
                              have q107 : x5_3 < (l0_2.length : Int) := of_decide_eq_true D_
                              obtain ⟨ad107, e107, hx107_0, hx107_1, hx107_2, hx107_3⟩ := at_T61 HR0_2.out x5_3 p107 q107
                              cases e107
                              replace hx107_0 := (HB.out.cell (World.block_lt_of_cell? w _ hx107_0)).trans hx107_0
                              replace hx107_1 := (HB.out.cell (World.block_lt_of_cell? w _ hx107_1)).trans hx107_1
                              replace hx107_2 := (HB.out.cell (World.block_lt_of_cell? w _ hx107_2)).trans hx107_2
                              replace hx107_3 := (HB.out.cell (World.block_lt_of_cell? w _ hx107_3)).trans hx107_3
                              replace p107 := eq_true p107
                              replace q107 := eq_true q107
                              go_wp2_with (first | ((with_reducible refine gate_dst (N := 6) rfl ?_); refine box_event ?hg (N := 6) ?hd (cs := #[.int .i64 0, .int .i64 0, .int .i64 0, .int .i64 0]) (t := 61) ?hr ?_; (case hd => rfl); (case hg => rfl); (case hr => first | (go_simp; done) | (go_simp; rfl)); intro gb108 hg w49 hbox hb; have n0_ := Aside0.mk (blk_below (g := gb101) (o := .cells #[.slice A0_0 l0_0.length c0_0, .int .i64 a0_1, .slice (some ad107) l0_2.length c0_2] 25 (0, 0)) (K_ BK101) hb); have n1_ := Aside0.mk (below_step (B_) hb); have n2_ := Aside0.mk (hbox); have n3_ := Aside0.mk ((by rw [hg]; exact (below_size (B_)) : w.heap.size ≤ gb108)); have n4_ := Aside0.mk ((by rw [hg]; exact (below_size (B_)) : w.heap.size ≤ gb108)); have n5_ := Aside0.mk ((by rw [hg]; exact Nat.ne_of_lt (blk_lt (g := gb101) (o := .cells #[.slice A0_0 l0_0.length c0_0, .int .i64 a0_1, .slice (some ad107) l0_2.length c0_2] 25 (0, 0)) (K_ BK101)) : gb101 ≠ gb108)); have n6_ := Aside0.mk ((by rw [hg]; exact Nat.ne_of_gt (blk_lt (g := gb101) (o := .cells #[.slice A0_0 l0_0.length c0_0, .int .i64 a0_1, .slice (some ad107) l0_2.length c0_2] 25 (0, 0)) (K_ BK101)) : gb108 ≠ gb101)); clear BK101; clear HB; have BK101 := n0_; have HB := n1_; have BK108 := n2_; have GW108 := n3_; have GE108 := n4_; have NB101_108 := n5_; have NB108_101 := n6_; clear n0_ n1_ n2_ n3_ n4_ n5_ n6_; clear hb hbox hg; have hnb50 := NB108_101.out; have hnc50 := NB101_108.out; obtain ⟨hcz51_0, hcz51_1, hcz51_2, hcz51_3, hfz51_0, hfz51_1, hfz51_2, hfz51_3⟩ := cz4 BK108) | ((with_reducible refine gate_callee (f := 61) rfl ?_); refine goesL_ (some 60) rfl rfl Tryd.func61 (by kernel_rfl) rfl #[.agg #[.int .i64 ((rd_T61 l0_2 x5_3).f0.f0), .int .i64 ((rd_T61 l0_2 x5_3).f0.f1)], .int .i64 0, .int .i64 23] rfl (by (try simp only [List.map_toArray, List.map_cons, List.map_nil]); first | done | rfl | (simp only [List.length_drop, List.length_take]; rfl)) ?_; (with_reducible refine (luciferref00_Right.calls ((rd_T61 l0_2 x5_3).f0.f0) ((rd_T61 l0_2 x5_3).f0.f1) 0 23 true _ A34.out).mono ?_); rintro e w52 ⟨rfl, hb⟩; refine ⟨_, rfl, ?_⟩; have n0_ := Aside0.mk (blk_below (g := gb101) (o := .cells #[.slice A0_0 l0_0.length c0_0, .int .i64 a0_1, .slice (some ad107) l0_2.length c0_2] 25 (0, 0)) (by (with_reducible repeat (first | refine blk_drewN ?_ _ | refine blk_drew ?_ | refine blk_alloc ?_ _)); refine blk_far ?_ NB101_108.out _; (with_reducible repeat (first | refine blk_drewN ?_ _ | refine blk_drew ?_ | refine blk_alloc ?_ _)); refine blk_far ?_ NB101_108.out _; (with_reducible repeat (first | refine blk_drewN ?_ _ | refine blk_drew ?_ | refine blk_alloc ?_ _)); refine blk_far ?_ NB101_108.out _; (with_reducible repeat (first | refine blk_drewN ?_ _ | refine blk_drew ?_ | refine blk_alloc ?_ _)); refine blk_far ?_ NB101_108.out _; (with_reducible repeat (first | refine blk_drewN ?_ _ | refine blk_drew ?_ | refine blk_alloc ?_ _)); exact BK101.out) hb); have n1_ := Aside0.mk (blk_below (g := gb108) (o := .cells #[.int .i64 ((rd_T61 l0_2 x5_3).f0.f0), .int .i64 ((rd_T61 l0_2 x5_3).f0.f1), .int .i64 ((rd_T61 l0_2 x5_3).f1.f0), .int .i64 ((rd_T61 l0_2 x5_3).f1.f1)] 61 (0, 0)) (by (with_reducible repeat (first | refine blk_drewN ?_ _ | refine blk_drew ?_ | refine blk_alloc ?_ _)); refine blk_put (cs := #[.int .i64 ((rd_T61 l0_2 x5_3).f0.f0), .int .i64 ((rd_T61 l0_2 x5_3).f0.f1), .int .i64 ((rd_T61 l0_2 x5_3).f1.f0), .int .i64 0]) ?_ 3 _ rfl; (with_reducible repeat (first | refine blk_drewN ?_ _ | refine blk_drew ?_ | refine blk_alloc ?_ _)); refine blk_put (cs := #[.int .i64 ((rd_T61 l0_2 x5_3).f0.f0), .int .i64 ((rd_T61 l0_2 x5_3).f0.f1), .int .i64 0, .int .i64 0]) ?_ 2 _ rfl; (with_reducible repeat (first | refine blk_drewN ?_ _ | refine blk_drew ?_ | refine blk_alloc ?_ _)); refine blk_put (cs := #[.int .i64 ((rd_T61 l0_2 x5_3).f0.f0), .int .i64 0, .int .i64 0, .int .i64 0]) ?_ 1 _ rfl; (with_reducible repeat (first | refine blk_drewN ?_ _ | refine blk_drew ?_ | refine blk_alloc ?_ _)); refine blk_put (cs := #[.int .i64 0, .int .i64 0, .int .i64 0, .int .i64 0]) ?_ 0 _ rfl; (with_reducible repeat (first | refine blk_drewN ?_ _ | refine blk_drew ?_ | refine blk_alloc ?_ _)); exact BK108.out) hb); have n2_ := Aside0.mk (below_step (B_) hb); clear BK101; clear BK108; clear HB; have BK101 := n0_; have BK108 := n1_; have HB := n2_; clear n0_ n1_ n2_; (try clear hb); (try clear hb2); (try clear hk); (try clear hi); obtain ⟨hcz53_0, hcz53_1, hcz53_2, hcz53_3, hfz53_0, hfz53_1, hfz53_2, hfz53_3⟩ := cz4 BK108; obtain ⟨hcz54_0, hcz54_1, hcz54_2, hfz54_0, hfz54_1, hfz54_2⟩ := cz3 BK101) | (go_at_call 61; (with_reducible refine (luciferref00_Right.calls ((rd_T61 l0_2 x5_3).f1.f0) ((rd_T61 l0_2 x5_3).f1.f1) 0 (l0_0.length : Int) true _ A36.out).mono ?_); rintro e w55 ⟨rfl, hb⟩; have n0_ := Aside0.mk (blk_below (g := gb101) (o := .cells #[.slice A0_0 l0_0.length c0_0, .int .i64 a0_1, .slice (some ad107) l0_2.length c0_2] 25 (0, 0)) (K_ BK101) hb); have n1_ := Aside0.mk (blk_below (g := gb108) (o := .cells #[.int .i64 ((rd_T61 l0_2 x5_3).f0.f0), .int .i64 ((rd_T61 l0_2 x5_3).f0.f1), .int .i64 ((rd_T61 l0_2 x5_3).f1.f0), .int .i64 ((rd_T61 l0_2 x5_3).f1.f1)] 61 (0, 0)) (K_ BK108) hb); have n2_ := Aside0.mk (below_step (B_) hb); clear BK101; clear BK108; clear HB; have BK101 := n0_; have BK108 := n1_; have HB := n2_; clear n0_ n1_ n2_; (try clear hb); (try clear hb2); (try clear hk); (try clear hi); obtain ⟨hcz56_0, hcz56_1, hcz56_2, hcz56_3, hfz56_0, hfz56_1, hfz56_2, hfz56_3⟩ := cz4 BK108))
                              go_roundg kj27
                              case measure => have := HJ1.out; have := HJ20.out; have := HK3.out; have := HJ27.out; omega
                              case rel => exact ⟨(false), (wrap64 (x5_3 + 1)), S_, S_, H', ⟨by have := HJ1.out; have := HJ20.out; have := HK3.out; have := HJ27.out; omega⟩, ⟨K_ BK101⟩, ⟨B_⟩⟩
                          · replace c37 := Bool.eq_false_iff.mpr c37
                            subst c37
                            have H1 : (luciferlaw01_sound.l1 kj27 false (wrap64 (x5_3 + 1)) l0_0 a0_1 l0_2) = some r := by rw [if_neg (show ¬ (false = true) by decide)] at H; exact H
                            clear H
                            have H := H1
                            clear H1
                            have H' := Aside0.mk H
                            clear H
                            obtain ⟨hcz57_0, hcz57_1, hcz57_2, hfz57_0, hfz57_1, hfz57_2⟩ := cz3 BK101
                            have p107 : 0 ≤ (x5_3 : Int) := of_decide_eq_true D_
                            have q107 : x5_3 < (l0_2.length : Int) := of_decide_eq_true D_
                            obtain ⟨ad107, e107, hx107_0, hx107_1, hx107_2, hx107_3⟩ := at_T61 HR0_2.out x5_3 p107 q107
                            cases e107
                            replace hx107_0 := (HB.out.cell (World.block_lt_of_cell? w _ hx107_0)).trans hx107_0
                            replace hx107_1 := (HB.out.cell (World.block_lt_of_cell? w _ hx107_1)).trans hx107_1
                            replace hx107_2 := (HB.out.cell (World.block_lt_of_cell? w _ hx107_2)).trans hx107_2
                            replace hx107_3 := (HB.out.cell (World.block_lt_of_cell? w _ hx107_3)).trans hx107_3
                            replace p107 := eq_true p107
                            replace q107 := eq_true q107
                            go_wp2_with (first | ((with_reducible refine gate_dst (N := 6) rfl ?_); refine box_event ?hg (N := 6) ?hd (cs := #[.int .i64 0, .int .i64 0, .int .i64 0, .int .i64 0]) (t := 61) ?hr ?_; (case hd => rfl); (case hg => rfl); (case hr => first | (go_simp; done) | (go_simp; rfl)); intro gb108 hg w58 hbox hb; have n0_ := Aside0.mk (blk_below (g := gb101) (o := .cells #[.slice A0_0 l0_0.length c0_0, .int .i64 a0_1, .slice (some ad107) l0_2.length c0_2] 25 (0, 0)) (K_ BK101) hb); have n1_ := Aside0.mk (below_step (B_) hb); have n2_ := Aside0.mk (hbox); have n3_ := Aside0.mk ((by rw [hg]; exact (below_size (B_)) : w.heap.size ≤ gb108)); have n4_ := Aside0.mk ((by rw [hg]; exact (below_size (B_)) : w.heap.size ≤ gb108)); have n5_ := Aside0.mk ((by rw [hg]; exact Nat.ne_of_lt (blk_lt (g := gb101) (o := .cells #[.slice A0_0 l0_0.length c0_0, .int .i64 a0_1, .slice (some ad107) l0_2.length c0_2] 25 (0, 0)) (K_ BK101)) : gb101 ≠ gb108)); have n6_ := Aside0.mk ((by rw [hg]; exact Nat.ne_of_gt (blk_lt (g := gb101) (o := .cells #[.slice A0_0 l0_0.length c0_0, .int .i64 a0_1, .slice (some ad107) l0_2.length c0_2] 25 (0, 0)) (K_ BK101)) : gb108 ≠ gb101)); clear BK101; clear HB; have BK101 := n0_; have HB := n1_; have BK108 := n2_; have GW108 := n3_; have GE108 := n4_; have NB101_108 := n5_; have NB108_101 := n6_; clear n0_ n1_ n2_ n3_ n4_ n5_ n6_; clear hb hbox hg; have hnb59 := NB108_101.out; have hnc59 := NB101_108.out; obtain ⟨hcz60_0, hcz60_1, hcz60_2, hcz60_3, hfz60_0, hfz60_1, hfz60_2, hfz60_3⟩ := cz4 BK108) | ((with_reducible refine gate_callee (f := 61) rfl ?_); refine goesL_ (some 60) rfl rfl Tryd.func61 (by kernel_rfl) rfl #[.agg #[.int .i64 ((rd_T61 l0_2 x5_3).f0.f0), .int .i64 ((rd_T61 l0_2 x5_3).f0.f1)], .int .i64 0, .int .i64 23] rfl (by (try simp only [List.map_toArray, List.map_cons, List.map_nil]); first | done | rfl | (simp only [List.length_drop, List.length_take]; rfl)) ?_; (with_reducible refine (luciferref00_Right.calls ((rd_T61 l0_2 x5_3).f0.f0) ((rd_T61 l0_2 x5_3).f0.f1) 0 23 true _ A34.out).mono ?_); rintro e w61 ⟨rfl, hb⟩; refine ⟨_, rfl, ?_⟩; have n0_ := Aside0.mk (blk_below (g := gb101) (o := .cells #[.slice A0_0 l0_0.length c0_0, .int .i64 a0_1, .slice (some ad107) l0_2.length c0_2] 25 (0, 0)) (by (with_reducible repeat (first | refine blk_drewN ?_ _ | refine blk_drew ?_ | refine blk_alloc ?_ _)); refine blk_far ?_ NB101_108.out _; (with_reducible repeat (first | refine blk_drewN ?_ _ | refine blk_drew ?_ | refine blk_alloc ?_ _)); refine blk_far ?_ NB101_108.out _; (with_reducible repeat (first | refine blk_drewN ?_ _ | refine blk_drew ?_ | refine blk_alloc ?_ _)); refine blk_far ?_ NB101_108.out _; (with_reducible repeat (first | refine blk_drewN ?_ _ | refine blk_drew ?_ | refine blk_alloc ?_ _)); refine blk_far ?_ NB101_108.out _; (with_reducible repeat (first | refine blk_drewN ?_ _ | refine blk_drew ?_ | refine blk_alloc ?_ _)); exact BK101.out) hb); have n1_ := Aside0.mk (blk_below (g := gb108) (o := .cells #[.int .i64 ((rd_T61 l0_2 x5_3).f0.f0), .int .i64 ((rd_T61 l0_2 x5_3).f0.f1), .int .i64 ((rd_T61 l0_2 x5_3).f1.f0), .int .i64 ((rd_T61 l0_2 x5_3).f1.f1)] 61 (0, 0)) (by (with_reducible repeat (first | refine blk_drewN ?_ _ | refine blk_drew ?_ | refine blk_alloc ?_ _)); refine blk_put (cs := #[.int .i64 ((rd_T61 l0_2 x5_3).f0.f0), .int .i64 ((rd_T61 l0_2 x5_3).f0.f1), .int .i64 ((rd_T61 l0_2 x5_3).f1.f0), .int .i64 0]) ?_ 3 _ rfl; (with_reducible repeat (first | refine blk_drewN ?_ _ | refine blk_drew ?_ | refine blk_alloc ?_ _)); refine blk_put (cs := #[.int .i64 ((rd_T61 l0_2 x5_3).f0.f0), .int .i64 ((rd_T61 l0_2 x5_3).f0.f1), .int .i64 0, .int .i64 0]) ?_ 2 _ rfl; (with_reducible repeat (first | refine blk_drewN ?_ _ | refine blk_drew ?_ | refine blk_alloc ?_ _)); refine blk_put (cs := #[.int .i64 ((rd_T61 l0_2 x5_3).f0.f0), .int .i64 0, .int .i64 0, .int .i64 0]) ?_ 1 _ rfl; (with_reducible repeat (first | refine blk_drewN ?_ _ | refine blk_drew ?_ | refine blk_alloc ?_ _)); refine blk_put (cs := #[.int .i64 0, .int .i64 0, .int .i64 0, .int .i64 0]) ?_ 0 _ rfl; (with_reducible repeat (first | refine blk_drewN ?_ _ | refine blk_drew ?_ | refine blk_alloc ?_ _)); exact BK108.out) hb); have n2_ := Aside0.mk (below_step (B_) hb); clear BK101; clear BK108; clear HB; have BK101 := n0_; have BK108 := n1_; have HB := n2_; clear n0_ n1_ n2_; (try clear hb); (try clear hb2); (try clear hk); (try clear hi); obtain ⟨hcz62_0, hcz62_1, hcz62_2, hcz62_3, hfz62_0, hfz62_1, hfz62_2, hfz62_3⟩ := cz4 BK108; obtain ⟨hcz63_0, hcz63_1, hcz63_2, hfz63_0, hfz63_1, hfz63_2⟩ := cz3 BK101) | (go_at_call 61; (with_reducible refine (luciferref00_Right.calls ((rd_T61 l0_2 x5_3).f1.f0) ((rd_T61 l0_2 x5_3).f1.f1) 0 (l0_0.length : Int) false _ A36.out).mono ?_); rintro e w64 ⟨rfl, hb⟩; have n0_ := Aside0.mk (blk_below (g := gb101) (o := .cells #[.slice A0_0 l0_0.length c0_0, .int .i64 a0_1, .slice (some ad107) l0_2.length c0_2] 25 (0, 0)) (K_ BK101) hb); have n1_ := Aside0.mk (blk_below (g := gb108) (o := .cells #[.int .i64 ((rd_T61 l0_2 x5_3).f0.f0), .int .i64 ((rd_T61 l0_2 x5_3).f0.f1), .int .i64 ((rd_T61 l0_2 x5_3).f1.f0), .int .i64 ((rd_T61 l0_2 x5_3).f1.f1)] 61 (0, 0)) (K_ BK108) hb); have n2_ := Aside0.mk (below_step (B_) hb); clear BK101; clear BK108; clear HB; have BK101 := n0_; have BK108 := n1_; have HB := n2_; clear n0_ n1_ n2_; (try clear hb); (try clear hb2); (try clear hk); (try clear hi)))
                            go_roundg kj27
                            case measure => have := HJ1.out; have := HJ20.out; have := HK3.out; have := HJ27.out; omega
                            case rel => exact ⟨(false), (wrap64 (x5_3 + 1)), S_, S_, H', ⟨by have := HJ1.out; have := HJ20.out; have := HK3.out; have := HJ27.out; omega⟩, ⟨K_ BK101⟩, ⟨B_⟩⟩
                        · replace c35 := Bool.eq_false_iff.mpr c35
                          subst c35
                          have H1 : (luciferlaw01_sound.l1 kj27 false (wrap64 (x5_3 + 1)) l0_0 a0_1 l0_2) = some r := by rw [if_neg (show ¬ (false = true) by decide)] at H; exact H
                          clear H
                          have H := H1
                          clear H1
                          have H' := Aside0.mk H
                          clear H
                          obtain ⟨hcz65_0, hcz65_1, hcz65_2, hfz65_0, hfz65_1, hfz65_2⟩ := cz3 BK101
                          have p107 : 0 ≤ (x5_3 : Int) := of_decide_eq_true D_
                          have q107 : x5_3 < (l0_2.length : Int) := of_decide_eq_true D_
                          obtain ⟨ad107, e107, hx107_0, hx107_1, hx107_2, hx107_3⟩ := at_T61 HR0_2.out x5_3 p107 q107
                          cases e107
                          replace hx107_0 := (HB.out.cell (World.block_lt_of_cell? w _ hx107_0)).trans hx107_0
                          replace hx107_1 := (HB.out.cell (World.block_lt_of_cell? w _ hx107_1)).trans hx107_1
                          replace hx107_2 := (HB.out.cell (World.block_lt_of_cell? w _ hx107_2)).trans hx107_2
                          replace hx107_3 := (HB.out.cell (World.block_lt_of_cell? w _ hx107_3)).trans hx107_3
                          replace p107 := eq_true p107
                          replace q107 := eq_true q107
                          go_wp2_with (first | ((with_reducible refine gate_dst (N := 6) rfl ?_); refine box_event ?hg (N := 6) ?hd (cs := #[.int .i64 0, .int .i64 0, .int .i64 0, .int .i64 0]) (t := 61) ?hr ?_; (case hd => rfl); (case hg => rfl); (case hr => first | (go_simp; done) | (go_simp; rfl)); intro gb108 hg w66 hbox hb; have n0_ := Aside0.mk (blk_below (g := gb101) (o := .cells #[.slice A0_0 l0_0.length c0_0, .int .i64 a0_1, .slice (some ad107) l0_2.length c0_2] 25 (0, 0)) (K_ BK101) hb); have n1_ := Aside0.mk (below_step (B_) hb); have n2_ := Aside0.mk (hbox); have n3_ := Aside0.mk ((by rw [hg]; exact (below_size (B_)) : w.heap.size ≤ gb108)); have n4_ := Aside0.mk ((by rw [hg]; exact (below_size (B_)) : w.heap.size ≤ gb108)); have n5_ := Aside0.mk ((by rw [hg]; exact Nat.ne_of_lt (blk_lt (g := gb101) (o := .cells #[.slice A0_0 l0_0.length c0_0, .int .i64 a0_1, .slice (some ad107) l0_2.length c0_2] 25 (0, 0)) (K_ BK101)) : gb101 ≠ gb108)); have n6_ := Aside0.mk ((by rw [hg]; exact Nat.ne_of_gt (blk_lt (g := gb101) (o := .cells #[.slice A0_0 l0_0.length c0_0, .int .i64 a0_1, .slice (some ad107) l0_2.length c0_2] 25 (0, 0)) (K_ BK101)) : gb108 ≠ gb101)); clear BK101; clear HB; have BK101 := n0_; have HB := n1_; have BK108 := n2_; have GW108 := n3_; have GE108 := n4_; have NB101_108 := n5_; have NB108_101 := n6_; clear n0_ n1_ n2_ n3_ n4_ n5_ n6_; clear hb hbox hg; have hnb67 := NB108_101.out; have hnc67 := NB101_108.out; obtain ⟨hcz68_0, hcz68_1, hcz68_2, hcz68_3, hfz68_0, hfz68_1, hfz68_2, hfz68_3⟩ := cz4 BK108) | ((with_reducible refine gate_callee (f := 61) rfl ?_); refine goesL_ (some 60) rfl rfl Tryd.func61 (by kernel_rfl) rfl #[.agg #[.int .i64 ((rd_T61 l0_2 x5_3).f0.f0), .int .i64 ((rd_T61 l0_2 x5_3).f0.f1)], .int .i64 0, .int .i64 23] rfl (by (try simp only [List.map_toArray, List.map_cons, List.map_nil]); first | done | rfl | (simp only [List.length_drop, List.length_take]; rfl)) ?_; (with_reducible refine (luciferref00_Right.calls ((rd_T61 l0_2 x5_3).f0.f0) ((rd_T61 l0_2 x5_3).f0.f1) 0 23 false _ A34.out).mono ?_); rintro e w69 ⟨rfl, hb⟩; refine ⟨_, rfl, ?_⟩; have n0_ := Aside0.mk (blk_below (g := gb101) (o := .cells #[.slice A0_0 l0_0.length c0_0, .int .i64 a0_1, .slice (some ad107) l0_2.length c0_2] 25 (0, 0)) (by (with_reducible repeat (first | refine blk_drewN ?_ _ | refine blk_drew ?_ | refine blk_alloc ?_ _)); refine blk_far ?_ NB101_108.out _; (with_reducible repeat (first | refine blk_drewN ?_ _ | refine blk_drew ?_ | refine blk_alloc ?_ _)); refine blk_far ?_ NB101_108.out _; (with_reducible repeat (first | refine blk_drewN ?_ _ | refine blk_drew ?_ | refine blk_alloc ?_ _)); refine blk_far ?_ NB101_108.out _; (with_reducible repeat (first | refine blk_drewN ?_ _ | refine blk_drew ?_ | refine blk_alloc ?_ _)); refine blk_far ?_ NB101_108.out _; (with_reducible repeat (first | refine blk_drewN ?_ _ | refine blk_drew ?_ | refine blk_alloc ?_ _)); exact BK101.out) hb); have n1_ := Aside0.mk (blk_below (g := gb108) (o := .cells #[.int .i64 ((rd_T61 l0_2 x5_3).f0.f0), .int .i64 ((rd_T61 l0_2 x5_3).f0.f1), .int .i64 ((rd_T61 l0_2 x5_3).f1.f0), .int .i64 ((rd_T61 l0_2 x5_3).f1.f1)] 61 (0, 0)) (by (with_reducible repeat (first | refine blk_drewN ?_ _ | refine blk_drew ?_ | refine blk_alloc ?_ _)); refine blk_put (cs := #[.int .i64 ((rd_T61 l0_2 x5_3).f0.f0), .int .i64 ((rd_T61 l0_2 x5_3).f0.f1), .int .i64 ((rd_T61 l0_2 x5_3).f1.f0), .int .i64 0]) ?_ 3 _ rfl; (with_reducible repeat (first | refine blk_drewN ?_ _ | refine blk_drew ?_ | refine blk_alloc ?_ _)); refine blk_put (cs := #[.int .i64 ((rd_T61 l0_2 x5_3).f0.f0), .int .i64 ((rd_T61 l0_2 x5_3).f0.f1), .int .i64 0, .int .i64 0]) ?_ 2 _ rfl; (with_reducible repeat (first | refine blk_drewN ?_ _ | refine blk_drew ?_ | refine blk_alloc ?_ _)); refine blk_put (cs := #[.int .i64 ((rd_T61 l0_2 x5_3).f0.f0), .int .i64 0, .int .i64 0, .int .i64 0]) ?_ 1 _ rfl; (with_reducible repeat (first | refine blk_drewN ?_ _ | refine blk_drew ?_ | refine blk_alloc ?_ _)); refine blk_put (cs := #[.int .i64 0, .int .i64 0, .int .i64 0, .int .i64 0]) ?_ 0 _ rfl; (with_reducible repeat (first | refine blk_drewN ?_ _ | refine blk_drew ?_ | refine blk_alloc ?_ _)); exact BK108.out) hb); have n2_ := Aside0.mk (below_step (B_) hb); clear BK101; clear BK108; clear HB; have BK101 := n0_; have BK108 := n1_; have HB := n2_; clear n0_ n1_ n2_; (try clear hb); (try clear hb2); (try clear hk); (try clear hi)))
                          go_roundg kj27
                          case measure => have := HJ1.out; have := HJ20.out; have := HK3.out; have := HJ27.out; omega
                          case rel => exact ⟨(false), (wrap64 (x5_3 + 1)), S_, S_, H', ⟨by have := HJ1.out; have := HJ20.out; have := HK3.out; have := HJ27.out; omega⟩, ⟨K_ BK101⟩, ⟨B_⟩⟩
                      · rw [if_neg c33] at H
                        exact absurd H (by simp)
                    · rw [if_neg c32] at H
                      exact absurd H (by simp)
                  · replace c31 := Bool.eq_false_iff.mpr c31
                    subst c31
                    have H1 : (some x3_3) = some r := by rw [if_neg (show ¬ (false = true) by decide)] at H; exact H
                    clear H
                    have H := H1
                    clear H1
                    obtain rfl := Option.some.inj H
                    go_wp2
                    go_ret
                    exact ⟨by first | rfl | (simp [errW_none, errW_some] <;> rfl) | (simp [*, errW_none, errW_some] <;> rfl), B_⟩

end Go.Proofs.YtigofgdmefobaaaDoor.PP
