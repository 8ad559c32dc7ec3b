-- Printed by a program of this session (the kit's print over contracts of ours for functions that it does not take).
import Derived.Test.YtigofgdmefobaaaDoorGiven
import Derived.Test.YtigofgdmefobaaaDoorPPx0
import Derived.Test.YtigofgdmefobaaaDoorPPxf39
import Derived.Test.YtigofgdmefobaaaDoorPPxf41
namespace Go.Proofs.YtigofgdmefobaaaDoor.PP
open Go.RowKit Go.Proofs.YtigofgdmefobaaaDoorW.PrintWords Go.Proofs.YtigofgdmefobaaaDoorW.PrintLast Go.Proofs.YtigofgdmefobaaaDoorW.PrintMore
attribute [local go_sem] max2_int min2_int max_two min_two max_three min_three max_four min_four   -- for this text's walks alone
set_option linter.unusedVariables false
set_option linter.unusedSimpArgs false

/-! ### luciferlaw01_PeelHope: function 9 -/
mutual
def luciferlaw01_PeelHope.j0 : Nat → Int → Bool → List Int → Int → List (S61) → Option (Bool)
  | 0, _, _, _, _, _ => none
  | k + 1, x5, x60, x102000, x102001, x102002 => if x60 = true then (some false) else (luciferlaw01_PeelHope.l0 k x5 0 0 x102000 x102001 x102002)
def luciferlaw01_PeelHope.l0 : Nat → Int → Int → Int → List Int → Int → List (S61) → Option (Bool)
  | 0, _, _, _, _, _, _ => none
  | k + 1, x5, x11, x12, x102000, x102001, x102002 => if 0 ≤ (wrap64 (3 * (x102002.length : Int))) then (if x12 < (shl .i64 1 (wrap64 (3 * (x102002.length : Int)))) then ((luciferlaw01_truly.f k x102000 x102001 x102002 (([Int.tmod x12 4, Int.tmod (wrap64 (Int.tdiv x12 4)) 2, Int.tmod (wrap64 (Int.tdiv x12 8)) 4, Int.tmod (wrap64 (Int.tdiv x12 32)) 2, Int.tmod (wrap64 (Int.tdiv x12 64)) 4, wrap64 (Int.tdiv x12 256)] : List Int))).bind fun bt130 => ((peel_Best.f bt130.1 bt130.2.1 bt130.2.2).bind fun bt138 => (if bt138.2 = 0 then (luciferlaw01_PeelHope.l0 k x5 (mx x11 (bt138.1.length : Int)) (wrap64 (x12 + 1)) x102000 x102001 x102002) else (some false)))) else (if x11 = x5 then ((luciferlaw01_peeled.f).bind fun t126 => (some t126)) else (some false))) else (none)
end
def luciferlaw01_PeelHope.f (k : Nat) (l0_0 : List Int) (a0_1 : Int) (l0_2 : List (S61)) (l1 : List Int) : Option (Bool) := (luciferlaw01_sound.f k l0_0 a0_1 l0_2).bind fun t102 => (if t102 = true then ((peel_Hope.f l0_0 a0_1 l0_2).bind fun bt104 => ((luciferlaw01_truly.f k l0_0 a0_1 l0_2 l1).bind fun bt106 => ((peel_Best.f bt106.1 bt106.2.1 bt106.2.2).bind fun bt113 => ((luciferlaw01_truly.f k l0_0 a0_1 l0_2 l1).bind fun bt117 => ((peel_Hope.f bt117.1 bt117.2.1 bt117.2.2).bind fun bt124 => (if bt104.2 = 0 then (if bt113.2 = 0 then (if bt124.2 = 0 then (if (bt113.1.length : Int) > bt104.1 then (luciferlaw01_PeelHope.j0 k bt104.1 true l0_0 a0_1 l0_2) else (luciferlaw01_PeelHope.j0 k bt104.1 (bt124.1 != (bt113.1.length : Int)) l0_0 a0_1 l0_2)) else (luciferlaw01_PeelHope.j0 k bt104.1 true l0_0 a0_1 l0_2)) else (luciferlaw01_PeelHope.j0 k bt104.1 true l0_0 a0_1 l0_2)) else (luciferlaw01_PeelHope.j0 k bt104.1 true l0_0 a0_1 l0_2))))))) else ((luciferlaw01_peeled.f).bind fun t103 => (some t103)))
theorem luciferlaw01_PeelHope.mono_l : ∀ k, (∀ y0 y1 y2 y3 y4, LeO (luciferlaw01_PeelHope.j0 k y0 y1 y2 y3 y4) (luciferlaw01_PeelHope.j0 (k + 1) y0 y1 y2 y3 y4)) ∧ (∀ y0 y1 y2 y3 y4 y5, LeO (luciferlaw01_PeelHope.l0 k y0 y1 y2 y3 y4 y5) (luciferlaw01_PeelHope.l0 (k + 1) y0 y1 y2 y3 y4 y5))
  | 0 => ⟨fun _ _ _ _ _ r h => by simp [luciferlaw01_PeelHope.j0] at h, fun _ _ _ _ _ _ r h => by simp [luciferlaw01_PeelHope.l0] at h⟩
  | k + 1 => by
    obtain ⟨ih0, ih1⟩ := luciferlaw01_PeelHope.mono_l k
    refine ⟨?_, ?_⟩
    · intro y0 y1 y2 y3 y4
      unfold luciferlaw01_PeelHope.j0
      repeat' first
      | (with_reducible exact ih0 _ _ _ _ _)
      | (with_reducible exact ih1 _ _ _ _ _ _)
      | (with_reducible exact luciferlaw01_sound.mono _ _ _ _)
      | (with_reducible exact luciferlaw01_truly.mono _ _ _ _ _)
      | (with_reducible exact LeO.refl _)
      | (with_reducible exact LeO.none _)
      | (with_reducible refine LeO.ite ?_ ?_)
      | (with_reducible refine LeO.bind ?_ (fun _ => ?_))
      | exact ih0 _ _ _ _ _
      | exact ih1 _ _ _ _ _ _
      | exact luciferlaw01_sound.mono _ _ _ _
      | exact luciferlaw01_truly.mono _ _ _ _ _
      | exact LeO.none _
      | refine LeO.ite ?_ ?_
      | refine LeO.bind ?_ (fun _ => ?_)
    · intro y0 y1 y2 y3 y4 y5
      unfold luciferlaw01_PeelHope.l0
      repeat' first
      | (with_reducible exact ih0 _ _ _ _ _)
      | (with_reducible exact ih1 _ _ _ _ _ _)
      | (with_reducible exact luciferlaw01_sound.mono _ _ _ _)
      | (with_reducible exact luciferlaw01_truly.mono _ _ _ _ _)
      | (with_reducible exact LeO.refl _)
      | (with_reducible exact LeO.none _)
      | (with_reducible refine LeO.ite ?_ ?_)
      | (with_reducible refine LeO.bind ?_ (fun _ => ?_))
      | exact ih0 _ _ _ _ _
      | exact ih1 _ _ _ _ _ _
      | exact luciferlaw01_sound.mono _ _ _ _
      | exact luciferlaw01_truly.mono _ _ _ _ _
      | exact LeO.none _
      | refine LeO.ite ?_ ?_
      | refine LeO.bind ?_ (fun _ => ?_)
theorem luciferlaw01_PeelHope.mono : ∀ a0 a1 a2 a3 k, LeO (luciferlaw01_PeelHope.f k a0 a1 a2 a3) (luciferlaw01_PeelHope.f (k + 1) a0 a1 a2 a3) := by
  intro a0 a1 a2 a3 k
  obtain ⟨ih0, ih1⟩ := luciferlaw01_PeelHope.mono_l k
  unfold luciferlaw01_PeelHope.f
  repeat' first
      | (with_reducible exact ih0 _ _ _ _ _)
      | (with_reducible exact ih1 _ _ _ _ _ _)
      | (with_reducible exact luciferlaw01_sound.mono _ _ _ _)
      | (with_reducible exact luciferlaw01_truly.mono _ _ _ _ _)
      | (with_reducible exact LeO.refl _)
      | (with_reducible exact LeO.none _)
      | (with_reducible refine LeO.ite ?_ ?_)
      | (with_reducible refine LeO.bind ?_ (fun _ => ?_))
      | exact ih0 _ _ _ _ _
      | exact ih1 _ _ _ _ _ _
      | exact luciferlaw01_sound.mono _ _ _ _
      | exact luciferlaw01_truly.mono _ _ _ _ _
      | exact LeO.none _
      | refine LeO.ite ?_ ?_
      | refine LeO.bind ?_ (fun _ => ?_)
set_option maxHeartbeats 8000000 in
set_option maxRecDepth 100000 in
theorem luciferlaw01_PeelHope.calls (k : Nat) (A0_0 : Option Addr) (c0_0 : Nat) (l0_0 : List Int) (a0_1 : Int) (A0_2 : Option Addr) (c0_2 : Nat) (l0_2 : List (S61)) (A1 : Option Addr) (c1 : Nat) (l1 : List Int) (r : Bool) (w : World) (hr0_0 : Kd.C (Kd.int .i64) w A0_0 l0_0.length l0_0) (hc0_0 : l0_0.length ≤ c0_0) (hr0_2 : Kd.C k61 w A0_2 l0_2.length l0_2) (hc0_2 : l0_2.length ≤ c0_2) (hr1 : Kd.C (Kd.int .i64) w A1 l1.length l1) (hc1 : l1.length ≤ c1) (hE : Go.Proofs.YtigofgdmefobaaaDoor.Peel.EndsAt w) (hT : r = true) (h : luciferlaw01_PeelHope.f k l0_0 a0_1 l0_2 l1 = some r) :
    Calls Tryd.prog 9 #[.agg #[.slice A0_0 l0_0.length c0_0, .int .i64 a0_1, .slice A0_2 l0_2.length c0_2], .slice A1 l1.length c1] w fun e w' => e = .returned (.bool r) ∧ Below w.heap.size w w' := by
  have hu25 := Tryd.underlying25
  have HE := Aside0.mk hE
  clear hE
  have HR0_0 := Aside0.mk hr0_0
  have HC0_0 := Aside0.mk hc0_0
  clear hr0_0 hc0_0
  have HR0_2 := Aside0.mk hr0_2
  have HC0_2 := Aside0.mk hc0_2
  clear hr0_2 hc0_2
  have HR1 := Aside0.mk hr1
  have HC1 := Aside0.mk hc1
  clear hr1 hc1
  have HB := Aside0.mk (Below.refl w.heap.size w)
  have H : ((luciferlaw01_sound.f k l0_0 a0_1 l0_2).bind fun t102 => (if t102 = true then ((peel_Hope.f l0_0 a0_1 l0_2).bind fun bt104 => ((luciferlaw01_truly.f k l0_0 a0_1 l0_2 l1).bind fun bt106 => ((peel_Best.f bt106.1 bt106.2.1 bt106.2.2).bind fun bt113 => ((luciferlaw01_truly.f k l0_0 a0_1 l0_2 l1).bind fun bt117 => ((peel_Hope.f bt117.1 bt117.2.1 bt117.2.2).bind fun bt124 => (if bt104.2 = 0 then (if bt113.2 = 0 then (if bt124.2 = 0 then (if (bt113.1.length : Int) > bt104.1 then (luciferlaw01_PeelHope.j0 k bt104.1 true l0_0 a0_1 l0_2) else (luciferlaw01_PeelHope.j0 k bt104.1 (bt124.1 != (bt113.1.length : Int)) l0_0 a0_1 l0_2)) else (luciferlaw01_PeelHope.j0 k bt104.1 true l0_0 a0_1 l0_2)) else (luciferlaw01_PeelHope.j0 k bt104.1 true l0_0 a0_1 l0_2)) else (luciferlaw01_PeelHope.j0 k bt104.1 true l0_0 a0_1 l0_2))))))) else ((luciferlaw01_peeled.f).bind fun t103 => (some t103)))) = some r := h
  clear h
  replace H := Option.bind_eq_some_iff.mp H
  obtain ⟨t102, A30, H⟩ := H
  replace H : (if t102 = true then ((peel_Hope.f l0_0 a0_1 l0_2).bind fun bt104 => ((luciferlaw01_truly.f k l0_0 a0_1 l0_2 l1).bind fun bt106 => ((peel_Best.f bt106.1 bt106.2.1 bt106.2.2).bind fun bt113 => ((luciferlaw01_truly.f k l0_0 a0_1 l0_2 l1).bind fun bt117 => ((peel_Hope.f bt117.1 bt117.2.1 bt117.2.2).bind fun bt124 => (if bt104.2 = 0 then (if bt113.2 = 0 then (if bt124.2 = 0 then (if (bt113.1.length : Int) > bt104.1 then (luciferlaw01_PeelHope.j0 k bt104.1 true l0_0 a0_1 l0_2) else (luciferlaw01_PeelHope.j0 k bt104.1 (bt124.1 != (bt113.1.length : Int)) l0_0 a0_1 l0_2)) else (luciferlaw01_PeelHope.j0 k bt104.1 true l0_0 a0_1 l0_2)) else (luciferlaw01_PeelHope.j0 k bt104.1 true l0_0 a0_1 l0_2)) else (luciferlaw01_PeelHope.j0 k bt104.1 true l0_0 a0_1 l0_2))))))) else ((luciferlaw01_peeled.f).bind fun t103 => (some t103))) = some r := H
  have A3 := Aside0.mk A30
  clear A30
  by_cases c4 : t102 = true
  · subst c4
    have H1 : ((peel_Hope.f l0_0 a0_1 l0_2).bind fun bt104 => ((luciferlaw01_truly.f k l0_0 a0_1 l0_2 l1).bind fun bt106 => ((peel_Best.f bt106.1 bt106.2.1 bt106.2.2).bind fun bt113 => ((luciferlaw01_truly.f k l0_0 a0_1 l0_2 l1).bind fun bt117 => ((peel_Hope.f bt117.1 bt117.2.1 bt117.2.2).bind fun bt124 => (if bt104.2 = 0 then (if bt113.2 = 0 then (if bt124.2 = 0 then (if (bt113.1.length : Int) > bt104.1 then (luciferlaw01_PeelHope.j0 k bt104.1 true l0_0 a0_1 l0_2) else (luciferlaw01_PeelHope.j0 k bt104.1 (bt124.1 != (bt113.1.length : Int)) l0_0 a0_1 l0_2)) else (luciferlaw01_PeelHope.j0 k bt104.1 true l0_0 a0_1 l0_2)) else (luciferlaw01_PeelHope.j0 k bt104.1 true l0_0 a0_1 l0_2)) else (luciferlaw01_PeelHope.j0 k bt104.1 true l0_0 a0_1 l0_2))))))) = some r := by rw [if_pos rfl] at H; exact H
    clear H
    have H := H1
    clear H1
    replace H := Option.bind_eq_some_iff.mp H
    obtain ⟨⟨t104, t105⟩, A50, H⟩ := H
    replace H : ((luciferlaw01_truly.f k l0_0 a0_1 l0_2 l1).bind fun bt106 => ((peel_Best.f bt106.1 bt106.2.1 bt106.2.2).bind fun bt113 => ((luciferlaw01_truly.f k l0_0 a0_1 l0_2 l1).bind fun bt117 => ((peel_Hope.f bt117.1 bt117.2.1 bt117.2.2).bind fun bt124 => (if t105 = 0 then (if bt113.2 = 0 then (if bt124.2 = 0 then (if (bt113.1.length : Int) > t104 then (luciferlaw01_PeelHope.j0 k t104 true l0_0 a0_1 l0_2) else (luciferlaw01_PeelHope.j0 k t104 (bt124.1 != (bt113.1.length : Int)) l0_0 a0_1 l0_2)) else (luciferlaw01_PeelHope.j0 k t104 true l0_0 a0_1 l0_2)) else (luciferlaw01_PeelHope.j0 k t104 true l0_0 a0_1 l0_2)) else (luciferlaw01_PeelHope.j0 k t104 true l0_0 a0_1 l0_2)))))) = some r := H
    have A5 := Aside0.mk A50
    clear A50
    replace H := Option.bind_eq_some_iff.mp H
    obtain ⟨⟨t106, t109, t110⟩, A60, H⟩ := H
    replace H : ((peel_Best.f t106 t109 t110).bind fun bt113 => ((luciferlaw01_truly.f k l0_0 a0_1 l0_2 l1).bind fun bt117 => ((peel_Hope.f bt117.1 bt117.2.1 bt117.2.2).bind fun bt124 => (if t105 = 0 then (if bt113.2 = 0 then (if bt124.2 = 0 then (if (bt113.1.length : Int) > t104 then (luciferlaw01_PeelHope.j0 k t104 true l0_0 a0_1 l0_2) else (luciferlaw01_PeelHope.j0 k t104 (bt124.1 != (bt113.1.length : Int)) l0_0 a0_1 l0_2)) else (luciferlaw01_PeelHope.j0 k t104 true l0_0 a0_1 l0_2)) else (luciferlaw01_PeelHope.j0 k t104 true l0_0 a0_1 l0_2)) else (luciferlaw01_PeelHope.j0 k t104 true l0_0 a0_1 l0_2))))) = some r := H
    have A6 := Aside0.mk A60
    clear A60
    replace H := Option.bind_eq_some_iff.mp H
    obtain ⟨⟨t113, t116⟩, A70, H⟩ := H
    replace H : ((luciferlaw01_truly.f k l0_0 a0_1 l0_2 l1).bind fun bt117 => ((peel_Hope.f bt117.1 bt117.2.1 bt117.2.2).bind fun bt124 => (if t105 = 0 then (if t116 = 0 then (if bt124.2 = 0 then (if (t113.length : Int) > t104 then (luciferlaw01_PeelHope.j0 k t104 true l0_0 a0_1 l0_2) else (luciferlaw01_PeelHope.j0 k t104 (bt124.1 != (t113.length : Int)) l0_0 a0_1 l0_2)) else (luciferlaw01_PeelHope.j0 k t104 true l0_0 a0_1 l0_2)) else (luciferlaw01_PeelHope.j0 k t104 true l0_0 a0_1 l0_2)) else (luciferlaw01_PeelHope.j0 k t104 true l0_0 a0_1 l0_2)))) = some r := H
    have A7 := Aside0.mk A70
    clear A70
    replace H := Option.bind_eq_some_iff.mp H
    obtain ⟨⟨t117, t120, t121⟩, A80, H⟩ := H
    replace H : ((peel_Hope.f t117 t120 t121).bind fun bt124 => (if t105 = 0 then (if t116 = 0 then (if bt124.2 = 0 then (if (t113.length : Int) > t104 then (luciferlaw01_PeelHope.j0 k t104 true l0_0 a0_1 l0_2) else (luciferlaw01_PeelHope.j0 k t104 (bt124.1 != (t113.length : Int)) l0_0 a0_1 l0_2)) else (luciferlaw01_PeelHope.j0 k t104 true l0_0 a0_1 l0_2)) else (luciferlaw01_PeelHope.j0 k t104 true l0_0 a0_1 l0_2)) else (luciferlaw01_PeelHope.j0 k t104 true l0_0 a0_1 l0_2))) = some r := H
    have A8 := Aside0.mk A80
    clear A80
    replace H := Option.bind_eq_some_iff.mp H
    obtain ⟨⟨t124, t125⟩, A90, H⟩ := H
    replace H : (if t105 = 0 then (if t116 = 0 then (if t125 = 0 then (if (t113.length : Int) > t104 then (luciferlaw01_PeelHope.j0 k t104 true l0_0 a0_1 l0_2) else (luciferlaw01_PeelHope.j0 k t104 (t124 != (t113.length : Int)) l0_0 a0_1 l0_2)) else (luciferlaw01_PeelHope.j0 k t104 true l0_0 a0_1 l0_2)) else (luciferlaw01_PeelHope.j0 k t104 true l0_0 a0_1 l0_2)) else (luciferlaw01_PeelHope.j0 k t104 true l0_0 a0_1 l0_2)) = some r := H
    have A9 := Aside0.mk A90
    clear A90
    have HC10 := Aside0.mk H
    clear H
    go_enter Tryd.func9, Tryd.ntmps9
    go_upto_region 6 with (first | ((with_reducible refine gate_dst (N := 2) rfl ?_); refine box_event ?hg (N := 2) ?hd (cs := #[.slice A0_0 l0_0.length c0_0, .int .i64 a0_1, .slice A0_2 l0_2.length c0_2]) (t := 25) ?hr ?_; (case hd => rfl); (case hg => rfl); (case hr => first | (go_simp; done) | (go_simp; rfl)); intro gb101 hg w11 hbox hb; have n0_ := Aside0.mk (below_step (B_) hb); have n1_ := Aside0.mk (hbox); have n2_ := Aside0.mk ((by rw [hg]; exact (below_size (B_)) : w.heap.size ≤ gb101)); have n3_ := Aside0.mk ((by rw [hg]; exact (below_size (B_)) : w.heap.size ≤ gb101)); clear HB; have HB := n0_; have BK101 := n1_; have GW101 := n2_; have GE101 := n3_; clear n0_ n1_ n2_ n3_; clear hb hbox hg; obtain ⟨hcz12_0, hcz12_1, hcz12_2, hfz12_0, hfz12_1, hfz12_2⟩ := cz3 BK101) | ((with_reducible refine gate_callee (f := 39) rfl ?_); refine goesL_ (some 17) rfl rfl Tryd.func39 (by kernel_rfl) rfl #[.agg #[.slice A0_0 l0_0.length c0_0, .int .i64 a0_1, .slice A0_2 l0_2.length c0_2]] rfl (by (try simp only [List.map_toArray, List.map_cons, List.map_nil]); first | done | rfl | (simp only [List.length_drop, List.length_take]; rfl)) ?_; (with_reducible refine (luciferlaw01_sound.calls k _ _ l0_0 a0_1 _ _ l0_2 true _ ?side1 ?side2 ?side3 ?side4 A3.out).mono ?_); (case side1 => exact C_ HR0_0); (case side2 => exact HC0_0.out); (case side3 => exact C_ HR0_2); (case side4 => exact HC0_2.out); rintro e w13 ⟨rfl, hb⟩; refine ⟨_, rfl, ?_⟩; have n0_ := Aside0.mk (blk_below (g := gb101) (o := .cells #[.slice A0_0 l0_0.length c0_0, .int .i64 a0_1, .slice A0_2 l0_2.length c0_2] 25 (0, 0)) (K_ BK101) hb); have n1_ := Aside0.mk (below_step (B_) hb); clear BK101; clear HB; have BK101 := n0_; have HB := n1_; clear n0_ n1_; (try clear hb); (try clear hb2); (try clear hk); (try clear hi); obtain ⟨hcz14_0, hcz14_1, hcz14_2, hfz14_0, hfz14_1, hfz14_2⟩ := cz3 BK101) | ((with_reducible refine gate_callee (f := 35) rfl ?_); refine goesL_ (some 22) rfl rfl Tryd.func35 (by kernel_rfl) rfl #[.agg #[.slice A0_0 l0_0.length c0_0, .int .i64 a0_1, .slice A0_2 l0_2.length c0_2]] rfl (by (try simp only [List.map_toArray, List.map_cons, List.map_nil]); first | done | rfl | (simp only [List.length_drop, List.length_take]; rfl)) ?_; (with_reducible refine (peel_Hope.calls _ _ l0_0 a0_1 _ _ l0_2 t104 t105 _ ?side1 ?side2 ?side3 ?side4 ?side5 A5.out).mono ?_); (case side1 => exact C_ HR0_0); (case side2 => exact HC0_0.out); (case side3 => exact C_ HR0_2); (case side4 => exact HC0_2.out); (case side5 => exact Go.Proofs.YtigofgdmefobaaaDoor.Peel.EndsAt.below HE.out (B_)); rintro e w15 ⟨rfl, hb⟩; refine ⟨_, rfl, ?_⟩; have n0_ := Aside0.mk (blk_below (g := gb101) (o := .cells #[.slice A0_0 l0_0.length c0_0, .int .i64 a0_1, .slice A0_2 l0_2.length c0_2] 25 (0, 0)) (K_ BK101) hb); have n1_ := Aside0.mk (below_step (B_) hb); clear BK101; clear HB; have BK101 := n0_; have HB := n1_; clear n0_ n1_; (try clear hb); (try clear hb2); (try clear hk); (try clear hi); obtain ⟨hcz16_0, hcz16_1, hcz16_2, hfz16_0, hfz16_1, hfz16_2⟩ := cz3 BK101) | ((with_reducible refine gate_callee (f := 41) rfl ?_); refine goesL_ (some 28) rfl rfl Tryd.func41 (by kernel_rfl) rfl #[.agg #[.slice A0_0 l0_0.length c0_0, .int .i64 a0_1, .slice A0_2 l0_2.length c0_2], .slice A1 l1.length c1] rfl (by (try simp only [List.map_toArray, List.map_cons, List.map_nil]); first | done | rfl | (simp only [List.length_drop, List.length_take]; rfl)) ?_; (with_reducible refine (luciferlaw01_truly.calls k (fun k_ => k_ < w.heap.size) _ _ l0_0 a0_1 _ _ l0_2 _ _ l1 t106 t109 t110 _ ?side1 ?side2 ?side3 ?side4 ?side5 A6.out).mono ?_); (case side1 => exact Kd.V_mk HC0_0.out (Kd.F_below (Kd.C_F (Kd.heap_int .i64) HR0_0.out) (B_))); (case side2 => exact C_ HR0_2); (case side3 => exact HC0_2.out); (case side4 => exact C_ HR1); (case side5 => exact HC1.out); rintro e w17 ⟨v107, v111, rfl, ho0, ho1, hb⟩; refine ⟨_, rfl, ?_⟩; have n0_ := Aside0.mk (Kd.V_lower (Kd.V_mono (ok' := fun k_ => some k_ ≠ (v111 : Value).ownBlock ∧ k_ ≠ gb101) ho0 (fun k_ hk_ => ⟨hk_.2, Or.elim hk_.1 (fun hs_ => fun e_ => Nat.not_le.2 hs_ (by rw [e_]; exact GW101.out)) (fun hn_ => (Kd.freshB (g := gb101) (o := .cells #[.slice A0_0 l0_0.length c0_0, .int .i64 a0_1, .slice A0_2 l0_2.length c0_2] 25 (0, 0)) (K_ BK101) k_ hn_))⟩)) (below_size (B_))); have n1_ := Aside0.mk (Kd.R_lower (Kd.R_mono (ok' := fun k_ => True) ho1 (fun _ hk_ => trivial)) (below_size (B_))); have n2_ := Aside0.mk (blk_below (g := gb101) (o := .cells #[.slice A0_0 l0_0.length c0_0, .int .i64 a0_1, .slice A0_2 l0_2.length c0_2] 25 (0, 0)) (K_ BK101) hb); have n3_ := Aside0.mk (below_step (B_) hb); clear BK101; clear HB; have HO108 := n0_; have HO112 := n1_; have BK101 := n2_; have HB := n3_; clear n0_ n1_ n2_ n3_; (try clear hb); (try clear hb2); (try clear hk); (try clear hi); (try clear ho0); (try clear ho1); obtain ⟨Ao18, co18, eo18⟩ := Kd.V_slice HO108.out; subst eo18; obtain ⟨Ao19, co19, eo19⟩ := Kd.R_slice HO112.out; subst eo19) | ((with_reducible refine gate_callee (f := 30) rfl ?_); refine goesL_ (some 29) rfl rfl Tryd.func30 (by kernel_rfl) rfl #[.agg #[.slice Ao18 t106.length co18, .int .i64 t109, .slice Ao19 t110.length co19]] rfl (by (try simp only [List.map_toArray, List.map_cons, List.map_nil]); first | done | rfl | (simp only [List.length_drop, List.length_take]; rfl)) ?_; (with_reducible refine (peel_Best.calls _ _ t106 t109 _ _ t110 t113 t116 _ ?side1 ?side2 ?side3 ?side4 ?side5 A7.out).mono ?_); (case side1 => repeat (first | exact (Kd.V_reads' HO108.out).2.2 | (with_reducible refine Kd.C_alloc ?_ _) | (with_reducible refine Kd.C_drewN ?_ _) | (with_reducible refine Kd.C_drew ?_))); (case side2 => exact (Kd.V_reads' HO108.out).2.1); (case side3 => repeat (first | exact (Kd.R_reads' HO112.out).2.2 | (with_reducible refine Kd.C_alloc ?_ _) | (with_reducible refine Kd.C_drewN ?_ _) | (with_reducible refine Kd.C_drew ?_))); (case side4 => exact (Kd.R_reads' HO112.out).2.1); (case side5 => exact Go.Proofs.YtigofgdmefobaaaDoor.Peel.EndsAt.below HE.out (B_)); rintro e w20 ⟨v114, rfl, ho0, hb⟩; refine ⟨_, rfl, ?_⟩; have n0_ := Aside0.mk (Kd.V_below (by (with_reducible repeat (first | apply Kd.V_alloc | apply Kd.V_drewN | apply Kd.V_drew)); exact HO108.out) hb); have n1_ := Aside0.mk (Kd.R_below (R_ HO112) hb); have n2_ := Aside0.mk (Kd.V_lower (Kd.V_mono (ok' := fun k_ => some k_ ≠ (.slice Ao19 t110.length co19 : Value).ownBlock ∧ k_ ≠ gb101) ho0 (fun k_ hk_ => ⟨(Kd.fresh' (Kd.R_lt (R_ HO112)) k_ hk_), (Kd.freshB (g := gb101) (o := .cells #[.slice A0_0 l0_0.length c0_0, .int .i64 a0_1, .slice A0_2 l0_2.length c0_2] 25 (0, 0)) (K_ BK101) k_ hk_)⟩)) (below_size (B_))); have n3_ := Aside0.mk (blk_below (g := gb101) (o := .cells #[.slice A0_0 l0_0.length c0_0, .int .i64 a0_1, .slice A0_2 l0_2.length c0_2] 25 (0, 0)) (K_ BK101) hb); have n4_ := Aside0.mk (below_step (B_) hb); clear HO108; clear HO112; clear BK101; clear HB; have HO108 := n0_; have HO112 := n1_; have HO115 := n2_; have BK101 := n3_; have HB := n4_; clear n0_ n1_ n2_ n3_ n4_; (try clear hb); (try clear hb2); (try clear hk); (try clear hi); (try clear ho0); obtain ⟨hcz21_0, hcz21_1, hcz21_2, hfz21_0, hfz21_1, hfz21_2⟩ := cz3 BK101) | ((with_reducible refine gate_callee (f := 41) rfl ?_); refine goesL_ (some 35) rfl rfl Tryd.func41 (by kernel_rfl) rfl #[.agg #[.slice A0_0 l0_0.length c0_0, .int .i64 a0_1, .slice A0_2 l0_2.length c0_2], .slice A1 l1.length c1] rfl (by (try simp only [List.map_toArray, List.map_cons, List.map_nil]); first | done | rfl | (simp only [List.length_drop, List.length_take]; rfl)) ?_; (with_reducible refine (luciferlaw01_truly.calls k (fun k_ => k_ < w.heap.size) _ _ l0_0 a0_1 _ _ l0_2 _ _ l1 t117 t120 t121 _ ?side1 ?side2 ?side3 ?side4 ?side5 A8.out).mono ?_); (case side1 => exact Kd.V_mk HC0_0.out (Kd.F_below (Kd.C_F (Kd.heap_int .i64) HR0_0.out) (B_))); (case side2 => exact C_ HR0_2); (case side3 => exact HC0_2.out); (case side4 => exact C_ HR1); (case side5 => exact HC1.out); rintro e w22 ⟨v118, v122, rfl, ho0, ho1, hb⟩; refine ⟨_, rfl, ?_⟩; have n0_ := Aside0.mk (Kd.V_elder' (by (with_reducible repeat (first | apply Kd.V_alloc | apply Kd.V_drewN | apply Kd.V_drew)); exact HO108.out) (Kd.R_base ho1) hb); have n1_ := Aside0.mk (Kd.R_elder' (R_ HO112) (Kd.R_base ho1) hb); have n2_ := Aside0.mk (Kd.V_elder' (by (with_reducible repeat (first | apply Kd.V_alloc | apply Kd.V_drewN | apply Kd.V_drew)); exact HO115.out) (Kd.R_base ho1) hb); have n3_ := Aside0.mk (Kd.V_lower (Kd.V_mono (ok' := fun k_ => some k_ ≠ (v122 : Value).ownBlock ∧ some k_ ≠ (.slice Ao19 t110.length co19 : Value).ownBlock ∧ k_ ≠ gb101) ho0 (fun k_ hk_ => ⟨hk_.2, Or.elim hk_.1 (fun hs_ => fun e_ => Nat.not_le.2 hs_ (Kd.R_base HO112.out k_ e_.symm)) (fun hn_ => (Kd.fresh' (Kd.R_lt (R_ HO112)) k_ hn_)), Or.elim hk_.1 (fun hs_ => fun e_ => Nat.not_le.2 hs_ (by rw [e_]; exact GW101.out)) (fun hn_ => (Kd.freshB (g := gb101) (o := .cells #[.slice A0_0 l0_0.length c0_0, .int .i64 a0_1, .slice A0_2 l0_2.length c0_2] 25 (0, 0)) (K_ BK101) k_ hn_))⟩)) (below_size (B_))); have n4_ := Aside0.mk (Kd.R_lower (Kd.R_new' (Kd.R_mono (ok' := fun k_ => True) ho1 (fun _ hk_ => trivial)) (Kd.R_lt (R_ HO112))) (below_size (B_))); have n5_ := Aside0.mk (blk_below (g := gb101) (o := .cells #[.slice A0_0 l0_0.length c0_0, .int .i64 a0_1, .slice A0_2 l0_2.length c0_2] 25 (0, 0)) (K_ BK101) hb); have n6_ := Aside0.mk (below_step (B_) hb); clear HO108; clear HO112; clear HO115; clear BK101; clear HB; have HO108 := n0_; have HO112 := n1_; have HO115 := n2_; have HO119 := n3_; have HO123 := n4_; have BK101 := n5_; have HB := n6_; clear n0_ n1_ n2_ n3_ n4_ n5_ n6_; (try clear hb); (try clear hb2); (try clear hk); (try clear hi); (try clear ho0); (try clear ho1); obtain ⟨Ao23, co23, eo23⟩ := Kd.V_slice HO119.out; subst eo23; obtain ⟨Ao24, co24, eo24⟩ := Kd.R_slice HO123.out; subst eo24) | ((with_reducible refine gate_callee (f := 35) rfl ?_); refine goesL_ (some 36) rfl rfl Tryd.func35 (by kernel_rfl) rfl #[.agg #[.slice Ao23 t117.length co23, .int .i64 t120, .slice Ao24 t121.length co24]] rfl (by (try simp only [List.map_toArray, List.map_cons, List.map_nil]); first | done | rfl | (simp only [List.length_drop, List.length_take]; rfl)) ?_; (with_reducible refine (peel_Hope.calls _ _ t117 t120 _ _ t121 t124 t125 _ ?side1 ?side2 ?side3 ?side4 ?side5 A9.out).mono ?_); (case side1 => repeat (first | exact (Kd.V_reads' HO119.out).2.2 | (with_reducible refine Kd.C_alloc ?_ _) | (with_reducible refine Kd.C_drewN ?_ _) | (with_reducible refine Kd.C_drew ?_))); (case side2 => exact (Kd.V_reads' HO119.out).2.1); (case side3 => repeat (first | exact (Kd.R_reads' HO123.out).2.2 | (with_reducible refine Kd.C_alloc ?_ _) | (with_reducible refine Kd.C_drewN ?_ _) | (with_reducible refine Kd.C_drew ?_))); (case side4 => exact (Kd.R_reads' HO123.out).2.1); (case side5 => exact Go.Proofs.YtigofgdmefobaaaDoor.Peel.EndsAt.below HE.out (B_)); rintro e w25 ⟨rfl, hb⟩; refine ⟨_, rfl, ?_⟩; have n0_ := Aside0.mk (Kd.V_below (by (with_reducible repeat (first | apply Kd.V_alloc | apply Kd.V_drewN | apply Kd.V_drew)); exact HO108.out) hb); have n1_ := Aside0.mk (Kd.R_below (R_ HO112) hb); have n2_ := Aside0.mk (Kd.V_below (by (with_reducible repeat (first | apply Kd.V_alloc | apply Kd.V_drewN | apply Kd.V_drew)); exact HO115.out) hb); have n3_ := Aside0.mk (Kd.V_below (by (with_reducible repeat (first | apply Kd.V_alloc | apply Kd.V_drewN | apply Kd.V_drew)); exact HO119.out) hb); have n4_ := Aside0.mk (Kd.R_below (R_ HO123) hb); have n5_ := Aside0.mk (blk_below (g := gb101) (o := .cells #[.slice A0_0 l0_0.length c0_0, .int .i64 a0_1, .slice A0_2 l0_2.length c0_2] 25 (0, 0)) (K_ BK101) hb); have n6_ := Aside0.mk (below_step (B_) hb); clear HO108; clear HO112; clear HO115; clear HO119; clear HO123; clear BK101; clear HB; have HO108 := n0_; have HO112 := n1_; have HO115 := n2_; have HO119 := n3_; have HO123 := n4_; have BK101 := n5_; have HB := n6_; clear n0_ n1_ n2_ n3_ n4_ n5_ n6_; (try clear hb); (try clear hb2); (try clear hk); (try clear hi)))
    (try simp only [Act.put, List.setIfInBounds_toArray, List.set_cons_zero, List.set_cons_succ])
    go_cut [60] (fun v60 wc => ∃ (kq : Nat) (x60_9 : Bool), v60 = .bool x60_9 ∧ Aside0 (luciferlaw01_PeelHope.j0 kq t104 x60_9 l0_0 a0_1 l0_2 = some r) ∧ Aside0 (kq ≤ k) ∧ Aside0 (wc.heap[gb101]? = some (.cells #[(.slice A0_0 l0_0.length c0_0), .int .i64 a0_1, (.slice A0_2 l0_2.length c0_2)] 25 (0, 0))) ∧ Aside0 (Below w.heap.size w wc))
    case first =>
      have H := HC10.out
      clear HC10
      by_cases c26 : t105 = 0
      · rw [if_pos c26] at H
        have c26b0 : (t105 == 0) = true := beq_iff_eq.mpr c26
        have c26b1 : (t105 != 0) = false := bne_eq_false_iff_eq.mpr c26
        clear c26
        (first | rw [c26b0] | (simp only [i64_w, i32_w]; rw [c26b0]) | skip)
        by_cases c27 : t116 = 0
        · rw [if_pos c27] at H
          have c27b0 : (t116 == 0) = true := beq_iff_eq.mpr c27
          have c27b1 : (t116 != 0) = false := bne_eq_false_iff_eq.mpr c27
          clear c27
          by_cases c28 : t125 = 0
          · rw [if_pos c28] at H
            have c28b0 : (t125 == 0) = true := beq_iff_eq.mpr c28
            have c28b1 : (t125 != 0) = false := bne_eq_false_iff_eq.mpr c28
            clear c28
            by_cases c29 : (t113.length : Int) > t104
            · rw [if_pos c29] at H
              have c29b0 : decide (t104 < (t113.length : Int)) = true := decide_eq_true c29
              clear c29
              have H' := Aside0.mk H
              clear H
              obtain ⟨Ao30, co30, eo30⟩ := Kd.V_slice HO115.out
              subst eo30
              go_wp2
              go_meet
              case rel => exact ⟨_, (true), S_, H', ⟨by first | omega | exact Nat.le_refl _⟩, ⟨K_ BK101⟩, ⟨B_⟩⟩
            · rw [if_neg c29] at H
              have c29b0 : decide (t104 < (t113.length : Int)) = false := decide_eq_false c29
              clear c29
              have H' := Aside0.mk H
              clear H
              obtain ⟨Ao31, co31, eo31⟩ := Kd.V_slice HO115.out
              subst eo31
              go_wp2
              go_meet
              case rel => exact ⟨_, ((t124 != (t113.length : Int))), S_, H', ⟨by first | omega | exact Nat.le_refl _⟩, ⟨K_ BK101⟩, ⟨B_⟩⟩
          · rw [if_neg c28] at H
            have c28b0 : (t125 == 0) = false := beq_eq_false_iff_ne.mpr c28
            have c28b1 : (t125 != 0) = true := bne_iff_ne.mpr c28
            have H' := Aside0.mk H
            clear H
            go_wp2
            go_meet
            case rel => exact ⟨_, (true), S_, H', ⟨by first | omega | exact Nat.le_refl _⟩, ⟨K_ BK101⟩, ⟨B_⟩⟩
        · rw [if_neg c27] at H
          have c27b0 : (t116 == 0) = false := beq_eq_false_iff_ne.mpr c27
          have c27b1 : (t116 != 0) = true := bne_iff_ne.mpr c27
          have H' := Aside0.mk H
          clear H
          go_wp2
          go_meet
          case rel => exact ⟨_, (true), S_, H', ⟨by first | omega | exact Nat.le_refl _⟩, ⟨K_ BK101⟩, ⟨B_⟩⟩
      · rw [if_neg c26] at H
        have c26b0 : (t105 == 0) = false := beq_eq_false_iff_ne.mpr c26
        have c26b1 : (t105 != 0) = true := bne_iff_ne.mpr c26
        (first | rw [c26b0] | (simp only [i64_w, i32_w]; rw [c26b0]) | skip)
        have H' := Aside0.mk H
        clear H
        go_wp2
        go_meet
        case rel => exact ⟨_, (true), S_, H', ⟨by first | omega | exact Nat.le_refl _⟩, ⟨K_ BK101⟩, ⟨B_⟩⟩
    case rest =>
      clear HC10
      try clear c1; try clear c2; try clear p2; try clear c3; try clear c4; try clear c9; try clear c26; try clear c26b0; try clear c26b1; try clear c27; try clear c27b0; try clear c27b1; try clear c28; try clear c28b0; try clear c28b1; try clear c29; try clear c29b0; try clear c30; try clear hcz12_0; try clear hcz12_1; try clear hcz12_2; try clear hcz14_0; try clear hcz14_1; try clear hcz14_2; try clear hcz16_0; try clear hcz16_1; try clear hcz16_2; try clear hcz21_0; try clear hcz21_1; try clear hcz21_2; try clear hfz12_0; try clear hfz12_1; try clear hfz12_2; try clear hfz14_0; try clear hfz14_1; try clear hfz14_2; try clear hfz16_0; try clear hfz16_1; try clear hfz16_2; try clear hfz21_0; try clear hfz21_1; try clear hfz21_2
      obtain ⟨kq, x60_9, rfl, HA, HJ9, BK101, HB⟩ := hcut
      cases kq with
      | zero => exact absurd HA.out (by simp [luciferlaw01_PeelHope.j0])
      | succ kj9 =>
        have H := HA.out
        clear HA
        simp only [luciferlaw01_PeelHope.j0] at H
        by_cases c32 : x60_9 = true
        · subst c32
          have H1 : (some false) = some r := by rw [if_pos rfl] at H; exact H
          clear H
          have H := H1
          clear H1
          exact absurd (Option.some.inj H) (by rw [hT]; decide)
        · replace c32 := Bool.eq_false_iff.mpr c32
          subst c32
          have H1 : (luciferlaw01_PeelHope.l0 kj9 t104 0 0 l0_0 a0_1 l0_2) = some r := by rw [if_neg (show ¬ (false = true) by decide)] at H; exact H
          clear H
          have H := H1
          clear H1
          have H' := Aside0.mk H
          clear H
          go_wp2
          go_loopg [11, 12] kj9 (fun kq v11 v12 w' => ∃ (x11_2 : Int) (x12_2 : Int), v11 = .int .i64 x11_2 ∧ v12 = .int .i64 x12_2 ∧ Aside0 (luciferlaw01_PeelHope.l0 kq t104 x11_2 x12_2 l0_0 a0_1 l0_2 = some r) ∧ Aside0 (kq ≤ kj9) ∧ Aside0 (w'.heap[gb101]? = some (.cells #[(.slice A0_0 l0_0.length c0_0), .int .i64 a0_1, (.slice A0_2 l0_2.length c0_2)] 25 (0, 0))) ∧ Aside0 (Below w.heap.size w w'))
          case atStart => exact ⟨(0), (0), S_, S_, H', ⟨Nat.le_refl _⟩, ⟨K_ BK101⟩, ⟨B_⟩⟩
          case round =>
            clear H'
            try clear c1; try clear c2; try clear p2; try clear c3; try clear c4; try clear c9; try clear c26; try clear c26b0; try clear c26b1; try clear c27; try clear c27b0; try clear c27b1; try clear c28; try clear c28b0; try clear c28b1; try clear c29; try clear c29b0; try clear c30; try clear c32; try clear hcz12_0; try clear hcz12_1; try clear hcz12_2; try clear hcz14_0; try clear hcz14_1; try clear hcz14_2; try clear hcz16_0; try clear hcz16_1; try clear hcz16_2; try clear hcz21_0; try clear hcz21_1; try clear hcz21_2; try clear hfz12_0; try clear hfz12_1; try clear hfz12_2; try clear hfz14_0; try clear hfz14_1; try clear hfz14_2; try clear hfz16_0; try clear hfz16_1; try clear hfz16_2; try clear hfz21_0; try clear hfz21_1; try clear hfz21_2; try clear p2
            obtain ⟨x11_2, x12_2, rfl, rfl, HA, HK2, BK101, HB⟩ := hrel
            cases gk with
            | zero => exact absurd HA.out (by simp [luciferlaw01_PeelHope.l0])
            | succ k2 =>
              have H := HA.out
              clear HA
              simp only [luciferlaw01_PeelHope.l0] at H
              obtain ⟨ji33, hji33⟩ : ∃ j_ : Int, (wrap64 (3 * (l0_2.length : Int))) = j_ := ⟨_, rfl⟩
              replace H : (if 0 ≤ (ji33) then (if x12_2 < (shl .i64 1 (ji33)) then ((luciferlaw01_truly.f k2 l0_0 a0_1 l0_2 (([Int.tmod x12_2 4, Int.tmod (wrap64 (Int.tdiv x12_2 4)) 2, Int.tmod (wrap64 (Int.tdiv x12_2 8)) 4, Int.tmod (wrap64 (Int.tdiv x12_2 32)) 2, Int.tmod (wrap64 (Int.tdiv x12_2 64)) 4, wrap64 (Int.tdiv x12_2 256)] : List Int))).bind fun bt130 => ((peel_Best.f bt130.1 bt130.2.1 bt130.2.2).bind fun bt138 => (if bt138.2 = 0 then (luciferlaw01_PeelHope.l0 k2 t104 (mx x11_2 (bt138.1.length : Int)) (wrap64 (x12_2 + 1)) l0_0 a0_1 l0_2) else (some false)))) else (if x11_2 = t104 then ((luciferlaw01_peeled.f).bind fun t126 => (some t126)) else (some false))) else (none)) = some r := by first | (rw [hji33] at H; exact H) | (simp only [hji33] at H ⊢; exact H)
              have hji33w : (IntKind.i64.wrap (3 * (l0_2.length : Int))) = ji33 := (i64_w _).trans hji33
              by_cases c34 : 0 ≤ (ji33)
              · rw [if_pos c34] at H
                have c34b0 := eq_true c34
                have c34b1 : decide (0 ≤ (ji33)) = true := decide_eq_true c34
                clear c34
                obtain ⟨ji35, hji35⟩ : ∃ j_ : Int, (shl .i64 1 (ji33)) = j_ := ⟨_, rfl⟩
                replace H : (if x12_2 < (ji35) then ((luciferlaw01_truly.f k2 l0_0 a0_1 l0_2 (([Int.tmod x12_2 4, Int.tmod (wrap64 (Int.tdiv x12_2 4)) 2, Int.tmod (wrap64 (Int.tdiv x12_2 8)) 4, Int.tmod (wrap64 (Int.tdiv x12_2 32)) 2, Int.tmod (wrap64 (Int.tdiv x12_2 64)) 4, wrap64 (Int.tdiv x12_2 256)] : List Int))).bind fun bt130 => ((peel_Best.f bt130.1 bt130.2.1 bt130.2.2).bind fun bt138 => (if bt138.2 = 0 then (luciferlaw01_PeelHope.l0 k2 t104 (mx x11_2 (bt138.1.length : Int)) (wrap64 (x12_2 + 1)) l0_0 a0_1 l0_2) else (some false)))) else (if x11_2 = t104 then ((luciferlaw01_peeled.f).bind fun t126 => (some t126)) else (some false))) = some r := by first | (rw [hji35] at H; exact H) | (simp only [hji35] at H ⊢; exact H)
                have hji35_ : (IntKind.i64.wrap (1 * 2 ^ min (ji33).toNat 64)) = ji35 := hji35
                have hji35z : (ji33) ≤ 64 → (IntKind.i64.wrap (1 * 2 ^ (ji33).toNat)) = ji35 := shl_small hji35
                have hji35u : (IntKind.i64.wrap (2 ^ min (ji33).toNat 64)) = ji35 := by have h_ := hji35_; rw [Int.one_mul] at h_; exact h_
                have hji35v : (ji33) ≤ 64 → (IntKind.i64.wrap (2 ^ (ji33).toNat)) = ji35 := fun hle_ => by have h_ := hji35z hle_; rw [Int.one_mul] at h_; exact h_
                have hji35y : (wrap64 (1 * 2 ^ min (ji33).toNat 64)) = ji35 := (i64_w _).symm.trans hji35_
                have hji35x : (ji33) ≤ 64 → (wrap64 (1 * 2 ^ (ji33).toNat)) = ji35 := fun h_ => (i64_w _).symm.trans (hji35z h_)
                by_cases c36 : x12_2 < (ji35)
                · rw [if_pos c36] at H
                  have c36b0 : decide (x12_2 < (ji35)) = true := decide_eq_true c36
                  clear c36
                  obtain ⟨y127, hy127⟩ : ∃ y_ : List Int, y_ = (([Int.tmod x12_2 4, Int.tmod (wrap64 (Int.tdiv x12_2 4)) 2, Int.tmod (wrap64 (Int.tdiv x12_2 8)) 4, Int.tmod (wrap64 (Int.tdiv x12_2 32)) 2, Int.tmod (wrap64 (Int.tdiv x12_2 64)) 4, wrap64 (Int.tdiv x12_2 256)] : List Int)) := ⟨_, rfl⟩
                  replace H : ((luciferlaw01_truly.f k2 l0_0 a0_1 l0_2 y127).bind fun bt130 => ((peel_Best.f bt130.1 bt130.2.1 bt130.2.2).bind fun bt138 => (if bt138.2 = 0 then (luciferlaw01_PeelHope.l0 k2 t104 (mx x11_2 (bt138.1.length : Int)) (wrap64 (x12_2 + 1)) l0_0 a0_1 l0_2) else (some false)))) = some r := by first | (rw [hy127]; with_reducible exact H) | (have H2_ := (Option.bind_some _ _).symm.trans H; rw [hy127]; with_reducible exact H2_) | (have H2_ := (Option.bind_some _ _).symm.trans H; with_reducible exact H2_) | with_reducible exact H | (rw [hy127]; exact H) | exact H
                  have Ny127 := Aside0.mk hy127
                  clear hy127
                  replace H := Option.bind_eq_some_iff.mp H
                  obtain ⟨⟨t130, t133, t134⟩, A370, H⟩ := H
                  replace H : ((peel_Best.f t130 t133 t134).bind fun bt138 => (if bt138.2 = 0 then (luciferlaw01_PeelHope.l0 k2 t104 (mx x11_2 (bt138.1.length : Int)) (wrap64 (x12_2 + 1)) l0_0 a0_1 l0_2) else (some false))) = some r := H
                  have A37 := Aside0.mk A370
                  clear A370
                  replace H := Option.bind_eq_some_iff.mp H
                  obtain ⟨⟨t138, t141⟩, A380, H⟩ := H
                  replace H : (if t141 = 0 then (luciferlaw01_PeelHope.l0 k2 t104 (mx x11_2 (t138.length : Int)) (wrap64 (x12_2 + 1)) l0_0 a0_1 l0_2) else (some false)) = some r := H
                  have A38 := Aside0.mk A380
                  clear A380
                  by_cases c39 : t141 = 0
                  · rw [if_pos c39] at H
                    have c39b0 : (t141 == 0) = true := beq_iff_eq.mpr c39
                    have c39b1 : (t141 != 0) = false := bne_eq_false_iff_eq.mpr c39
                    clear c39
                    obtain ⟨ji40, hji40⟩ : ∃ j_ : Int, (mx x11_2 (t138.length : Int)) = j_ := ⟨_, rfl⟩
                    replace H : (luciferlaw01_PeelHope.l0 k2 t104 ji40 (wrap64 (x12_2 + 1)) l0_0 a0_1 l0_2) = some r := by first | (rw [hji40] at H; exact H) | (simp only [hji40] at H ⊢; exact H)
                    (try rw [hji40] at A37)
                    (try rw [hji40] at A38)
                    have hji40_ : (if x11_2 < (t138.length : Int) then (t138.length : Int) else x11_2) = ji40 := hji40
                    have H' := Aside0.mk H
                    clear H
                    obtain ⟨hcz41_0, hcz41_1, hcz41_2, hfz41_0, hfz41_1, hfz41_2⟩ := cz3 BK101
                    go_wp2_with (first | ((with_reducible refine gate_dst (N := 87) rfl ?_); refine Kd.R_lit (Kd.int .i64) _ 3 ?hg (N := 87) ?hd (xs := ([Int.tmod x12_2 4, Int.tmod (wrap64 (Int.tdiv x12_2 4)) 2, Int.tmod (wrap64 (Int.tdiv x12_2 8)) 4, Int.tmod (wrap64 (Int.tdiv x12_2 32)) 2, Int.tmod (wrap64 (Int.tdiv x12_2 64)) 4, wrap64 (Int.tdiv x12_2 256)] : List Int)) (inner := [.int .i64 (Int.tmod x12_2 4), .int .i64 (Int.tmod (wrap64 (Int.tdiv x12_2 4)) 2), .int .i64 (Int.tmod (wrap64 (Int.tdiv x12_2 8)) 4), .int .i64 (Int.tmod (wrap64 (Int.tdiv x12_2 32)) 2), .int .i64 (Int.tmod (wrap64 (Int.tdiv x12_2 64)) 4), .int .i64 (wrap64 (Int.tdiv x12_2 256))]) (ok := fun _ => True) (okp := fun _ => True) ?hr ?hp (fun _ hk => hk) trivial (Below.refl _ _) (Nat.le_refl _) (by simp) ?_; (case hd => rfl); (case hg => rfl); (case hr => first | (go_simp; done) | (go_simp; rfl)); (case hp => exact (Reps.one (show Kd.M (Kd.int .i64) _ _ _ (Int.tmod x12_2 4) [.int .i64 (Int.tmod x12_2 4)] from rfl) (Reps.one (show Kd.M (Kd.int .i64) _ _ _ (Int.tmod (wrap64 (Int.tdiv x12_2 4)) 2) [.int .i64 (Int.tmod (wrap64 (Int.tdiv x12_2 4)) 2)] from rfl) (Reps.one (show Kd.M (Kd.int .i64) _ _ _ (Int.tmod (wrap64 (Int.tdiv x12_2 8)) 4) [.int .i64 (Int.tmod (wrap64 (Int.tdiv x12_2 8)) 4)] from rfl) (Reps.one (show Kd.M (Kd.int .i64) _ _ _ (Int.tmod (wrap64 (Int.tdiv x12_2 32)) 2) [.int .i64 (Int.tmod (wrap64 (Int.tdiv x12_2 32)) 2)] from rfl) (Reps.one (show Kd.M (Kd.int .i64) _ _ _ (Int.tmod (wrap64 (Int.tdiv x12_2 64)) 4) [.int .i64 (Int.tmod (wrap64 (Int.tdiv x12_2 64)) 4)] from rfl) (Reps.one (show Kd.M (Kd.int .i64) _ _ _ (wrap64 (Int.tdiv x12_2 256)) [.int .i64 (wrap64 (Int.tdiv x12_2 256))] from rfl) (Reps.none _ _)))))))); intro v128 w42 ho43 hb hg_ hnew_; clear hg_ hnew_; (first | rw [← Ny127.out] at ho43 | (simp only [Int.reduceToNat] at ho43; rw [← Ny127.out] at ho43)); have n0_ := Aside0.mk (Kd.R_lower ho43 (below_size (B_))); have n1_ := Aside0.mk (blk_below (g := gb101) (o := .cells #[.slice A0_0 l0_0.length c0_0, .int .i64 a0_1, .slice A0_2 l0_2.length c0_2] 25 (0, 0)) (K_ BK101) hb); have n2_ := Aside0.mk (below_step (B_) hb); clear BK101; clear HB; have HO129 := n0_; have BK101 := n1_; have HB := n2_; clear n0_ n1_ n2_; clear hb ho43; obtain ⟨Ao44, co44, eo44⟩ := Kd.R_slice HO129.out; subst eo44) | ((with_reducible refine gate_callee (f := 41) rfl ?_); refine goesL_ (some 88) rfl rfl Tryd.func41 (by kernel_rfl) rfl #[.agg #[.slice A0_0 l0_0.length c0_0, .int .i64 a0_1, .slice A0_2 l0_2.length c0_2], .slice Ao44 y127.length co44] rfl (by (try simp only [List.map_toArray, List.map_cons, List.map_nil]); first | done | rfl | (simp only [List.length_drop, List.length_take]; rfl)) ?_; (with_reducible refine (luciferlaw01_truly.calls k2 (fun k_ => k_ < w.heap.size) _ _ l0_0 a0_1 _ _ l0_2 _ _ y127 t130 t133 t134 _ ?side1 ?side2 ?side3 ?side4 ?side5 A37.out).mono ?_); (case side1 => exact Kd.V_mk HC0_0.out (Kd.F_below (Kd.C_F (Kd.heap_int .i64) HR0_0.out) (B_))); (case side2 => exact C_ HR0_2); (case side3 => exact HC0_2.out); (case side4 => repeat (first | exact (Kd.R_reads' HO129.out).2.2 | (with_reducible refine Kd.C_alloc ?_ _) | (with_reducible refine Kd.C_drewN ?_ _) | (with_reducible refine Kd.C_drew ?_))); (case side5 => exact (Kd.R_reads' HO129.out).2.1); rintro e w45 ⟨v131, v135, rfl, ho0, ho1, hb⟩; refine ⟨_, rfl, ?_⟩; have n0_ := Aside0.mk (Kd.R_below (R_ HO129) hb); have n1_ := Aside0.mk (Kd.V_lower (Kd.V_mono (ok' := fun k_ => some k_ ≠ (v135 : Value).ownBlock ∧ some k_ ≠ (.slice Ao44 y127.length co44 : Value).ownBlock ∧ k_ ≠ gb101) ho0 (fun k_ hk_ => ⟨hk_.2, Or.elim hk_.1 (fun hs_ => fun e_ => Nat.not_le.2 hs_ (Kd.R_base HO129.out k_ e_.symm)) (fun hn_ => (Kd.fresh' (Kd.R_lt (R_ HO129)) k_ hn_)), Or.elim hk_.1 (fun hs_ => fun e_ => Nat.not_le.2 hs_ (by rw [e_]; exact GW101.out)) (fun hn_ => (Kd.freshB (g := gb101) (o := .cells #[.slice A0_0 l0_0.length c0_0, .int .i64 a0_1, .slice A0_2 l0_2.length c0_2] 25 (0, 0)) (K_ BK101) k_ hn_))⟩)) (below_size (B_))); have n2_ := Aside0.mk (Kd.R_lower (Kd.R_mono (ok' := fun k_ => True) ho1 (fun _ hk_ => trivial)) (below_size (B_))); have n3_ := Aside0.mk (blk_below (g := gb101) (o := .cells #[.slice A0_0 l0_0.length c0_0, .int .i64 a0_1, .slice A0_2 l0_2.length c0_2] 25 (0, 0)) (K_ BK101) hb); have n4_ := Aside0.mk (below_step (B_) hb); clear HO129; clear BK101; clear HB; have HO129 := n0_; have HO132 := n1_; have HO136 := n2_; have BK101 := n3_; have HB := n4_; clear n0_ n1_ n2_ n3_ n4_; (try clear hb); (try clear hb2); (try clear hk); (try clear hi); (try clear ho0); (try clear ho1)) | ((with_reducible refine gate_dst (N := 13) rfl ?_); refine box_event ?hg (N := 13) ?hd (cs := #[.slice none 0 0, .int .i64 0, .slice none 0 0]) (t := 25) ?hr ?_; (case hd => rfl); (case hg => rfl); (case hr => first | (go_simp; done) | (go_simp; rfl)); intro gb137 hg w46 hbox hb; have n0_ := Aside0.mk (Kd.R_below (R_ HO129) hb); have n1_ := Aside0.mk (Kd.V_below (Kd.V_elderB (by (with_reducible repeat (first | apply Kd.V_alloc | apply Kd.V_drewN | apply Kd.V_drew)); exact HO132.out) gb137 (Nat.le_of_eq hg.symm)) hb); have n2_ := Aside0.mk (Kd.R_below (R_ HO136) hb); have n3_ := Aside0.mk (blk_below (g := gb101) (o := .cells #[.slice A0_0 l0_0.length c0_0, .int .i64 a0_1, .slice A0_2 l0_2.length c0_2] 25 (0, 0)) (K_ BK101) hb); have n4_ := Aside0.mk (below_step (B_) hb); have n5_ := Aside0.mk (hbox); have n6_ := Aside0.mk ((by rw [hg]; exact (below_size (B_)) : w.heap.size ≤ gb137)); have n7_ := Aside0.mk ((by rw [hg]; exact (below_size (B_)) : w.heap.size ≤ gb137)); have n8_ := Aside0.mk ((by rw [hg]; exact Nat.ne_of_lt (blk_lt (g := gb101) (o := .cells #[.slice A0_0 l0_0.length c0_0, .int .i64 a0_1, .slice A0_2 l0_2.length c0_2] 25 (0, 0)) (K_ BK101)) : gb101 ≠ gb137)); have n9_ := Aside0.mk ((by rw [hg]; exact Nat.ne_of_gt (blk_lt (g := gb101) (o := .cells #[.slice A0_0 l0_0.length c0_0, .int .i64 a0_1, .slice A0_2 l0_2.length c0_2] 25 (0, 0)) (K_ BK101)) : gb137 ≠ gb101)); clear HO129; clear HO132; clear HO136; clear BK101; clear HB; have HO129 := n0_; have HO132 := n1_; have HO136 := n2_; have BK101 := n3_; have HB := n4_; have BK137 := n5_; have GW137 := n6_; have GE137 := n7_; have NB101_137 := n8_; have NB137_101 := n9_; clear n0_ n1_ n2_ n3_ n4_ n5_ n6_ n7_ n8_ n9_; clear hb hbox hg; obtain ⟨Ao47, co47, eo47⟩ := Kd.V_slice HO132.out; subst eo47; have hnb48 := NB137_101.out; have hnc48 := NB101_137.out; obtain ⟨hcz49_0, hcz49_1, hcz49_2, hfz49_0, hfz49_1, hfz49_2⟩ := cz3 BK137; obtain ⟨Ao50, co50, eo50⟩ := Kd.R_slice HO136.out; subst eo50) | ((with_reducible refine gate_callee (f := 30) rfl ?_); refine goesL_ (some 91) rfl rfl Tryd.func30 (by kernel_rfl) rfl #[.agg #[.slice Ao47 t130.length co47, .int .i64 t133, .slice Ao50 t134.length co50]] rfl (by (try simp only [List.map_toArray, List.map_cons, List.map_nil]); first | done | rfl | (simp only [List.length_drop, List.length_take]; rfl)) ?_; (with_reducible refine (peel_Best.calls _ _ t130 t133 _ _ t134 t138 t141 _ ?side1 ?side2 ?side3 ?side4 ?side5 A38.out).mono ?_); (case side1 => refine (Kd.V_reads' (e := 3) (base := w.heap.size) (ok := fun k_ => ((some k_ ≠ (.slice Ao50 t134.length co50 : Value).ownBlock ∧ (some k_ ≠ (.slice Ao44 y127.length co44 : Value).ownBlock ∧ k_ ≠ gb101)) ∧ k_ ≠ gb137)) (n := t130.length) (c := co47) ?_).2.2; exact (by (with_reducible repeat (first | apply Kd.V_alloc | apply Kd.V_drewN | apply Kd.V_drew)); exact (Kd.V_mono (Kd.V_far (p := ⟨gb137, 2, none⟩) (Kd.V_far (p := ⟨gb137, 1, none⟩) (Kd.V_far (p := ⟨gb137, 0, none⟩) (Kd.V_mono HO132.out (fun k_ hk => (⟨hk, hk.2⟩ : _ ∧ k_ ≠ gb137))) (fun _ hk => hk.2) (.slice Ao47 t130.length co47)) (fun _ hk => hk.2) (.int .i64 t133)) (fun _ hk => hk.2) (.slice Ao50 t134.length co50)) (fun _ h_ => h_.1)))); (case side2 => exact (Kd.V_reads' HO132.out).2.1); (case side3 => refine (Kd.R_reads' (e := 61) (base := w.heap.size) (ok := fun k_ => True) (n := t134.length) (c := co50) ?_).2.2; exact (by (with_reducible repeat (first | apply Kd.R_alloc | apply Kd.R_drewN | apply Kd.R_drew)); exact (Kd.R_mono (Kd.R_far (p := ⟨gb137, 2, none⟩) (Kd.R_far (p := ⟨gb137, 1, none⟩) (Kd.R_far (p := ⟨gb137, 0, none⟩) (Kd.R_types HO136.out BK137.out (by decide)) (fun _ hk => hk.2) (.slice Ao47 t130.length co47)) (fun _ hk => hk.2) (.int .i64 t133)) (fun _ hk => hk.2) (.slice Ao50 t134.length co50)) (fun _ h_ => h_.1)))); (case side4 => exact (Kd.R_reads' HO136.out).2.1); (case side5 => exact Go.Proofs.YtigofgdmefobaaaDoor.Peel.EndsAt.below HE.out (B_)); rintro e w51 ⟨v139, rfl, ho0, hb⟩; refine ⟨_, rfl, ?_⟩; have n0_ := Aside0.mk (Kd.R_below (by (with_reducible repeat (first | apply Kd.R_alloc | apply Kd.R_drewN | apply Kd.R_drew)); exact (Kd.R_mono (Kd.R_far (p := ⟨gb137, 2, none⟩) (Kd.R_far (p := ⟨gb137, 1, none⟩) (Kd.R_far (p := ⟨gb137, 0, none⟩) (Kd.R_types HO129.out BK137.out (by decide)) (fun _ hk => hk.2) (.slice Ao47 t130.length co47)) (fun _ hk => hk.2) (.int .i64 t133)) (fun _ hk => hk.2) (.slice Ao50 t134.length co50)) (fun _ h_ => h_.1))) hb); have n1_ := Aside0.mk (Kd.V_below (by (with_reducible repeat (first | apply Kd.V_alloc | apply Kd.V_drewN | apply Kd.V_drew)); exact (Kd.V_mono (Kd.V_far (p := ⟨gb137, 2, none⟩) (Kd.V_far (p := ⟨gb137, 1, none⟩) (Kd.V_far (p := ⟨gb137, 0, none⟩) (Kd.V_mono HO132.out (fun k_ hk => (⟨hk, hk.2⟩ : _ ∧ k_ ≠ gb137))) (fun _ hk => hk.2) (.slice Ao47 t130.length co47)) (fun _ hk => hk.2) (.int .i64 t133)) (fun _ hk => hk.2) (.slice Ao50 t134.length co50)) (fun _ h_ => h_.1))) hb); have n2_ := Aside0.mk (Kd.R_below (by (with_reducible repeat (first | apply Kd.R_alloc | apply Kd.R_drewN | apply Kd.R_drew)); exact (Kd.R_mono (Kd.R_far (p := ⟨gb137, 2, none⟩) (Kd.R_far (p := ⟨gb137, 1, none⟩) (Kd.R_far (p := ⟨gb137, 0, none⟩) (Kd.R_types HO136.out BK137.out (by decide)) (fun _ hk => hk.2) (.slice Ao47 t130.length co47)) (fun _ hk => hk.2) (.int .i64 t133)) (fun _ hk => hk.2) (.slice Ao50 t134.length co50)) (fun _ h_ => h_.1))) hb); have n3_ := Aside0.mk (Kd.V_lower (Kd.V_mono (ok' := fun k_ => some k_ ≠ (.slice Ao44 y127.length co44 : Value).ownBlock ∧ some k_ ≠ (.slice Ao50 t134.length co50 : Value).ownBlock ∧ k_ ≠ gb101 ∧ k_ ≠ gb137) ho0 (fun k_ hk_ => ⟨(Kd.fresh' (Kd.R_lt (by (with_reducible repeat (first | apply Kd.R_alloc | apply Kd.R_drewN | apply Kd.R_drew)); exact (Kd.R_mono (Kd.R_far (p := ⟨gb137, 2, none⟩) (Kd.R_far (p := ⟨gb137, 1, none⟩) (Kd.R_far (p := ⟨gb137, 0, none⟩) (Kd.R_types HO129.out BK137.out (by decide)) (fun _ hk => hk.2) (.slice Ao47 t130.length co47)) (fun _ hk => hk.2) (.int .i64 t133)) (fun _ hk => hk.2) (.slice Ao50 t134.length co50)) (fun _ h_ => h_.1)))) k_ hk_), (Kd.fresh' (Kd.R_lt (by (with_reducible repeat (first | apply Kd.R_alloc | apply Kd.R_drewN | apply Kd.R_drew)); exact (Kd.R_mono (Kd.R_far (p := ⟨gb137, 2, none⟩) (Kd.R_far (p := ⟨gb137, 1, none⟩) (Kd.R_far (p := ⟨gb137, 0, none⟩) (Kd.R_types HO136.out BK137.out (by decide)) (fun _ hk => hk.2) (.slice Ao47 t130.length co47)) (fun _ hk => hk.2) (.int .i64 t133)) (fun _ hk => hk.2) (.slice Ao50 t134.length co50)) (fun _ h_ => h_.1)))) k_ hk_), (Kd.freshB (g := gb101) (o := .cells #[.slice A0_0 l0_0.length c0_0, .int .i64 a0_1, .slice A0_2 l0_2.length c0_2] 25 (0, 0)) (by (with_reducible repeat (first | refine blk_drewN ?_ _ | refine blk_drew ?_ | refine blk_alloc ?_ _)); refine blk_far ?_ NB101_137.out _; (with_reducible repeat (first | refine blk_drewN ?_ _ | refine blk_drew ?_ | refine blk_alloc ?_ _)); refine blk_far ?_ NB101_137.out _; (with_reducible repeat (first | refine blk_drewN ?_ _ | refine blk_drew ?_ | refine blk_alloc ?_ _)); refine blk_far ?_ NB101_137.out _; (with_reducible repeat (first | refine blk_drewN ?_ _ | refine blk_drew ?_ | refine blk_alloc ?_ _)); exact BK101.out) k_ hk_), (Kd.freshB (g := gb137) (o := .cells #[.slice Ao47 t130.length co47, .int .i64 t133, .slice Ao50 t134.length co50] 25 (0, 0)) (by (with_reducible repeat (first | refine blk_drewN ?_ _ | refine blk_drew ?_ | refine blk_alloc ?_ _)); refine blk_put (cs := #[.slice Ao47 t130.length co47, .int .i64 t133, .slice none 0 0]) ?_ 2 _ rfl; (with_reducible repeat (first | refine blk_drewN ?_ _ | refine blk_drew ?_ | refine blk_alloc ?_ _)); refine blk_put (cs := #[.slice Ao47 t130.length co47, .int .i64 0, .slice none 0 0]) ?_ 1 _ rfl; (with_reducible repeat (first | refine blk_drewN ?_ _ | refine blk_drew ?_ | refine blk_alloc ?_ _)); refine blk_put (cs := #[.slice none 0 0, .int .i64 0, .slice none 0 0]) ?_ 0 _ rfl; (with_reducible repeat (first | refine blk_drewN ?_ _ | refine blk_drew ?_ | refine blk_alloc ?_ _)); exact BK137.out) k_ hk_)⟩)) (below_size (B_))); have n4_ := Aside0.mk (blk_below (g := gb101) (o := .cells #[.slice A0_0 l0_0.length c0_0, .int .i64 a0_1, .slice A0_2 l0_2.length c0_2] 25 (0, 0)) (by (with_reducible repeat (first | refine blk_drewN ?_ _ | refine blk_drew ?_ | refine blk_alloc ?_ _)); refine blk_far ?_ NB101_137.out _; (with_reducible repeat (first | refine blk_drewN ?_ _ | refine blk_drew ?_ | refine blk_alloc ?_ _)); refine blk_far ?_ NB101_137.out _; (with_reducible repeat (first | refine blk_drewN ?_ _ | refine blk_drew ?_ | refine blk_alloc ?_ _)); refine blk_far ?_ NB101_137.out _; (with_reducible repeat (first | refine blk_drewN ?_ _ | refine blk_drew ?_ | refine blk_alloc ?_ _)); exact BK101.out) hb); have n5_ := Aside0.mk (blk_below (g := gb137) (o := .cells #[.slice Ao47 t130.length co47, .int .i64 t133, .slice Ao50 t134.length co50] 25 (0, 0)) (by (with_reducible repeat (first | refine blk_drewN ?_ _ | refine blk_drew ?_ | refine blk_alloc ?_ _)); refine blk_put (cs := #[.slice Ao47 t130.length co47, .int .i64 t133, .slice none 0 0]) ?_ 2 _ rfl; (with_reducible repeat (first | refine blk_drewN ?_ _ | refine blk_drew ?_ | refine blk_alloc ?_ _)); refine blk_put (cs := #[.slice Ao47 t130.length co47, .int .i64 0, .slice none 0 0]) ?_ 1 _ rfl; (with_reducible repeat (first | refine blk_drewN ?_ _ | refine blk_drew ?_ | refine blk_alloc ?_ _)); refine blk_put (cs := #[.slice none 0 0, .int .i64 0, .slice none 0 0]) ?_ 0 _ rfl; (with_reducible repeat (first | refine blk_drewN ?_ _ | refine blk_drew ?_ | refine blk_alloc ?_ _)); exact BK137.out) hb); have n6_ := Aside0.mk (below_step (B_) hb); clear HO129; clear HO132; clear HO136; clear BK101; clear BK137; clear HB; have HO129 := n0_; have HO132 := n1_; have HO136 := n2_; have HO140 := n3_; have BK101 := n4_; have BK137 := n5_; have HB := n6_; clear n0_ n1_ n2_ n3_ n4_ n5_ n6_; (try clear hb); (try clear hb2); (try clear hk); (try clear hi); (try clear ho0); obtain ⟨Ao52, co52, eo52⟩ := Kd.V_slice HO140.out; subst eo52))
                    go_roundg k2
                    case measure => have := HJ9.out; have := HK2.out; omega
                    case rel => exact ⟨(ji40), (wrap64 (x12_2 + 1)), (by first | rfl | (simp; done) | (simp only [← hji40] <;> (first | rfl | simp)) | (simp [*]; done)), S_, H', ⟨by have := HJ9.out; have := HK2.out; omega⟩, ⟨K_ BK101⟩, ⟨B_⟩⟩
                  · rw [if_neg c39] at H
                    have c39b0 : (t141 == 0) = false := beq_eq_false_iff_ne.mpr c39
                    have c39b1 : (t141 != 0) = true := bne_iff_ne.mpr c39
                    exact absurd (Option.some.inj H) (by rw [hT]; decide)
                · rw [if_neg c36] at H
                  have c36b0 : decide (x12_2 < (ji35)) = false := decide_eq_false c36
                  clear c36
                  by_cases c53 : x11_2 = t104
                  · rw [if_pos c53] at H
                    have c53b0 : (x11_2 == t104) = true := beq_iff_eq.mpr c53
                    have c53b1 : (x11_2 != t104) = false := bne_eq_false_iff_eq.mpr c53
                    clear c53
                    replace H := Option.bind_eq_some_iff.mp H
                    obtain ⟨t126, A540, H⟩ := H
                    replace H : (some t126) = some r := H
                    have A54 := Aside0.mk A540
                    clear A540
                    obtain rfl := Option.some.inj H
                    obtain ⟨hcz55_0, hcz55_1, hcz55_2, hfz55_0, hfz55_1, hfz55_2⟩ := cz3 BK101
                    go_wp2_with (first | (go_at_call 23; (with_reducible refine (luciferlaw01_peeled.calls  t126 _ ?side1 A54.out).mono ?_); (case side1 => exact Go.Proofs.YtigofgdmefobaaaDoor.Peel.EndsAt.below HE.out (B_)); rintro e w56 ⟨rfl, hb⟩; have n0_ := Aside0.mk (blk_below (g := gb101) (o := .cells #[.slice A0_0 l0_0.length c0_0, .int .i64 a0_1, .slice A0_2 l0_2.length c0_2] 25 (0, 0)) (K_ BK101) hb); have n1_ := Aside0.mk (below_step (B_) hb); clear BK101; clear HB; have BK101 := n0_; have HB := n1_; clear n0_ n1_; (try clear hb); (try clear hb2); (try clear hk); (try clear hi)))
                    go_ret
                    exact ⟨by first | rfl | (simp [errW_none, errW_some] <;> rfl) | (simp only [← hji33, ← hji35]; first | rfl | (simp [errW_none, errW_some] <;> rfl)) | (simp [*, errW_none, errW_some] <;> rfl), B_⟩
                  · rw [if_neg c53] at H
                    have c53b0 : (x11_2 == t104) = false := beq_eq_false_iff_ne.mpr c53
                    have c53b1 : (x11_2 != t104) = true := bne_iff_ne.mpr c53
                    exact absurd (Option.some.inj H) (by rw [hT]; decide)
              · rw [if_neg c34] at H
                exact absurd H (by simp)
  · replace c4 := Bool.eq_false_iff.mpr c4
    subst c4
    have H1 : ((luciferlaw01_peeled.f).bind fun t103 => (some t103)) = some r := by rw [if_neg (show ¬ (false = true) by decide)] at H; exact H
    clear H
    have H := H1
    clear H1
    replace H := Option.bind_eq_some_iff.mp H
    obtain ⟨t103, A570, H⟩ := H
    replace H : (some t103) = some r := H
    have A57 := Aside0.mk A570
    clear A570
    obtain rfl := Option.some.inj H
    go_enter Tryd.func9, Tryd.ntmps9
    go_wp2_with (first | ((with_reducible refine gate_dst (N := 2) rfl ?_); refine box_event ?hg (N := 2) ?hd (cs := #[.slice A0_0 l0_0.length c0_0, .int .i64 a0_1, .slice A0_2 l0_2.length c0_2]) (t := 25) ?hr ?_; (case hd => rfl); (case hg => rfl); (case hr => first | (go_simp; done) | (go_simp; rfl)); intro gb101 hg w58 hbox hb; have n0_ := Aside0.mk (below_step (B_) hb); have n1_ := Aside0.mk (hbox); have n2_ := Aside0.mk ((by rw [hg]; exact (below_size (B_)) : w.heap.size ≤ gb101)); have n3_ := Aside0.mk ((by rw [hg]; exact (below_size (B_)) : w.heap.size ≤ gb101)); clear HB; have HB := n0_; have BK101 := n1_; have GW101 := n2_; have GE101 := n3_; clear n0_ n1_ n2_ n3_; clear hb hbox hg; obtain ⟨hcz59_0, hcz59_1, hcz59_2, hfz59_0, hfz59_1, hfz59_2⟩ := cz3 BK101) | ((with_reducible refine gate_callee (f := 39) rfl ?_); refine goesL_ (some 17) rfl rfl Tryd.func39 (by kernel_rfl) rfl #[.agg #[.slice A0_0 l0_0.length c0_0, .int .i64 a0_1, .slice A0_2 l0_2.length c0_2]] rfl (by (try simp only [List.map_toArray, List.map_cons, List.map_nil]); first | done | rfl | (simp only [List.length_drop, List.length_take]; rfl)) ?_; (with_reducible refine (luciferlaw01_sound.calls k _ _ l0_0 a0_1 _ _ l0_2 false _ ?side1 ?side2 ?side3 ?side4 A3.out).mono ?_); (case side1 => exact C_ HR0_0); (case side2 => exact HC0_0.out); (case side3 => exact C_ HR0_2); (case side4 => exact HC0_2.out); rintro e w60 ⟨rfl, hb⟩; refine ⟨_, rfl, ?_⟩; have n0_ := Aside0.mk (blk_below (g := gb101) (o := .cells #[.slice A0_0 l0_0.length c0_0, .int .i64 a0_1, .slice A0_2 l0_2.length c0_2] 25 (0, 0)) (K_ BK101) hb); have n1_ := Aside0.mk (below_step (B_) hb); clear BK101; clear HB; have BK101 := n0_; have HB := n1_; clear n0_ n1_; (try clear hb); (try clear hb2); (try clear hk); (try clear hi)) | ((with_reducible refine gate_callee (f := 23) rfl ?_); refine goesL_ (some 19) rfl rfl Tryd.func23 (by kernel_rfl) rfl #[] rfl (by (try simp only [List.map_toArray, List.map_cons, List.map_nil]); first | done | rfl | (simp only [List.length_drop, List.length_take]; rfl)) ?_; (with_reducible refine (luciferlaw01_peeled.calls  t103 _ ?side1 A57.out).mono ?_); (case side1 => exact Go.Proofs.YtigofgdmefobaaaDoor.Peel.EndsAt.below HE.out (B_)); rintro e w61 ⟨rfl, hb⟩; refine ⟨_, rfl, ?_⟩; have n0_ := Aside0.mk (blk_below (g := gb101) (o := .cells #[.slice A0_0 l0_0.length c0_0, .int .i64 a0_1, .slice A0_2 l0_2.length c0_2] 25 (0, 0)) (K_ BK101) hb); have n1_ := Aside0.mk (below_step (B_) hb); clear BK101; clear HB; have BK101 := n0_; have HB := n1_; clear n0_ n1_; (try clear hb); (try clear hb2); (try clear hk); (try clear hi)))
    go_ret
    exact ⟨by first | rfl | (simp [errW_none, errW_some] <;> rfl) | (simp [*, errW_none, errW_some] <;> rfl), B_⟩

end Go.Proofs.YtigofgdmefobaaaDoor.PP
