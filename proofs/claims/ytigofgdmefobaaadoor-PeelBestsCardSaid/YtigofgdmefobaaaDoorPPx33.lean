-- Printed by a program of this session (the kit's print over contracts of ours for functions that it does not take).
import Derived.Test.YtigofgdmefobaaaDoorPPx0
import Derived.Test.YtigofgdmefobaaaDoorPPx26
import Derived.Test.YtigofgdmefobaaaDoorPPx27
import Derived.Test.YtigofgdmefobaaaDoorPPx28
import Derived.Test.YtigofgdmefobaaaDoorPPx29
import Derived.Test.YtigofgdmefobaaaDoorPPx32
import Derived.Test.YtigofgdmefobaaaDoorGiven
namespace Go.Proofs.YtigofgdmefobaaaDoor.PP
open Go.RowKit Go.Proofs.YtigofgdmefobaaaDoorW.PrintWords Go.Proofs.YtigofgdmefobaaaDoorW.PrintLast Go.Proofs.YtigofgdmefobaaaDoorW.PrintMore
attribute [local go_sem] max2_int min2_int max_two min_two max_three min_three max_four min_four   -- for this text's walks alone
set_option linter.unusedVariables false
set_option linter.unusedSimpArgs false

/-! ### luciferlaw01_PeelBests: function 5 -/
mutual
def luciferlaw01_PeelBests.j0 : Nat → Bool → List Int → Int → List (S61) → Option (Bool)
  | 0, _, _, _, _ => none
  | k + 1, x27, x322000, x322001, x322002 => if x27 = true then (some false) else ((peel_Waste.f x322000 x322001 x322002).bind fun bt331 => ((luciferref01_Waste.f k x322000 x322001 x322002).bind fun bt333 => (if bt331.1 = bt333.1 then (luciferlaw01_PeelBests.j1 k (bt331.2 != bt333.2) x322000 x322001 x322002) else (luciferlaw01_PeelBests.j1 k true x322000 x322001 x322002))))
def luciferlaw01_PeelBests.j1 : Nat → Bool → List Int → Int → List (S61) → Option (Bool)
  | 0, _, _, _, _ => none
  | k + 1, x45, x322000, x322001, x322002 => if x45 = true then (some false) else ((peel_Hope.f x322000 x322001 x322002).bind fun bt335 => ((luciferref01_Hope.f k x322000 x322001 x322002).bind fun bt337 => (if bt335.1 = bt337.1 then (luciferlaw01_PeelBests.j2 k (bt335.2 != bt337.2) x322000 x322001 x322002) else (luciferlaw01_PeelBests.j2 k true x322000 x322001 x322002))))
def luciferlaw01_PeelBests.j2 : Nat → Bool → List Int → Int → List (S61) → Option (Bool)
  | 0, _, _, _, _ => none
  | k + 1, x63, x322000, x322001, x322002 => if x63 = true then (some false) else ((peel_Ask.f x322000 x322001 x322002).bind fun bt339 => ((luciferref01_Ask.f k x322000 x322001 x322002).bind fun bt341 => (if bt339.1 = bt341.1 then (if bt339.2 = bt341.2 then ((luciferlaw01_peeled.f).bind fun t343 => (some t343)) else (some false)) else (some false))))
end
def luciferlaw01_PeelBests.f (k : Nat) (l0_0 : List Int) (a0_1 : Int) (l0_2 : List (S61)) : Option (Bool) := (peel_Best.f l0_0 a0_1 l0_2).bind fun bt322 => ((luciferref01_Best.f k l0_0 a0_1 l0_2).bind fun bt326 => ((luciferref00_Alike.f k bt322.1 bt326.1).bind fun t330 => (if t330 = true then (luciferlaw01_PeelBests.j0 k (bt322.2 != bt326.2) l0_0 a0_1 l0_2) else (luciferlaw01_PeelBests.j0 k true l0_0 a0_1 l0_2))))
theorem luciferlaw01_PeelBests.mono_l : ∀ k, (∀ y0 y1 y2 y3, LeO (luciferlaw01_PeelBests.j0 k y0 y1 y2 y3) (luciferlaw01_PeelBests.j0 (k + 1) y0 y1 y2 y3)) ∧ (∀ y0 y1 y2 y3, LeO (luciferlaw01_PeelBests.j1 k y0 y1 y2 y3) (luciferlaw01_PeelBests.j1 (k + 1) y0 y1 y2 y3)) ∧ (∀ y0 y1 y2 y3, LeO (luciferlaw01_PeelBests.j2 k y0 y1 y2 y3) (luciferlaw01_PeelBests.j2 (k + 1) y0 y1 y2 y3))
  | 0 => ⟨fun _ _ _ _ r h => by simp [luciferlaw01_PeelBests.j0] at h, fun _ _ _ _ r h => by simp [luciferlaw01_PeelBests.j1] at h, fun _ _ _ _ r h => by simp [luciferlaw01_PeelBests.j2] at h⟩
  | k + 1 => by
    obtain ⟨ih0, ih1, ih2⟩ := luciferlaw01_PeelBests.mono_l k
    refine ⟨?_, ?_, ?_⟩
    · intro y0 y1 y2 y3
      unfold luciferlaw01_PeelBests.j0
      repeat' first
      | (with_reducible exact ih0 _ _ _ _)
      | (with_reducible exact ih1 _ _ _ _)
      | (with_reducible exact ih2 _ _ _ _)
      | (with_reducible exact luciferref00_Alike.mono _ _ _)
      | (with_reducible exact luciferref01_Ask.mono _ _ _ _)
      | (with_reducible exact luciferref01_Best.mono _ _ _ _)
      | (with_reducible exact luciferref01_Hope.mono _ _ _ _)
      | (with_reducible exact luciferref01_Waste.mono _ _ _ _)
      | (with_reducible exact LeO.refl _)
      | (with_reducible exact LeO.none _)
      | (with_reducible refine LeO.ite ?_ ?_)
      | (with_reducible refine LeO.bind ?_ (fun _ => ?_))
      | exact ih0 _ _ _ _
      | exact ih1 _ _ _ _
      | exact ih2 _ _ _ _
      | exact luciferref00_Alike.mono _ _ _
      | exact luciferref01_Ask.mono _ _ _ _
      | exact luciferref01_Best.mono _ _ _ _
      | exact luciferref01_Hope.mono _ _ _ _
      | exact luciferref01_Waste.mono _ _ _ _
      | exact LeO.none _
      | refine LeO.ite ?_ ?_
      | refine LeO.bind ?_ (fun _ => ?_)
    · intro y0 y1 y2 y3
      unfold luciferlaw01_PeelBests.j1
      repeat' first
      | (with_reducible exact ih0 _ _ _ _)
      | (with_reducible exact ih1 _ _ _ _)
      | (with_reducible exact ih2 _ _ _ _)
      | (with_reducible exact luciferref00_Alike.mono _ _ _)
      | (with_reducible exact luciferref01_Ask.mono _ _ _ _)
      | (with_reducible exact luciferref01_Best.mono _ _ _ _)
      | (with_reducible exact luciferref01_Hope.mono _ _ _ _)
      | (with_reducible exact luciferref01_Waste.mono _ _ _ _)
      | (with_reducible exact LeO.refl _)
      | (with_reducible exact LeO.none _)
      | (with_reducible refine LeO.ite ?_ ?_)
      | (with_reducible refine LeO.bind ?_ (fun _ => ?_))
      | exact ih0 _ _ _ _
      | exact ih1 _ _ _ _
      | exact ih2 _ _ _ _
      | exact luciferref00_Alike.mono _ _ _
      | exact luciferref01_Ask.mono _ _ _ _
      | exact luciferref01_Best.mono _ _ _ _
      | exact luciferref01_Hope.mono _ _ _ _
      | exact luciferref01_Waste.mono _ _ _ _
      | exact LeO.none _
      | refine LeO.ite ?_ ?_
      | refine LeO.bind ?_ (fun _ => ?_)
    · intro y0 y1 y2 y3
      unfold luciferlaw01_PeelBests.j2
      repeat' first
      | (with_reducible exact ih0 _ _ _ _)
      | (with_reducible exact ih1 _ _ _ _)
      | (with_reducible exact ih2 _ _ _ _)
      | (with_reducible exact luciferref00_Alike.mono _ _ _)
      | (with_reducible exact luciferref01_Ask.mono _ _ _ _)
      | (with_reducible exact luciferref01_Best.mono _ _ _ _)
      | (with_reducible exact luciferref01_Hope.mono _ _ _ _)
      | (with_reducible exact luciferref01_Waste.mono _ _ _ _)
      | (with_reducible exact LeO.refl _)
      | (with_reducible exact LeO.none _)
      | (with_reducible refine LeO.ite ?_ ?_)
      | (with_reducible refine LeO.bind ?_ (fun _ => ?_))
      | exact ih0 _ _ _ _
      | exact ih1 _ _ _ _
      | exact ih2 _ _ _ _
      | exact luciferref00_Alike.mono _ _ _
      | exact luciferref01_Ask.mono _ _ _ _
      | exact luciferref01_Best.mono _ _ _ _
      | exact luciferref01_Hope.mono _ _ _ _
      | exact luciferref01_Waste.mono _ _ _ _
      | exact LeO.none _
      | refine LeO.ite ?_ ?_
      | refine LeO.bind ?_ (fun _ => ?_)
theorem luciferlaw01_PeelBests.mono : ∀ a0 a1 a2 k, LeO (luciferlaw01_PeelBests.f k a0 a1 a2) (luciferlaw01_PeelBests.f (k + 1) a0 a1 a2) := by
  intro a0 a1 a2 k
  obtain ⟨ih0, ih1, ih2⟩ := luciferlaw01_PeelBests.mono_l k
  unfold luciferlaw01_PeelBests.f
  repeat' first
      | (with_reducible exact ih0 _ _ _ _)
      | (with_reducible exact ih1 _ _ _ _)
      | (with_reducible exact ih2 _ _ _ _)
      | (with_reducible exact luciferref00_Alike.mono _ _ _)
      | (with_reducible exact luciferref01_Ask.mono _ _ _ _)
      | (with_reducible exact luciferref01_Best.mono _ _ _ _)
      | (with_reducible exact luciferref01_Hope.mono _ _ _ _)
      | (with_reducible exact luciferref01_Waste.mono _ _ _ _)
      | (with_reducible exact LeO.refl _)
      | (with_reducible exact LeO.none _)
      | (with_reducible refine LeO.ite ?_ ?_)
      | (with_reducible refine LeO.bind ?_ (fun _ => ?_))
      | exact ih0 _ _ _ _
      | exact ih1 _ _ _ _
      | exact ih2 _ _ _ _
      | exact luciferref00_Alike.mono _ _ _
      | exact luciferref01_Ask.mono _ _ _ _
      | exact luciferref01_Best.mono _ _ _ _
      | exact luciferref01_Hope.mono _ _ _ _
      | exact luciferref01_Waste.mono _ _ _ _
      | exact LeO.none _
      | refine LeO.ite ?_ ?_
      | refine LeO.bind ?_ (fun _ => ?_)
set_option maxHeartbeats 8000000 in
set_option maxRecDepth 100000 in
theorem luciferlaw01_PeelBests.calls (k : Nat) (A0_0 : Option Addr) (c0_0 : Nat) (l0_0 : List Int) (a0_1 : Int) (A0_2 : Option Addr) (c0_2 : Nat) (l0_2 : List (S61)) (r : Bool) (w : World) (hr0_0 : Kd.C (Kd.int .i64) w A0_0 l0_0.length l0_0) (hc0_0 : l0_0.length ≤ c0_0) (hr0_2 : Kd.C k61 w A0_2 l0_2.length l0_2) (hc0_2 : l0_2.length ≤ c0_2) (hE : Go.Proofs.YtigofgdmefobaaaDoor.Peel.EndsAt w) (h : luciferlaw01_PeelBests.f k l0_0 a0_1 l0_2 = some r) :
    Calls Tryd.prog 5 #[.agg #[.slice A0_0 l0_0.length c0_0, .int .i64 a0_1, .slice A0_2 l0_2.length c0_2]] w fun e w' => e = .returned (.bool r) ∧ Below w.heap.size w w' := by
  have hu25 := Tryd.underlying25
  have HE := Aside0.mk hE
  clear hE
  have HR0_0 := Aside0.mk hr0_0
  have HC0_0 := Aside0.mk hc0_0
  clear hr0_0 hc0_0
  have HR0_2 := Aside0.mk hr0_2
  have HC0_2 := Aside0.mk hc0_2
  clear hr0_2 hc0_2
  have HB := Aside0.mk (Below.refl w.heap.size w)
  have H : ((peel_Best.f l0_0 a0_1 l0_2).bind fun bt322 => ((luciferref01_Best.f k l0_0 a0_1 l0_2).bind fun bt326 => ((luciferref00_Alike.f k bt322.1 bt326.1).bind fun t330 => (if t330 = true then (luciferlaw01_PeelBests.j0 k (bt322.2 != bt326.2) l0_0 a0_1 l0_2) else (luciferlaw01_PeelBests.j0 k true l0_0 a0_1 l0_2))))) = some r := h
  clear h
  replace H := Option.bind_eq_some_iff.mp H
  obtain ⟨⟨t322, t325⟩, A20, H⟩ := H
  replace H : ((luciferref01_Best.f k l0_0 a0_1 l0_2).bind fun bt326 => ((luciferref00_Alike.f k t322 bt326.1).bind fun t330 => (if t330 = true then (luciferlaw01_PeelBests.j0 k (t325 != bt326.2) l0_0 a0_1 l0_2) else (luciferlaw01_PeelBests.j0 k true l0_0 a0_1 l0_2)))) = some r := H
  have A2 := Aside0.mk A20
  clear A20
  replace H := Option.bind_eq_some_iff.mp H
  obtain ⟨⟨t326, t329⟩, A30, H⟩ := H
  replace H : ((luciferref00_Alike.f k t322 t326).bind fun t330 => (if t330 = true then (luciferlaw01_PeelBests.j0 k (t325 != t329) l0_0 a0_1 l0_2) else (luciferlaw01_PeelBests.j0 k true l0_0 a0_1 l0_2))) = some r := H
  have A3 := Aside0.mk A30
  clear A30
  have HC4 := Aside0.mk H
  clear H
  go_enter Tryd.func5, Tryd.ntmps5
  go_upto_region 3 with (first | ((with_reducible refine gate_dst (N := 1) rfl ?_); refine box_event ?hg (N := 1) ?hd (cs := #[.slice A0_0 l0_0.length c0_0, .int .i64 a0_1, .slice A0_2 l0_2.length c0_2]) (t := 25) ?hr ?_; (case hd => rfl); (case hg => rfl); (case hr => first | (go_simp; done) | (go_simp; rfl)); intro gb321 hg w5 hbox hb; have n0_ := Aside0.mk (below_step (B_) hb); have n1_ := Aside0.mk (hbox); have n2_ := Aside0.mk ((by rw [hg]; exact (below_size (B_)) : w.heap.size ≤ gb321)); have n3_ := Aside0.mk ((by rw [hg]; exact (below_size (B_)) : w.heap.size ≤ gb321)); clear HB; have HB := n0_; have BK321 := n1_; have GW321 := n2_; have GE321 := n3_; clear n0_ n1_ n2_ n3_; clear hb hbox hg; obtain ⟨hcz6_0, hcz6_1, hcz6_2, hfz6_0, hfz6_1, hfz6_2⟩ := cz3 BK321) | ((with_reducible refine gate_callee (f := 30) rfl ?_); refine goesL_ (some 11) rfl rfl Tryd.func30 (by kernel_rfl) rfl #[.agg #[.slice A0_0 l0_0.length c0_0, .int .i64 a0_1, .slice A0_2 l0_2.length c0_2]] rfl (by (try simp only [List.map_toArray, List.map_cons, List.map_nil]); first | done | rfl | (simp only [List.length_drop, List.length_take]; rfl)) ?_; (with_reducible refine (peel_Best.calls _ _ l0_0 a0_1 _ _ l0_2 t322 t325 _ ?side1 ?side2 ?side3 ?side4 ?side5 A2.out).mono ?_); (case side1 => exact C_ HR0_0); (case side2 => exact HC0_0.out); (case side3 => exact C_ HR0_2); (case side4 => exact HC0_2.out); (case side5 => exact Go.Proofs.YtigofgdmefobaaaDoor.Peel.EndsAt.below HE.out (B_)); rintro e w7 ⟨v323, rfl, ho0, hb⟩; refine ⟨_, rfl, ?_⟩; have n0_ := Aside0.mk (Kd.V_lower (Kd.V_mono (ok' := fun k_ => k_ ≠ gb321) ho0 (fun k_ hk_ => (Kd.freshB (g := gb321) (o := .cells #[.slice A0_0 l0_0.length c0_0, .int .i64 a0_1, .slice A0_2 l0_2.length c0_2] 25 (0, 0)) (K_ BK321) k_ hk_))) (below_size (B_))); have n1_ := Aside0.mk (blk_below (g := gb321) (o := .cells #[.slice A0_0 l0_0.length c0_0, .int .i64 a0_1, .slice A0_2 l0_2.length c0_2] 25 (0, 0)) (K_ BK321) hb); have n2_ := Aside0.mk (below_step (B_) hb); clear BK321; clear HB; have HO324 := n0_; have BK321 := n1_; have HB := n2_; clear n0_ n1_ n2_; (try clear hb); (try clear hb2); (try clear hk); (try clear hi); (try clear ho0); obtain ⟨hcz8_0, hcz8_1, hcz8_2, hfz8_0, hfz8_1, hfz8_2⟩ := cz3 BK321) | ((with_reducible refine gate_callee (f := 31) rfl ?_); refine goesL_ (some 16) rfl rfl Tryd.func31 (by kernel_rfl) rfl #[.agg #[.slice A0_0 l0_0.length c0_0, .int .i64 a0_1, .slice A0_2 l0_2.length c0_2]] rfl (by (try simp only [List.map_toArray, List.map_cons, List.map_nil]); first | done | rfl | (simp only [List.length_drop, List.length_take]; rfl)) ?_; (with_reducible refine (luciferref01_Best.calls k _ _ l0_0 a0_1 _ _ l0_2 t326 t329 _ ?side1 ?side2 ?side3 ?side4 A3.out).mono ?_); (case side1 => exact C_ HR0_0); (case side2 => exact HC0_0.out); (case side3 => exact C_ HR0_2); (case side4 => exact HC0_2.out); rintro e w9 ⟨v327, rfl, ho0, hb⟩; refine ⟨_, rfl, ?_⟩; have n0_ := Aside0.mk (Kd.V_elder' (by (with_reducible repeat (first | apply Kd.V_alloc | apply Kd.V_drewN | apply Kd.V_drew)); exact HO324.out) (Kd.R_base ho0) hb); have n1_ := Aside0.mk (Kd.R_lower ho0 (below_size (B_))); have n2_ := Aside0.mk (blk_below (g := gb321) (o := .cells #[.slice A0_0 l0_0.length c0_0, .int .i64 a0_1, .slice A0_2 l0_2.length c0_2] 25 (0, 0)) (K_ BK321) hb); have n3_ := Aside0.mk (below_step (B_) hb); clear HO324; clear BK321; clear HB; have HO324 := n0_; have HO328 := n1_; have BK321 := n2_; have HB := n3_; clear n0_ n1_ n2_ n3_; (try clear hb); (try clear hb2); (try clear hk); (try clear hi); (try clear ho0)))
  (try simp only [Act.put, List.setIfInBounds_toArray, List.set_cons_zero, List.set_cons_succ])
  go_cut [27] (fun v27 wc => ∃ (kq : Nat) (x27_3 : Bool), v27 = .bool x27_3 ∧ Aside0 (luciferlaw01_PeelBests.j0 kq x27_3 l0_0 a0_1 l0_2 = some r) ∧ Aside0 (kq ≤ k) ∧ Aside0 (wc.heap[gb321]? = some (.cells #[(.slice A0_0 l0_0.length c0_0), .int .i64 a0_1, (.slice A0_2 l0_2.length c0_2)] 25 (0, 0))) ∧ Aside0 (Below w.heap.size w wc))
  case first =>
    have H := HC4.out
    clear HC4
    replace H := Option.bind_eq_some_iff.mp H
    obtain ⟨t330, A100, H⟩ := H
    replace H : (if t330 = true then (luciferlaw01_PeelBests.j0 k (t325 != t329) l0_0 a0_1 l0_2) else (luciferlaw01_PeelBests.j0 k true l0_0 a0_1 l0_2)) = some r := H
    have A10 := Aside0.mk A100
    clear A100
    by_cases c11 : t330 = true
    · subst c11
      have H1 : (luciferlaw01_PeelBests.j0 k (t325 != t329) l0_0 a0_1 l0_2) = some r := by rw [if_pos rfl] at H; exact H
      clear H
      have H := H1
      clear H1
      have H' := Aside0.mk H
      clear H
      obtain ⟨Ao12, co12, eo12⟩ := Kd.V_slice HO324.out
      subst eo12
      obtain ⟨Ao13, co13, eo13⟩ := Kd.R_slice HO328.out
      subst eo13
      go_wp2_with (first | ((with_reducible refine gate_callee (f := 32) rfl ?_); refine goesL_ (some 21) rfl rfl Tryd.func32 (by kernel_rfl) rfl #[.slice Ao12 t322.length co12, .slice Ao13 t326.length co13] rfl (by (try simp only [List.map_toArray, List.map_cons, List.map_nil]); first | done | rfl | (simp only [List.length_drop, List.length_take]; rfl)) ?_; (with_reducible refine (luciferref00_Alike.calls k _ _ t322 _ _ t326 true _ ?side1 ?side2 ?side3 ?side4 A10.out).mono ?_); (case side1 => repeat (first | exact (Kd.V_reads' HO324.out).2.2 | (with_reducible refine Kd.C_alloc ?_ _) | (with_reducible refine Kd.C_drewN ?_ _) | (with_reducible refine Kd.C_drew ?_))); (case side2 => exact (Kd.V_reads' HO324.out).2.1); (case side3 => repeat (first | exact (Kd.R_reads' HO328.out).2.2 | (with_reducible refine Kd.C_alloc ?_ _) | (with_reducible refine Kd.C_drewN ?_ _) | (with_reducible refine Kd.C_drew ?_))); (case side4 => exact (Kd.R_reads' HO328.out).2.1); rintro e w' ⟨rfl, ⟨nd, rfl⟩⟩; refine ⟨_, rfl, ?_⟩))
      go_meet
      case rel => exact ⟨_, ((t325 != t329)), S_, H', ⟨by first | omega | exact Nat.le_refl _⟩, ⟨K_ BK321⟩, ⟨B_⟩⟩
    · replace c11 := Bool.eq_false_iff.mpr c11
      subst c11
      have H1 : (luciferlaw01_PeelBests.j0 k true l0_0 a0_1 l0_2) = some r := by rw [if_neg (show ¬ (false = true) by decide)] at H; exact H
      clear H
      have H := H1
      clear H1
      have H' := Aside0.mk H
      clear H
      obtain ⟨Ao14, co14, eo14⟩ := Kd.V_slice HO324.out
      subst eo14
      obtain ⟨Ao15, co15, eo15⟩ := Kd.R_slice HO328.out
      subst eo15
      go_wp2_with (first | ((with_reducible refine gate_callee (f := 32) rfl ?_); refine goesL_ (some 21) rfl rfl Tryd.func32 (by kernel_rfl) rfl #[.slice Ao14 t322.length co14, .slice Ao15 t326.length co15] rfl (by (try simp only [List.map_toArray, List.map_cons, List.map_nil]); first | done | rfl | (simp only [List.length_drop, List.length_take]; rfl)) ?_; (with_reducible refine (luciferref00_Alike.calls k _ _ t322 _ _ t326 false _ ?side1 ?side2 ?side3 ?side4 A10.out).mono ?_); (case side1 => repeat (first | exact (Kd.V_reads' HO324.out).2.2 | (with_reducible refine Kd.C_alloc ?_ _) | (with_reducible refine Kd.C_drewN ?_ _) | (with_reducible refine Kd.C_drew ?_))); (case side2 => exact (Kd.V_reads' HO324.out).2.1); (case side3 => repeat (first | exact (Kd.R_reads' HO328.out).2.2 | (with_reducible refine Kd.C_alloc ?_ _) | (with_reducible refine Kd.C_drewN ?_ _) | (with_reducible refine Kd.C_drew ?_))); (case side4 => exact (Kd.R_reads' HO328.out).2.1); rintro e w' ⟨rfl, ⟨nd, rfl⟩⟩; refine ⟨_, rfl, ?_⟩))
      go_meet
      case rel => exact ⟨_, (true), S_, H', ⟨by first | omega | exact Nat.le_refl _⟩, ⟨K_ BK321⟩, ⟨B_⟩⟩
  case rest =>
    clear HC4
    try clear c1; try clear p2; try clear c3; try clear c5; try clear c11; try clear hcz6_0; try clear hcz6_1; try clear hcz6_2; try clear hcz8_0; try clear hcz8_1; try clear hcz8_2; try clear hfz6_0; try clear hfz6_1; try clear hfz6_2; try clear hfz8_0; try clear hfz8_1; try clear hfz8_2
    obtain ⟨kq, x27_3, rfl, HA, HJ3, BK321, HB⟩ := hcut
    cases kq with
    | zero => exact absurd HA.out (by simp [luciferlaw01_PeelBests.j0])
    | succ kj3 =>
      have H := HA.out
      clear HA
      simp only [luciferlaw01_PeelBests.j0] at H
      by_cases c16 : x27_3 = true
      · subst c16
        have H1 : (some false) = some r := by rw [if_pos rfl] at H; exact H
        clear H
        have H := H1
        clear H1
        obtain rfl := Option.some.inj H
        go_wp2
        go_ret
        exact ⟨by first | rfl | (simp [errW_none, errW_some] <;> rfl) | (simp [*, errW_none, errW_some] <;> rfl), B_⟩
      · replace c16 := Bool.eq_false_iff.mpr c16
        subst c16
        have H1 : ((peel_Waste.f l0_0 a0_1 l0_2).bind fun bt331 => ((luciferref01_Waste.f kj3 l0_0 a0_1 l0_2).bind fun bt333 => (if bt331.1 = bt333.1 then (luciferlaw01_PeelBests.j1 kj3 (bt331.2 != bt333.2) l0_0 a0_1 l0_2) else (luciferlaw01_PeelBests.j1 kj3 true l0_0 a0_1 l0_2)))) = some r := by rw [if_neg (show ¬ (false = true) by decide)] at H; exact H
        clear H
        have H := H1
        clear H1
        replace H := Option.bind_eq_some_iff.mp H
        obtain ⟨⟨t331, t332⟩, A170, H⟩ := H
        replace H : ((luciferref01_Waste.f kj3 l0_0 a0_1 l0_2).bind fun bt333 => (if t331 = bt333.1 then (luciferlaw01_PeelBests.j1 kj3 (t332 != bt333.2) l0_0 a0_1 l0_2) else (luciferlaw01_PeelBests.j1 kj3 true l0_0 a0_1 l0_2))) = some r := H
        have A17 := Aside0.mk A170
        clear A170
        replace H := Option.bind_eq_some_iff.mp H
        obtain ⟨⟨t333, t334⟩, A180, H⟩ := H
        replace H : (if t331 = t333 then (luciferlaw01_PeelBests.j1 kj3 (t332 != t334) l0_0 a0_1 l0_2) else (luciferlaw01_PeelBests.j1 kj3 true l0_0 a0_1 l0_2)) = some r := H
        have A18 := Aside0.mk A180
        clear A180
        have HC19 := Aside0.mk H
        clear H
        obtain ⟨hcz20_0, hcz20_1, hcz20_2, hfz20_0, hfz20_1, hfz20_2⟩ := cz3 BK321
        go_upto_region 7 with (first | ((with_reducible refine gate_callee (f := 33) rfl ?_); refine goesL_ (some 30) rfl rfl Tryd.func33 (by kernel_rfl) rfl #[.agg #[.slice A0_0 l0_0.length c0_0, .int .i64 a0_1, .slice A0_2 l0_2.length c0_2]] rfl (by (try simp only [List.map_toArray, List.map_cons, List.map_nil]); first | done | rfl | (simp only [List.length_drop, List.length_take]; rfl)) ?_; (with_reducible refine (peel_Waste.calls _ _ l0_0 a0_1 _ _ l0_2 t331 t332 _ ?side1 ?side2 ?side3 ?side4 ?side5 A17.out).mono ?_); (case side1 => exact C_ HR0_0); (case side2 => exact HC0_0.out); (case side3 => exact C_ HR0_2); (case side4 => exact HC0_2.out); (case side5 => exact Go.Proofs.YtigofgdmefobaaaDoor.Peel.EndsAt.below HE.out (B_)); rintro e w21 ⟨rfl, hb⟩; refine ⟨_, rfl, ?_⟩; have n0_ := Aside0.mk (blk_below (g := gb321) (o := .cells #[.slice A0_0 l0_0.length c0_0, .int .i64 a0_1, .slice A0_2 l0_2.length c0_2] 25 (0, 0)) (K_ BK321) hb); have n1_ := Aside0.mk (below_step (B_) hb); clear BK321; clear HB; have BK321 := n0_; have HB := n1_; clear n0_ n1_; (try clear hb); (try clear hb2); (try clear hk); (try clear hi); obtain ⟨hcz22_0, hcz22_1, hcz22_2, hfz22_0, hfz22_1, hfz22_2⟩ := cz3 BK321) | ((with_reducible refine gate_callee (f := 34) rfl ?_); refine goesL_ (some 35) rfl rfl Tryd.func34 (by kernel_rfl) rfl #[.agg #[.slice A0_0 l0_0.length c0_0, .int .i64 a0_1, .slice A0_2 l0_2.length c0_2]] rfl (by (try simp only [List.map_toArray, List.map_cons, List.map_nil]); first | done | rfl | (simp only [List.length_drop, List.length_take]; rfl)) ?_; (with_reducible refine (luciferref01_Waste.calls kj3 _ _ l0_0 a0_1 _ _ l0_2 t333 t334 _ ?side1 ?side2 ?side3 ?side4 A18.out).mono ?_); (case side1 => exact C_ HR0_0); (case side2 => exact HC0_0.out); (case side3 => exact C_ HR0_2); (case side4 => exact HC0_2.out); rintro e w23 ⟨rfl, hb⟩; refine ⟨_, rfl, ?_⟩; have n0_ := Aside0.mk (blk_below (g := gb321) (o := .cells #[.slice A0_0 l0_0.length c0_0, .int .i64 a0_1, .slice A0_2 l0_2.length c0_2] 25 (0, 0)) (K_ BK321) hb); have n1_ := Aside0.mk (below_step (B_) hb); clear BK321; clear HB; have BK321 := n0_; have HB := n1_; clear n0_ n1_; (try clear hb); (try clear hb2); (try clear hk); (try clear hi)))
        (try simp only [Act.put, List.setIfInBounds_toArray, List.set_cons_zero, List.set_cons_succ])
        go_cut [45] (fun v45 wc => ∃ (kq : Nat) (x45_18 : Bool), v45 = .bool x45_18 ∧ Aside0 (luciferlaw01_PeelBests.j1 kq x45_18 l0_0 a0_1 l0_2 = some r) ∧ Aside0 (kq ≤ kj3) ∧ Aside0 (wc.heap[gb321]? = some (.cells #[(.slice A0_0 l0_0.length c0_0), .int .i64 a0_1, (.slice A0_2 l0_2.length c0_2)] 25 (0, 0))) ∧ Aside0 (Below w.heap.size w wc))
        case first =>
          have H := HC19.out
          clear HC19
          by_cases c24 : t331 = t333
          · rw [if_pos c24] at H
            have c24b0 : (t331 == t333) = true := beq_iff_eq.mpr c24
            have c24b1 : (t331 != t333) = false := bne_eq_false_iff_eq.mpr c24
            clear c24
            (first | rw [c24b0] | (simp only [i64_w, i32_w]; rw [c24b0]) | skip)
            have H' := Aside0.mk H
            clear H
            go_wp2
            go_meet
            case rel => exact ⟨_, ((t332 != t334)), S_, H', ⟨by have := HJ3.out; first | omega | exact Nat.le_refl _⟩, ⟨K_ BK321⟩, ⟨B_⟩⟩
          · rw [if_neg c24] at H
            have c24b0 : (t331 == t333) = false := beq_eq_false_iff_ne.mpr c24
            have c24b1 : (t331 != t333) = true := bne_iff_ne.mpr c24
            (first | rw [c24b0] | (simp only [i64_w, i32_w]; rw [c24b0]) | skip)
            have H' := Aside0.mk H
            clear H
            go_wp2
            go_meet
            case rel => exact ⟨_, (true), S_, H', ⟨by have := HJ3.out; first | omega | exact Nat.le_refl _⟩, ⟨K_ BK321⟩, ⟨B_⟩⟩
        case rest =>
          clear HC19
          try clear c1; try clear c2; try clear p2; try clear c3; try clear c5; try clear c11; try clear c16; try clear c24; try clear c24b0; try clear c24b1; try clear hcz20_0; try clear hcz20_1; try clear hcz20_2; try clear hcz22_0; try clear hcz22_1; try clear hcz22_2; try clear hcz6_0; try clear hcz6_1; try clear hcz6_2; try clear hcz8_0; try clear hcz8_1; try clear hcz8_2; try clear hfz20_0; try clear hfz20_1; try clear hfz20_2; try clear hfz22_0; try clear hfz22_1; try clear hfz22_2; try clear hfz6_0; try clear hfz6_1; try clear hfz6_2; try clear hfz8_0; try clear hfz8_1; try clear hfz8_2; try clear p2
          obtain ⟨kq, x45_18, rfl, HA, HJ18, BK321, HB⟩ := hcut
          cases kq with
          | zero => exact absurd HA.out (by simp [luciferlaw01_PeelBests.j1])
          | succ kj18 =>
            have H := HA.out
            clear HA
            simp only [luciferlaw01_PeelBests.j1] at H
            by_cases c25 : x45_18 = true
            · subst c25
              have H1 : (some false) = some r := by rw [if_pos rfl] at H; exact H
              clear H
              have H := H1
              clear H1
              obtain rfl := Option.some.inj H
              go_wp2
              go_ret
              exact ⟨by first | rfl | (simp [errW_none, errW_some] <;> rfl) | (simp [*, errW_none, errW_some] <;> rfl), B_⟩
            · replace c25 := Bool.eq_false_iff.mpr c25
              subst c25
              have H1 : ((peel_Hope.f l0_0 a0_1 l0_2).bind fun bt335 => ((luciferref01_Hope.f kj18 l0_0 a0_1 l0_2).bind fun bt337 => (if bt335.1 = bt337.1 then (luciferlaw01_PeelBests.j2 kj18 (bt335.2 != bt337.2) l0_0 a0_1 l0_2) else (luciferlaw01_PeelBests.j2 kj18 true l0_0 a0_1 l0_2)))) = some r := by rw [if_neg (show ¬ (false = true) by decide)] at H; exact H
              clear H
              have H := H1
              clear H1
              replace H := Option.bind_eq_some_iff.mp H
              obtain ⟨⟨t335, t336⟩, A260, H⟩ := H
              replace H : ((luciferref01_Hope.f kj18 l0_0 a0_1 l0_2).bind fun bt337 => (if t335 = bt337.1 then (luciferlaw01_PeelBests.j2 kj18 (t336 != bt337.2) l0_0 a0_1 l0_2) else (luciferlaw01_PeelBests.j2 kj18 true l0_0 a0_1 l0_2))) = some r := H
              have A26 := Aside0.mk A260
              clear A260
              replace H := Option.bind_eq_some_iff.mp H
              obtain ⟨⟨t337, t338⟩, A270, H⟩ := H
              replace H : (if t335 = t337 then (luciferlaw01_PeelBests.j2 kj18 (t336 != t338) l0_0 a0_1 l0_2) else (luciferlaw01_PeelBests.j2 kj18 true l0_0 a0_1 l0_2)) = some r := H
              have A27 := Aside0.mk A270
              clear A270
              have HC28 := Aside0.mk H
              clear H
              obtain ⟨hcz29_0, hcz29_1, hcz29_2, hfz29_0, hfz29_1, hfz29_2⟩ := cz3 BK321
              go_upto_region 11 with (first | ((with_reducible refine gate_callee (f := 35) rfl ?_); refine goesL_ (some 48) rfl rfl Tryd.func35 (by kernel_rfl) rfl #[.agg #[.slice A0_0 l0_0.length c0_0, .int .i64 a0_1, .slice A0_2 l0_2.length c0_2]] rfl (by (try simp only [List.map_toArray, List.map_cons, List.map_nil]); first | done | rfl | (simp only [List.length_drop, List.length_take]; rfl)) ?_; (with_reducible refine (peel_Hope.calls _ _ l0_0 a0_1 _ _ l0_2 t335 t336 _ ?side1 ?side2 ?side3 ?side4 ?side5 A26.out).mono ?_); (case side1 => exact C_ HR0_0); (case side2 => exact HC0_0.out); (case side3 => exact C_ HR0_2); (case side4 => exact HC0_2.out); (case side5 => exact Go.Proofs.YtigofgdmefobaaaDoor.Peel.EndsAt.below HE.out (B_)); rintro e w30 ⟨rfl, hb⟩; refine ⟨_, rfl, ?_⟩; have n0_ := Aside0.mk (blk_below (g := gb321) (o := .cells #[.slice A0_0 l0_0.length c0_0, .int .i64 a0_1, .slice A0_2 l0_2.length c0_2] 25 (0, 0)) (K_ BK321) hb); have n1_ := Aside0.mk (below_step (B_) hb); clear BK321; clear HB; have BK321 := n0_; have HB := n1_; clear n0_ n1_; (try clear hb); (try clear hb2); (try clear hk); (try clear hi); obtain ⟨hcz31_0, hcz31_1, hcz31_2, hfz31_0, hfz31_1, hfz31_2⟩ := cz3 BK321) | ((with_reducible refine gate_callee (f := 36) rfl ?_); refine goesL_ (some 53) rfl rfl Tryd.func36 (by kernel_rfl) rfl #[.agg #[.slice A0_0 l0_0.length c0_0, .int .i64 a0_1, .slice A0_2 l0_2.length c0_2]] rfl (by (try simp only [List.map_toArray, List.map_cons, List.map_nil]); first | done | rfl | (simp only [List.length_drop, List.length_take]; rfl)) ?_; (with_reducible refine (luciferref01_Hope.calls kj18 _ _ l0_0 a0_1 _ _ l0_2 t337 t338 _ ?side1 ?side2 ?side3 ?side4 A27.out).mono ?_); (case side1 => exact C_ HR0_0); (case side2 => exact HC0_0.out); (case side3 => exact C_ HR0_2); (case side4 => exact HC0_2.out); rintro e w32 ⟨rfl, hb⟩; refine ⟨_, rfl, ?_⟩; have n0_ := Aside0.mk (blk_below (g := gb321) (o := .cells #[.slice A0_0 l0_0.length c0_0, .int .i64 a0_1, .slice A0_2 l0_2.length c0_2] 25 (0, 0)) (K_ BK321) hb); have n1_ := Aside0.mk (below_step (B_) hb); clear BK321; clear HB; have BK321 := n0_; have HB := n1_; clear n0_ n1_; (try clear hb); (try clear hb2); (try clear hk); (try clear hi)))
              (try simp only [Act.put, List.setIfInBounds_toArray, List.set_cons_zero, List.set_cons_succ])
              go_cut [63] (fun v63 wc => ∃ (kq : Nat) (x63_27 : Bool), v63 = .bool x63_27 ∧ Aside0 (luciferlaw01_PeelBests.j2 kq x63_27 l0_0 a0_1 l0_2 = some r) ∧ Aside0 (kq ≤ kj18) ∧ Aside0 (wc.heap[gb321]? = some (.cells #[(.slice A0_0 l0_0.length c0_0), .int .i64 a0_1, (.slice A0_2 l0_2.length c0_2)] 25 (0, 0))) ∧ Aside0 (Below w.heap.size w wc))
              case first =>
                have H := HC28.out
                clear HC28
                by_cases c33 : t335 = t337
                · rw [if_pos c33] at H
                  have c33b0 : (t335 == t337) = true := beq_iff_eq.mpr c33
                  have c33b1 : (t335 != t337) = false := bne_eq_false_iff_eq.mpr c33
                  clear c33
                  (first | rw [c33b0] | (simp only [i64_w, i32_w]; rw [c33b0]) | skip)
                  have H' := Aside0.mk H
                  clear H
                  go_wp2
                  go_meet
                  case rel => exact ⟨_, ((t336 != t338)), S_, H', ⟨by have := HJ3.out; have := HJ18.out; first | omega | exact Nat.le_refl _⟩, ⟨K_ BK321⟩, ⟨B_⟩⟩
                · rw [if_neg c33] at H
                  have c33b0 : (t335 == t337) = false := beq_eq_false_iff_ne.mpr c33
                  have c33b1 : (t335 != t337) = true := bne_iff_ne.mpr c33
                  (first | rw [c33b0] | (simp only [i64_w, i32_w]; rw [c33b0]) | skip)
                  have H' := Aside0.mk H
                  clear H
                  go_wp2
                  go_meet
                  case rel => exact ⟨_, (true), S_, H', ⟨by have := HJ3.out; have := HJ18.out; first | omega | exact Nat.le_refl _⟩, ⟨K_ BK321⟩, ⟨B_⟩⟩
              case rest =>
                clear HC28
                try clear c1; try clear c2; try clear p2; try clear c3; try clear c5; try clear c11; try clear c16; try clear c24; try clear c24b0; try clear c24b1; try clear c25; try clear c30; try clear c31; try clear c32; try clear c33; try clear c33b0; try clear c33b1; try clear hcz20_0; try clear hcz20_1; try clear hcz20_2; try clear hcz22_0; try clear hcz22_1; try clear hcz22_2; try clear hcz29_0; try clear hcz29_1; try clear hcz29_2; try clear hcz31_0; try clear hcz31_1; try clear hcz31_2; try clear hcz6_0; try clear hcz6_1; try clear hcz6_2; try clear hcz8_0; try clear hcz8_1; try clear hcz8_2; try clear hfz20_0; try clear hfz20_1; try clear hfz20_2; try clear hfz22_0; try clear hfz22_1; try clear hfz22_2; try clear hfz29_0; try clear hfz29_1; try clear hfz29_2; try clear hfz31_0; try clear hfz31_1; try clear hfz31_2; try clear hfz6_0; try clear hfz6_1; try clear hfz6_2; try clear hfz8_0; try clear hfz8_1; try clear hfz8_2; try clear p2
                obtain ⟨kq, x63_27, rfl, HA, HJ27, BK321, HB⟩ := hcut
                cases kq with
                | zero => exact absurd HA.out (by simp [luciferlaw01_PeelBests.j2])
                | succ kj27 =>
                  have H := HA.out
                  clear HA
                  simp only [luciferlaw01_PeelBests.j2] at H
                  by_cases c34 : x63_27 = true
                  · subst c34
                    have H1 : (some false) = some r := by rw [if_pos rfl] at H; exact H
                    clear H
                    have H := H1
                    clear H1
                    obtain rfl := Option.some.inj H
                    go_wp2
                    go_ret
                    exact ⟨by first | rfl | (simp [errW_none, errW_some] <;> rfl) | (simp [*, errW_none, errW_some] <;> rfl), B_⟩
                  · replace c34 := Bool.eq_false_iff.mpr c34
                    subst c34
                    have H1 : ((peel_Ask.f l0_0 a0_1 l0_2).bind fun bt339 => ((luciferref01_Ask.f kj27 l0_0 a0_1 l0_2).bind fun bt341 => (if bt339.1 = bt341.1 then (if bt339.2 = bt341.2 then ((luciferlaw01_peeled.f).bind fun t343 => (some t343)) else (some false)) else (some false)))) = some r := by rw [if_neg (show ¬ (false = true) by decide)] at H; exact H
                    clear H
                    have H := H1
                    clear H1
                    replace H := Option.bind_eq_some_iff.mp H
                    obtain ⟨⟨t339, t340⟩, A350, H⟩ := H
                    replace H : ((luciferref01_Ask.f kj27 l0_0 a0_1 l0_2).bind fun bt341 => (if t339 = bt341.1 then (if t340 = bt341.2 then ((luciferlaw01_peeled.f).bind fun t343 => (some t343)) else (some false)) else (some false))) = some r := H
                    have A35 := Aside0.mk A350
                    clear A350
                    replace H := Option.bind_eq_some_iff.mp H
                    obtain ⟨⟨t341, t342⟩, A360, H⟩ := H
                    replace H : (if t339 = t341 then (if t340 = t342 then ((luciferlaw01_peeled.f).bind fun t343 => (some t343)) else (some false)) else (some false)) = some r := H
                    have A36 := Aside0.mk A360
                    clear A360
                    by_cases c37 : t339 = t341
                    · rw [if_pos c37] at H
                      have c37b0 : (t339 == t341) = true := beq_iff_eq.mpr c37
                      have c37b1 : (t339 != t341) = false := bne_eq_false_iff_eq.mpr c37
                      clear c37
                      by_cases c38 : t340 = t342
                      · rw [if_pos c38] at H
                        have c38b0 : (t340 == t342) = true := beq_iff_eq.mpr c38
                        have c38b1 : (t340 != t342) = false := bne_eq_false_iff_eq.mpr c38
                        clear c38
                        replace H := Option.bind_eq_some_iff.mp H
                        obtain ⟨t343, A390, H⟩ := H
                        replace H : (some t343) = some r := H
                        have A39 := Aside0.mk A390
                        clear A390
                        obtain rfl := Option.some.inj H
                        obtain ⟨hcz40_0, hcz40_1, hcz40_2, hfz40_0, hfz40_1, hfz40_2⟩ := cz3 BK321
                        go_wp2_with (first | ((with_reducible refine gate_callee (f := 37) rfl ?_); refine goesL_ (some 66) rfl rfl Tryd.func37 (by kernel_rfl) rfl #[.agg #[.slice A0_0 l0_0.length c0_0, .int .i64 a0_1, .slice A0_2 l0_2.length c0_2]] rfl (by (try simp only [List.map_toArray, List.map_cons, List.map_nil]); first | done | rfl | (simp only [List.length_drop, List.length_take]; rfl)) ?_; (with_reducible refine (peel_Ask.calls _ _ l0_0 a0_1 _ _ l0_2 t339 t340 _ ?side1 ?side2 ?side3 ?side4 ?side5 A35.out).mono ?_); (case side1 => exact C_ HR0_0); (case side2 => exact HC0_0.out); (case side3 => exact C_ HR0_2); (case side4 => exact HC0_2.out); (case side5 => exact Go.Proofs.YtigofgdmefobaaaDoor.Peel.EndsAt.below HE.out (B_)); rintro e w41 ⟨rfl, hb⟩; refine ⟨_, rfl, ?_⟩; have n0_ := Aside0.mk (blk_below (g := gb321) (o := .cells #[.slice A0_0 l0_0.length c0_0, .int .i64 a0_1, .slice A0_2 l0_2.length c0_2] 25 (0, 0)) (K_ BK321) hb); have n1_ := Aside0.mk (below_step (B_) hb); clear BK321; clear HB; have BK321 := n0_; have HB := n1_; clear n0_ n1_; (try clear hb); (try clear hb2); (try clear hk); (try clear hi); obtain ⟨hcz42_0, hcz42_1, hcz42_2, hfz42_0, hfz42_1, hfz42_2⟩ := cz3 BK321) | ((with_reducible refine gate_callee (f := 38) rfl ?_); refine goesL_ (some 71) rfl rfl Tryd.func38 (by kernel_rfl) rfl #[.agg #[.slice A0_0 l0_0.length c0_0, .int .i64 a0_1, .slice A0_2 l0_2.length c0_2]] rfl (by (try simp only [List.map_toArray, List.map_cons, List.map_nil]); first | done | rfl | (simp only [List.length_drop, List.length_take]; rfl)) ?_; (with_reducible refine (luciferref01_Ask.calls kj27 _ _ l0_0 a0_1 _ _ l0_2 t341 t342 _ ?side1 ?side2 ?side3 ?side4 A36.out).mono ?_); (case side1 => exact C_ HR0_0); (case side2 => exact HC0_0.out); (case side3 => exact C_ HR0_2); (case side4 => exact HC0_2.out); rintro e w43 ⟨rfl, hb⟩; refine ⟨_, rfl, ?_⟩; have n0_ := Aside0.mk (blk_below (g := gb321) (o := .cells #[.slice A0_0 l0_0.length c0_0, .int .i64 a0_1, .slice A0_2 l0_2.length c0_2] 25 (0, 0)) (K_ BK321) hb); have n1_ := Aside0.mk (below_step (B_) hb); clear BK321; clear HB; have BK321 := n0_; have HB := n1_; clear n0_ n1_; (try clear hb); (try clear hb2); (try clear hk); (try clear hi)) | (go_at_call 23; (with_reducible refine (luciferlaw01_peeled.calls  t343 _ ?side1 A39.out).mono ?_); (case side1 => exact Go.Proofs.YtigofgdmefobaaaDoor.Peel.EndsAt.below HE.out (B_)); rintro e w44 ⟨rfl, hb⟩; have n0_ := Aside0.mk (blk_below (g := gb321) (o := .cells #[.slice A0_0 l0_0.length c0_0, .int .i64 a0_1, .slice A0_2 l0_2.length c0_2] 25 (0, 0)) (K_ BK321) hb); have n1_ := Aside0.mk (below_step (B_) hb); clear BK321; clear HB; have BK321 := n0_; have HB := n1_; clear n0_ n1_; (try clear hb); (try clear hb2); (try clear hk); (try clear hi)))
                        go_ret
                        exact ⟨by first | rfl | (simp [errW_none, errW_some] <;> rfl) | (simp [*, errW_none, errW_some] <;> rfl), B_⟩
                      · rw [if_neg c38] at H
                        have c38b0 : (t340 == t342) = false := beq_eq_false_iff_ne.mpr c38
                        have c38b1 : (t340 != t342) = true := bne_iff_ne.mpr c38
                        obtain rfl := Option.some.inj H
                        obtain ⟨hcz45_0, hcz45_1, hcz45_2, hfz45_0, hfz45_1, hfz45_2⟩ := cz3 BK321
                        go_wp2_with (first | ((with_reducible refine gate_callee (f := 37) rfl ?_); refine goesL_ (some 66) rfl rfl Tryd.func37 (by kernel_rfl) rfl #[.agg #[.slice A0_0 l0_0.length c0_0, .int .i64 a0_1, .slice A0_2 l0_2.length c0_2]] rfl (by (try simp only [List.map_toArray, List.map_cons, List.map_nil]); first | done | rfl | (simp only [List.length_drop, List.length_take]; rfl)) ?_; (with_reducible refine (peel_Ask.calls _ _ l0_0 a0_1 _ _ l0_2 t339 t340 _ ?side1 ?side2 ?side3 ?side4 ?side5 A35.out).mono ?_); (case side1 => exact C_ HR0_0); (case side2 => exact HC0_0.out); (case side3 => exact C_ HR0_2); (case side4 => exact HC0_2.out); (case side5 => exact Go.Proofs.YtigofgdmefobaaaDoor.Peel.EndsAt.below HE.out (B_)); rintro e w46 ⟨rfl, hb⟩; refine ⟨_, rfl, ?_⟩; have n0_ := Aside0.mk (blk_below (g := gb321) (o := .cells #[.slice A0_0 l0_0.length c0_0, .int .i64 a0_1, .slice A0_2 l0_2.length c0_2] 25 (0, 0)) (K_ BK321) hb); have n1_ := Aside0.mk (below_step (B_) hb); clear BK321; clear HB; have BK321 := n0_; have HB := n1_; clear n0_ n1_; (try clear hb); (try clear hb2); (try clear hk); (try clear hi); obtain ⟨hcz47_0, hcz47_1, hcz47_2, hfz47_0, hfz47_1, hfz47_2⟩ := cz3 BK321) | ((with_reducible refine gate_callee (f := 38) rfl ?_); refine goesL_ (some 71) rfl rfl Tryd.func38 (by kernel_rfl) rfl #[.agg #[.slice A0_0 l0_0.length c0_0, .int .i64 a0_1, .slice A0_2 l0_2.length c0_2]] rfl (by (try simp only [List.map_toArray, List.map_cons, List.map_nil]); first | done | rfl | (simp only [List.length_drop, List.length_take]; rfl)) ?_; (with_reducible refine (luciferref01_Ask.calls kj27 _ _ l0_0 a0_1 _ _ l0_2 t341 t342 _ ?side1 ?side2 ?side3 ?side4 A36.out).mono ?_); (case side1 => exact C_ HR0_0); (case side2 => exact HC0_0.out); (case side3 => exact C_ HR0_2); (case side4 => exact HC0_2.out); rintro e w48 ⟨rfl, hb⟩; refine ⟨_, rfl, ?_⟩; have n0_ := Aside0.mk (blk_below (g := gb321) (o := .cells #[.slice A0_0 l0_0.length c0_0, .int .i64 a0_1, .slice A0_2 l0_2.length c0_2] 25 (0, 0)) (K_ BK321) hb); have n1_ := Aside0.mk (below_step (B_) hb); clear BK321; clear HB; have BK321 := n0_; have HB := n1_; clear n0_ n1_; (try clear hb); (try clear hb2); (try clear hk); (try clear hi)))
                        go_ret
                        exact ⟨by first | rfl | (simp [errW_none, errW_some] <;> rfl) | (simp [*, errW_none, errW_some] <;> rfl), B_⟩
                    · rw [if_neg c37] at H
                      have c37b0 : (t339 == t341) = false := beq_eq_false_iff_ne.mpr c37
                      have c37b1 : (t339 != t341) = true := bne_iff_ne.mpr c37
                      obtain rfl := Option.some.inj H
                      obtain ⟨hcz49_0, hcz49_1, hcz49_2, hfz49_0, hfz49_1, hfz49_2⟩ := cz3 BK321
                      go_wp2_with (first | ((with_reducible refine gate_callee (f := 37) rfl ?_); refine goesL_ (some 66) rfl rfl Tryd.func37 (by kernel_rfl) rfl #[.agg #[.slice A0_0 l0_0.length c0_0, .int .i64 a0_1, .slice A0_2 l0_2.length c0_2]] rfl (by (try simp only [List.map_toArray, List.map_cons, List.map_nil]); first | done | rfl | (simp only [List.length_drop, List.length_take]; rfl)) ?_; (with_reducible refine (peel_Ask.calls _ _ l0_0 a0_1 _ _ l0_2 t339 t340 _ ?side1 ?side2 ?side3 ?side4 ?side5 A35.out).mono ?_); (case side1 => exact C_ HR0_0); (case side2 => exact HC0_0.out); (case side3 => exact C_ HR0_2); (case side4 => exact HC0_2.out); (case side5 => exact Go.Proofs.YtigofgdmefobaaaDoor.Peel.EndsAt.below HE.out (B_)); rintro e w50 ⟨rfl, hb⟩; refine ⟨_, rfl, ?_⟩; have n0_ := Aside0.mk (blk_below (g := gb321) (o := .cells #[.slice A0_0 l0_0.length c0_0, .int .i64 a0_1, .slice A0_2 l0_2.length c0_2] 25 (0, 0)) (K_ BK321) hb); have n1_ := Aside0.mk (below_step (B_) hb); clear BK321; clear HB; have BK321 := n0_; have HB := n1_; clear n0_ n1_; (try clear hb); (try clear hb2); (try clear hk); (try clear hi); obtain ⟨hcz51_0, hcz51_1, hcz51_2, hfz51_0, hfz51_1, hfz51_2⟩ := cz3 BK321) | ((with_reducible refine gate_callee (f := 38) rfl ?_); refine goesL_ (some 71) rfl rfl Tryd.func38 (by kernel_rfl) rfl #[.agg #[.slice A0_0 l0_0.length c0_0, .int .i64 a0_1, .slice A0_2 l0_2.length c0_2]] rfl (by (try simp only [List.map_toArray, List.map_cons, List.map_nil]); first | done | rfl | (simp only [List.length_drop, List.length_take]; rfl)) ?_; (with_reducible refine (luciferref01_Ask.calls kj27 _ _ l0_0 a0_1 _ _ l0_2 t341 t342 _ ?side1 ?side2 ?side3 ?side4 A36.out).mono ?_); (case side1 => exact C_ HR0_0); (case side2 => exact HC0_0.out); (case side3 => exact C_ HR0_2); (case side4 => exact HC0_2.out); rintro e w52 ⟨rfl, hb⟩; refine ⟨_, rfl, ?_⟩; have n0_ := Aside0.mk (blk_below (g := gb321) (o := .cells #[.slice A0_0 l0_0.length c0_0, .int .i64 a0_1, .slice A0_2 l0_2.length c0_2] 25 (0, 0)) (K_ BK321) hb); have n1_ := Aside0.mk (below_step (B_) hb); clear BK321; clear HB; have BK321 := n0_; have HB := n1_; clear n0_ n1_; (try clear hb); (try clear hb2); (try clear hk); (try clear hi)))
                      go_ret
                      exact ⟨by first | rfl | (simp [errW_none, errW_some] <;> rfl) | (simp [*, errW_none, errW_some] <;> rfl), B_⟩

end Go.Proofs.YtigofgdmefobaaaDoor.PP
