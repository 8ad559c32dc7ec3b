-- Printed by a program of this session (the kit's print over contracts of ours for functions that it does not take).
import Derived.Test.YtigofgdmefobaaaDoorGiven
import Derived.Test.YtigofgdmefobaaaDoorPPx0
import Derived.Test.YtigofgdmefobaaaDoorPPxf39
import Derived.Test.YtigofgdmefobaaaDoorPPxf40
import Derived.Test.YtigofgdmefobaaaDoorPPxf41
import Derived.Test.YtigofgdmefobaaaDoorPPxf46
import Derived.Test.YtigofgdmefobaaaDoorPPxf47
import Derived.Test.YtigofgdmefobaaaDoorPPxf49
namespace Go.Proofs.YtigofgdmefobaaaDoor.PP
open Go.RowKit Go.Proofs.YtigofgdmefobaaaDoorW.PrintWords Go.Proofs.YtigofgdmefobaaaDoorW.PrintLast Go.Proofs.YtigofgdmefobaaaDoorW.PrintMore
attribute [local go_sem] max2_int min2_int max_two min_two max_three min_three max_four min_four   -- for this text's walks alone
set_option linter.unusedVariables false
set_option linter.unusedSimpArgs false

/-! ### luciferlaw01_PeelKnotty: function 8 -/
mutual
def luciferlaw01_PeelKnotty.j0 : Nat → Int → Int → Bool → List Int → Int → List (S61) → Option (Bool)
  | 0, _, _, _, _, _, _ => none
  | k + 1, x7, x8, x65, x102000, x102001, x102002 => if x65 = true then (some false) else (if (wrap64 (x8 + x102001)) > x7 then ((luciferlaw01_peeled.f).bind fun t122 => (some t122)) else (luciferlaw01_PeelKnotty.l0 k x8 true x8 x102000 x102001 x102002))
def luciferlaw01_PeelKnotty.l0 : Nat → Int → Bool → Int → List Int → Int → List (S61) → Option (Bool)
  | 0, _, _, _, _, _, _ => none
  | k + 1, x8, x12, x13, x102000, x102001, x102002 => if x13 < (wrap64 (x8 + x102001)) then ((peel_Knotty.f x102000 x102001 x102002 x13).bind fun bt123 => (if bt123.2 = 0 then (if x12 = true then (luciferlaw01_PeelKnotty.l0 k x8 (bt123.1 == 0) (wrap64 (x13 + 1)) x102000 x102001 x102002) else (luciferlaw01_PeelKnotty.l0 k x8 false (wrap64 (x13 + 1)) x102000 x102001 x102002)) else (some false))) else ((peel_Sure.f x102000 x102001 x102002 (([x8] : List Int))).bind fun bt128 => (if bt128.2 = 0 then (if ((bt128.1 == 1) == x12) = true then ((luciferref00_Fits.f bt128.1 0 1).bind fun t130 => (if t130 = true then ((luciferlaw01_peeled.f).bind fun t131 => (some t131)) else (some false))) else (some false)) else (some false)))
end
def luciferlaw01_PeelKnotty.f (k : Nat) (l0_0 : List Int) (a0_1 : Int) (l0_2 : List (S61)) (a1 : Int) (l2 : List Int) : Option (Bool) := (luciferlaw01_sound.f k l0_0 a0_1 l0_2).bind fun t102 => (if t102 = true then ((luciferref00_Total.f k l0_0).bind fun t104 => ((luciferref00_Spin.f a1 t104).bind fun t105 => ((luciferlaw01_truly.f k l0_0 a0_1 l0_2 l2).bind fun bt106 => ((luciferlaw01_knots.f k bt106.1 bt106.2.1 bt106.2.2).bind fun t113 => ((peel_Knotty.f l0_0 a0_1 l0_2 t105).bind fun bt116 => (if bt116.2 = 0 then ((luciferref00_Fits.f bt116.1 0 2).bind fun t118 => (if t118 = true then (if bt116.1 = 0 then (if 0 ≤ t105 then (if t105 < (t113.length : Int) then (if rdOf false t113 t105 = true then (luciferlaw01_PeelKnotty.j0 k t104 t105 true l0_0 a0_1 l0_2) else (if bt116.1 = 2 then (luciferlaw01_PeelKnotty.j0 k t104 t105 (!(rdOf false t113 t105)) l0_0 a0_1 l0_2) else (luciferlaw01_PeelKnotty.j0 k t104 t105 false l0_0 a0_1 l0_2))) else (none)) else (none)) else (if bt116.1 = 2 then (if 0 ≤ t105 then (if t105 < (t113.length : Int) then (luciferlaw01_PeelKnotty.j0 k t104 t105 (!(rdOf false t113 t105)) l0_0 a0_1 l0_2) else (none)) else (none)) else (luciferlaw01_PeelKnotty.j0 k t104 t105 false l0_0 a0_1 l0_2))) else (luciferlaw01_PeelKnotty.j0 k t104 t105 true l0_0 a0_1 l0_2))) else (luciferlaw01_PeelKnotty.j0 k t104 t105 true l0_0 a0_1 l0_2))))))) else ((luciferlaw01_peeled.f).bind fun t103 => (some t103)))
theorem luciferlaw01_PeelKnotty.mono_l : ∀ k, (∀ y0 y1 y2 y3 y4 y5, LeO (luciferlaw01_PeelKnotty.j0 k y0 y1 y2 y3 y4 y5) (luciferlaw01_PeelKnotty.j0 (k + 1) y0 y1 y2 y3 y4 y5)) ∧ (∀ y0 y1 y2 y3 y4 y5, LeO (luciferlaw01_PeelKnotty.l0 k y0 y1 y2 y3 y4 y5) (luciferlaw01_PeelKnotty.l0 (k + 1) y0 y1 y2 y3 y4 y5))
  | 0 => ⟨fun _ _ _ _ _ _ r h => by simp [luciferlaw01_PeelKnotty.j0] at h, fun _ _ _ _ _ _ r h => by simp [luciferlaw01_PeelKnotty.l0] at h⟩
  | k + 1 => by
    obtain ⟨ih0, ih1⟩ := luciferlaw01_PeelKnotty.mono_l k
    refine ⟨?_, ?_⟩
    · intro y0 y1 y2 y3 y4 y5
      unfold luciferlaw01_PeelKnotty.j0
      repeat' first
      | (with_reducible exact ih0 _ _ _ _ _ _)
      | (with_reducible exact ih1 _ _ _ _ _ _)
      | (with_reducible exact luciferlaw01_knots.mono _ _ _ _)
      | (with_reducible exact luciferlaw01_sound.mono _ _ _ _)
      | (with_reducible exact luciferlaw01_truly.mono _ _ _ _ _)
      | (with_reducible exact luciferref00_Total.mono _ _)
      | (with_reducible exact LeO.refl _)
      | (with_reducible exact LeO.none _)
      | (with_reducible refine LeO.ite ?_ ?_)
      | (with_reducible refine LeO.bind ?_ (fun _ => ?_))
      | exact ih0 _ _ _ _ _ _
      | exact ih1 _ _ _ _ _ _
      | exact luciferlaw01_knots.mono _ _ _ _
      | exact luciferlaw01_sound.mono _ _ _ _
      | exact luciferlaw01_truly.mono _ _ _ _ _
      | exact luciferref00_Total.mono _ _
      | exact LeO.none _
      | refine LeO.ite ?_ ?_
      | refine LeO.bind ?_ (fun _ => ?_)
    · intro y0 y1 y2 y3 y4 y5
      unfold luciferlaw01_PeelKnotty.l0
      repeat' first
      | (with_reducible exact ih0 _ _ _ _ _ _)
      | (with_reducible exact ih1 _ _ _ _ _ _)
      | (with_reducible exact luciferlaw01_knots.mono _ _ _ _)
      | (with_reducible exact luciferlaw01_sound.mono _ _ _ _)
      | (with_reducible exact luciferlaw01_truly.mono _ _ _ _ _)
      | (with_reducible exact luciferref00_Total.mono _ _)
      | (with_reducible exact LeO.refl _)
      | (with_reducible exact LeO.none _)
      | (with_reducible refine LeO.ite ?_ ?_)
      | (with_reducible refine LeO.bind ?_ (fun _ => ?_))
      | exact ih0 _ _ _ _ _ _
      | exact ih1 _ _ _ _ _ _
      | exact luciferlaw01_knots.mono _ _ _ _
      | exact luciferlaw01_sound.mono _ _ _ _
      | exact luciferlaw01_truly.mono _ _ _ _ _
      | exact luciferref00_Total.mono _ _
      | exact LeO.none _
      | refine LeO.ite ?_ ?_
      | refine LeO.bind ?_ (fun _ => ?_)
theorem luciferlaw01_PeelKnotty.mono : ∀ a0 a1 a2 a3 a4 k, LeO (luciferlaw01_PeelKnotty.f k a0 a1 a2 a3 a4) (luciferlaw01_PeelKnotty.f (k + 1) a0 a1 a2 a3 a4) := by
  intro a0 a1 a2 a3 a4 k
  obtain ⟨ih0, ih1⟩ := luciferlaw01_PeelKnotty.mono_l k
  unfold luciferlaw01_PeelKnotty.f
  repeat' first
      | (with_reducible exact ih0 _ _ _ _ _ _)
      | (with_reducible exact ih1 _ _ _ _ _ _)
      | (with_reducible exact luciferlaw01_knots.mono _ _ _ _)
      | (with_reducible exact luciferlaw01_sound.mono _ _ _ _)
      | (with_reducible exact luciferlaw01_truly.mono _ _ _ _ _)
      | (with_reducible exact luciferref00_Total.mono _ _)
      | (with_reducible exact LeO.refl _)
      | (with_reducible exact LeO.none _)
      | (with_reducible refine LeO.ite ?_ ?_)
      | (with_reducible refine LeO.bind ?_ (fun _ => ?_))
      | exact ih0 _ _ _ _ _ _
      | exact ih1 _ _ _ _ _ _
      | exact luciferlaw01_knots.mono _ _ _ _
      | exact luciferlaw01_sound.mono _ _ _ _
      | exact luciferlaw01_truly.mono _ _ _ _ _
      | exact luciferref00_Total.mono _ _
      | exact LeO.none _
      | refine LeO.ite ?_ ?_
      | refine LeO.bind ?_ (fun _ => ?_)
set_option maxHeartbeats 8000000 in
set_option maxRecDepth 100000 in
theorem luciferlaw01_PeelKnotty.calls (k : Nat) (A0_0 : Option Addr) (c0_0 : Nat) (l0_0 : List Int) (a0_1 : Int) (A0_2 : Option Addr) (c0_2 : Nat) (l0_2 : List (S61)) (a1 : Int) (A2 : Option Addr) (c2 : Nat) (l2 : List Int) (r : Bool) (w : World) (hr0_0 : Kd.C (Kd.int .i64) w A0_0 l0_0.length l0_0) (hc0_0 : l0_0.length ≤ c0_0) (hr0_2 : Kd.C k61 w A0_2 l0_2.length l0_2) (hc0_2 : l0_2.length ≤ c0_2) (hr2 : Kd.C (Kd.int .i64) w A2 l2.length l2) (hc2 : l2.length ≤ c2) (hE : Go.Proofs.YtigofgdmefobaaaDoor.Peel.EndsAt w) (hT : r = true) (h : luciferlaw01_PeelKnotty.f k l0_0 a0_1 l0_2 a1 l2 = some r) :
    Calls Tryd.prog 8 #[.agg #[.slice A0_0 l0_0.length c0_0, .int .i64 a0_1, .slice A0_2 l0_2.length c0_2], .int .i64 a1, .slice A2 l2.length c2] w fun e w' => e = .returned (.bool r) ∧ Below w.heap.size w w' := by
  have hu25 := Tryd.underlying25
  have HE := Aside0.mk hE
  clear hE
  have HR0_0 := Aside0.mk hr0_0
  have HC0_0 := Aside0.mk hc0_0
  clear hr0_0 hc0_0
  have HR0_2 := Aside0.mk hr0_2
  have HC0_2 := Aside0.mk hc0_2
  clear hr0_2 hc0_2
  have HR2 := Aside0.mk hr2
  have HC2 := Aside0.mk hc2
  clear hr2 hc2
  have HB := Aside0.mk (Below.refl w.heap.size w)
  have H : ((luciferlaw01_sound.f k l0_0 a0_1 l0_2).bind fun t102 => (if t102 = true then ((luciferref00_Total.f k l0_0).bind fun t104 => ((luciferref00_Spin.f a1 t104).bind fun t105 => ((luciferlaw01_truly.f k l0_0 a0_1 l0_2 l2).bind fun bt106 => ((luciferlaw01_knots.f k bt106.1 bt106.2.1 bt106.2.2).bind fun t113 => ((peel_Knotty.f l0_0 a0_1 l0_2 t105).bind fun bt116 => (if bt116.2 = 0 then ((luciferref00_Fits.f bt116.1 0 2).bind fun t118 => (if t118 = true then (if bt116.1 = 0 then (if 0 ≤ t105 then (if t105 < (t113.length : Int) then (if rdOf false t113 t105 = true then (luciferlaw01_PeelKnotty.j0 k t104 t105 true l0_0 a0_1 l0_2) else (if bt116.1 = 2 then (luciferlaw01_PeelKnotty.j0 k t104 t105 (!(rdOf false t113 t105)) l0_0 a0_1 l0_2) else (luciferlaw01_PeelKnotty.j0 k t104 t105 false l0_0 a0_1 l0_2))) else (none)) else (none)) else (if bt116.1 = 2 then (if 0 ≤ t105 then (if t105 < (t113.length : Int) then (luciferlaw01_PeelKnotty.j0 k t104 t105 (!(rdOf false t113 t105)) l0_0 a0_1 l0_2) else (none)) else (none)) else (luciferlaw01_PeelKnotty.j0 k t104 t105 false l0_0 a0_1 l0_2))) else (luciferlaw01_PeelKnotty.j0 k t104 t105 true l0_0 a0_1 l0_2))) else (luciferlaw01_PeelKnotty.j0 k t104 t105 true l0_0 a0_1 l0_2))))))) else ((luciferlaw01_peeled.f).bind fun t103 => (some t103)))) = some r := h
  clear h
  replace H := Option.bind_eq_some_iff.mp H
  obtain ⟨t102, A40, H⟩ := H
  replace H : (if t102 = true then ((luciferref00_Total.f k l0_0).bind fun t104 => ((luciferref00_Spin.f a1 t104).bind fun t105 => ((luciferlaw01_truly.f k l0_0 a0_1 l0_2 l2).bind fun bt106 => ((luciferlaw01_knots.f k bt106.1 bt106.2.1 bt106.2.2).bind fun t113 => ((peel_Knotty.f l0_0 a0_1 l0_2 t105).bind fun bt116 => (if bt116.2 = 0 then ((luciferref00_Fits.f bt116.1 0 2).bind fun t118 => (if t118 = true then (if bt116.1 = 0 then (if 0 ≤ t105 then (if t105 < (t113.length : Int) then (if rdOf false t113 t105 = true then (luciferlaw01_PeelKnotty.j0 k t104 t105 true l0_0 a0_1 l0_2) else (if bt116.1 = 2 then (luciferlaw01_PeelKnotty.j0 k t104 t105 (!(rdOf false t113 t105)) l0_0 a0_1 l0_2) else (luciferlaw01_PeelKnotty.j0 k t104 t105 false l0_0 a0_1 l0_2))) else (none)) else (none)) else (if bt116.1 = 2 then (if 0 ≤ t105 then (if t105 < (t113.length : Int) then (luciferlaw01_PeelKnotty.j0 k t104 t105 (!(rdOf false t113 t105)) l0_0 a0_1 l0_2) else (none)) else (none)) else (luciferlaw01_PeelKnotty.j0 k t104 t105 false l0_0 a0_1 l0_2))) else (luciferlaw01_PeelKnotty.j0 k t104 t105 true l0_0 a0_1 l0_2))) else (luciferlaw01_PeelKnotty.j0 k t104 t105 true l0_0 a0_1 l0_2))))))) else ((luciferlaw01_peeled.f).bind fun t103 => (some t103))) = some r := H
  have A4 := Aside0.mk A40
  clear A40
  by_cases c5 : t102 = true
  · subst c5
    have H1 : ((luciferref00_Total.f k l0_0).bind fun t104 => ((luciferref00_Spin.f a1 t104).bind fun t105 => ((luciferlaw01_truly.f k l0_0 a0_1 l0_2 l2).bind fun bt106 => ((luciferlaw01_knots.f k bt106.1 bt106.2.1 bt106.2.2).bind fun t113 => ((peel_Knotty.f l0_0 a0_1 l0_2 t105).bind fun bt116 => (if bt116.2 = 0 then ((luciferref00_Fits.f bt116.1 0 2).bind fun t118 => (if t118 = true then (if bt116.1 = 0 then (if 0 ≤ t105 then (if t105 < (t113.length : Int) then (if rdOf false t113 t105 = true then (luciferlaw01_PeelKnotty.j0 k t104 t105 true l0_0 a0_1 l0_2) else (if bt116.1 = 2 then (luciferlaw01_PeelKnotty.j0 k t104 t105 (!(rdOf false t113 t105)) l0_0 a0_1 l0_2) else (luciferlaw01_PeelKnotty.j0 k t104 t105 false l0_0 a0_1 l0_2))) else (none)) else (none)) else (if bt116.1 = 2 then (if 0 ≤ t105 then (if t105 < (t113.length : Int) then (luciferlaw01_PeelKnotty.j0 k t104 t105 (!(rdOf false t113 t105)) l0_0 a0_1 l0_2) else (none)) else (none)) else (luciferlaw01_PeelKnotty.j0 k t104 t105 false l0_0 a0_1 l0_2))) else (luciferlaw01_PeelKnotty.j0 k t104 t105 true l0_0 a0_1 l0_2))) else (luciferlaw01_PeelKnotty.j0 k t104 t105 true l0_0 a0_1 l0_2))))))) = some r := by rw [if_pos rfl] at H; exact H
    clear H
    have H := H1
    clear H1
    replace H := Option.bind_eq_some_iff.mp H
    obtain ⟨t104, A60, H⟩ := H
    replace H : ((luciferref00_Spin.f a1 t104).bind fun t105 => ((luciferlaw01_truly.f k l0_0 a0_1 l0_2 l2).bind fun bt106 => ((luciferlaw01_knots.f k bt106.1 bt106.2.1 bt106.2.2).bind fun t113 => ((peel_Knotty.f l0_0 a0_1 l0_2 t105).bind fun bt116 => (if bt116.2 = 0 then ((luciferref00_Fits.f bt116.1 0 2).bind fun t118 => (if t118 = true then (if bt116.1 = 0 then (if 0 ≤ t105 then (if t105 < (t113.length : Int) then (if rdOf false t113 t105 = true then (luciferlaw01_PeelKnotty.j0 k t104 t105 true l0_0 a0_1 l0_2) else (if bt116.1 = 2 then (luciferlaw01_PeelKnotty.j0 k t104 t105 (!(rdOf false t113 t105)) l0_0 a0_1 l0_2) else (luciferlaw01_PeelKnotty.j0 k t104 t105 false l0_0 a0_1 l0_2))) else (none)) else (none)) else (if bt116.1 = 2 then (if 0 ≤ t105 then (if t105 < (t113.length : Int) then (luciferlaw01_PeelKnotty.j0 k t104 t105 (!(rdOf false t113 t105)) l0_0 a0_1 l0_2) else (none)) else (none)) else (luciferlaw01_PeelKnotty.j0 k t104 t105 false l0_0 a0_1 l0_2))) else (luciferlaw01_PeelKnotty.j0 k t104 t105 true l0_0 a0_1 l0_2))) else (luciferlaw01_PeelKnotty.j0 k t104 t105 true l0_0 a0_1 l0_2)))))) = some r := H
    have A6 := Aside0.mk A60
    clear A60
    replace H := Option.bind_eq_some_iff.mp H
    obtain ⟨t105, A70, H⟩ := H
    replace H : ((luciferlaw01_truly.f k l0_0 a0_1 l0_2 l2).bind fun bt106 => ((luciferlaw01_knots.f k bt106.1 bt106.2.1 bt106.2.2).bind fun t113 => ((peel_Knotty.f l0_0 a0_1 l0_2 t105).bind fun bt116 => (if bt116.2 = 0 then ((luciferref00_Fits.f bt116.1 0 2).bind fun t118 => (if t118 = true then (if bt116.1 = 0 then (if 0 ≤ t105 then (if t105 < (t113.length : Int) then (if rdOf false t113 t105 = true then (luciferlaw01_PeelKnotty.j0 k t104 t105 true l0_0 a0_1 l0_2) else (if bt116.1 = 2 then (luciferlaw01_PeelKnotty.j0 k t104 t105 (!(rdOf false t113 t105)) l0_0 a0_1 l0_2) else (luciferlaw01_PeelKnotty.j0 k t104 t105 false l0_0 a0_1 l0_2))) else (none)) else (none)) else (if bt116.1 = 2 then (if 0 ≤ t105 then (if t105 < (t113.length : Int) then (luciferlaw01_PeelKnotty.j0 k t104 t105 (!(rdOf false t113 t105)) l0_0 a0_1 l0_2) else (none)) else (none)) else (luciferlaw01_PeelKnotty.j0 k t104 t105 false l0_0 a0_1 l0_2))) else (luciferlaw01_PeelKnotty.j0 k t104 t105 true l0_0 a0_1 l0_2))) else (luciferlaw01_PeelKnotty.j0 k t104 t105 true l0_0 a0_1 l0_2))))) = some r := H
    have A7 := Aside0.mk A70
    clear A70
    replace H := Option.bind_eq_some_iff.mp H
    obtain ⟨⟨t106, t109, t110⟩, A80, H⟩ := H
    replace H : ((luciferlaw01_knots.f k t106 t109 t110).bind fun t113 => ((peel_Knotty.f l0_0 a0_1 l0_2 t105).bind fun bt116 => (if bt116.2 = 0 then ((luciferref00_Fits.f bt116.1 0 2).bind fun t118 => (if t118 = true then (if bt116.1 = 0 then (if 0 ≤ t105 then (if t105 < (t113.length : Int) then (if rdOf false t113 t105 = true then (luciferlaw01_PeelKnotty.j0 k t104 t105 true l0_0 a0_1 l0_2) else (if bt116.1 = 2 then (luciferlaw01_PeelKnotty.j0 k t104 t105 (!(rdOf false t113 t105)) l0_0 a0_1 l0_2) else (luciferlaw01_PeelKnotty.j0 k t104 t105 false l0_0 a0_1 l0_2))) else (none)) else (none)) else (if bt116.1 = 2 then (if 0 ≤ t105 then (if t105 < (t113.length : Int) then (luciferlaw01_PeelKnotty.j0 k t104 t105 (!(rdOf false t113 t105)) l0_0 a0_1 l0_2) else (none)) else (none)) else (luciferlaw01_PeelKnotty.j0 k t104 t105 false l0_0 a0_1 l0_2))) else (luciferlaw01_PeelKnotty.j0 k t104 t105 true l0_0 a0_1 l0_2))) else (luciferlaw01_PeelKnotty.j0 k t104 t105 true l0_0 a0_1 l0_2)))) = some r := H
    have A8 := Aside0.mk A80
    clear A80
    replace H := Option.bind_eq_some_iff.mp H
    obtain ⟨t113, A90, H⟩ := H
    replace H : ((peel_Knotty.f l0_0 a0_1 l0_2 t105).bind fun bt116 => (if bt116.2 = 0 then ((luciferref00_Fits.f bt116.1 0 2).bind fun t118 => (if t118 = true then (if bt116.1 = 0 then (if 0 ≤ t105 then (if t105 < (t113.length : Int) then (if rdOf false t113 t105 = true then (luciferlaw01_PeelKnotty.j0 k t104 t105 true l0_0 a0_1 l0_2) else (if bt116.1 = 2 then (luciferlaw01_PeelKnotty.j0 k t104 t105 (!(rdOf false t113 t105)) l0_0 a0_1 l0_2) else (luciferlaw01_PeelKnotty.j0 k t104 t105 false l0_0 a0_1 l0_2))) else (none)) else (none)) else (if bt116.1 = 2 then (if 0 ≤ t105 then (if t105 < (t113.length : Int) then (luciferlaw01_PeelKnotty.j0 k t104 t105 (!(rdOf false t113 t105)) l0_0 a0_1 l0_2) else (none)) else (none)) else (luciferlaw01_PeelKnotty.j0 k t104 t105 false l0_0 a0_1 l0_2))) else (luciferlaw01_PeelKnotty.j0 k t104 t105 true l0_0 a0_1 l0_2))) else (luciferlaw01_PeelKnotty.j0 k t104 t105 true l0_0 a0_1 l0_2))) = some r := H
    have A9 := Aside0.mk A90
    clear A90
    replace H := Option.bind_eq_some_iff.mp H
    obtain ⟨⟨t116, t117⟩, A100, H⟩ := H
    replace H : (if t117 = 0 then ((luciferref00_Fits.f t116 0 2).bind fun t118 => (if t118 = true then (if t116 = 0 then (if 0 ≤ t105 then (if t105 < (t113.length : Int) then (if rdOf false t113 t105 = true then (luciferlaw01_PeelKnotty.j0 k t104 t105 true l0_0 a0_1 l0_2) else (if t116 = 2 then (luciferlaw01_PeelKnotty.j0 k t104 t105 (!(rdOf false t113 t105)) l0_0 a0_1 l0_2) else (luciferlaw01_PeelKnotty.j0 k t104 t105 false l0_0 a0_1 l0_2))) else (none)) else (none)) else (if t116 = 2 then (if 0 ≤ t105 then (if t105 < (t113.length : Int) then (luciferlaw01_PeelKnotty.j0 k t104 t105 (!(rdOf false t113 t105)) l0_0 a0_1 l0_2) else (none)) else (none)) else (luciferlaw01_PeelKnotty.j0 k t104 t105 false l0_0 a0_1 l0_2))) else (luciferlaw01_PeelKnotty.j0 k t104 t105 true l0_0 a0_1 l0_2))) else (luciferlaw01_PeelKnotty.j0 k t104 t105 true l0_0 a0_1 l0_2)) = some r := H
    have A10 := Aside0.mk A100
    clear A100
    have HC11 := Aside0.mk H
    clear H
    go_enter Tryd.func8, Tryd.ntmps8
    go_upto_region 7 with (first | ((with_reducible refine gate_dst (N := 3) rfl ?_); refine box_event ?hg (N := 3) ?hd (cs := #[.slice A0_0 l0_0.length c0_0, .int .i64 a0_1, .slice A0_2 l0_2.length c0_2]) (t := 25) ?hr ?_; (case hd => rfl); (case hg => rfl); (case hr => first | (go_simp; done) | (go_simp; rfl)); intro gb101 hg w12 hbox hb; have n0_ := Aside0.mk (below_step (B_) hb); have n1_ := Aside0.mk (hbox); have n2_ := Aside0.mk ((by rw [hg]; exact (below_size (B_)) : w.heap.size ≤ gb101)); have n3_ := Aside0.mk ((by rw [hg]; exact (below_size (B_)) : w.heap.size ≤ gb101)); clear HB; have HB := n0_; have BK101 := n1_; have GW101 := n2_; have GE101 := n3_; clear n0_ n1_ n2_ n3_; clear hb hbox hg; obtain ⟨hcz13_0, hcz13_1, hcz13_2, hfz13_0, hfz13_1, hfz13_2⟩ := cz3 BK101) | ((with_reducible refine gate_callee (f := 39) rfl ?_); refine goesL_ (some 19) rfl rfl Tryd.func39 (by kernel_rfl) rfl #[.agg #[.slice A0_0 l0_0.length c0_0, .int .i64 a0_1, .slice A0_2 l0_2.length c0_2]] rfl (by (try simp only [List.map_toArray, List.map_cons, List.map_nil]); first | done | rfl | (simp only [List.length_drop, List.length_take]; rfl)) ?_; (with_reducible refine (luciferlaw01_sound.calls k _ _ l0_0 a0_1 _ _ l0_2 true _ ?side1 ?side2 ?side3 ?side4 A4.out).mono ?_); (case side1 => exact C_ HR0_0); (case side2 => exact HC0_0.out); (case side3 => exact C_ HR0_2); (case side4 => exact HC0_2.out); rintro e w14 ⟨rfl, hb⟩; refine ⟨_, rfl, ?_⟩; have n0_ := Aside0.mk (blk_below (g := gb101) (o := .cells #[.slice A0_0 l0_0.length c0_0, .int .i64 a0_1, .slice A0_2 l0_2.length c0_2] 25 (0, 0)) (K_ BK101) hb); have n1_ := Aside0.mk (below_step (B_) hb); clear BK101; clear HB; have BK101 := n0_; have HB := n1_; clear n0_ n1_; (try clear hb); (try clear hb2); (try clear hk); (try clear hi); obtain ⟨hcz15_0, hcz15_1, hcz15_2, hfz15_0, hfz15_1, hfz15_2⟩ := cz3 BK101) | ((with_reducible refine gate_callee (f := 47) rfl ?_); refine goesL_ (some 24) rfl rfl Tryd.func47 (by kernel_rfl) rfl #[.slice A0_0 l0_0.length c0_0] rfl (by (try simp only [List.map_toArray, List.map_cons, List.map_nil]); first | done | rfl | (simp only [List.length_drop, List.length_take]; rfl)) ?_; (with_reducible refine (luciferref00_Total.calls k _ _ l0_0 t104 _ ?side1 ?side2 A6.out).mono ?_); (case side1 => exact C_ HR0_0); (case side2 => exact HC0_0.out); rintro e w' ⟨rfl, ⟨nd, rfl⟩⟩; refine ⟨_, rfl, ?_⟩) | ((with_reducible refine gate_callee (f := 49) rfl ?_); refine goesL_ (some 27) rfl rfl Tryd.func49 (by kernel_rfl) rfl #[.int .i64 a1, .int .i64 t104] rfl (by (try simp only [List.map_toArray, List.map_cons, List.map_nil]); first | done | rfl | (simp only [List.length_drop, List.length_take]; rfl)) ?_; (with_reducible refine (luciferref00_Spin.calls a1 t104 t105 _ A7.out).mono ?_); rintro e w' ⟨rfl, ⟨nd, rfl⟩⟩; refine ⟨_, rfl, ?_⟩) | ((with_reducible refine gate_callee (f := 41) rfl ?_); refine goesL_ (some 30) rfl rfl Tryd.func41 (by kernel_rfl) rfl #[.agg #[.slice A0_0 l0_0.length c0_0, .int .i64 a0_1, .slice A0_2 l0_2.length c0_2], .slice A2 l2.length c2] rfl (by (try simp only [List.map_toArray, List.map_cons, List.map_nil]); first | done | rfl | (simp only [List.length_drop, List.length_take]; rfl)) ?_; (with_reducible refine (luciferlaw01_truly.calls k (fun k_ => k_ < w.heap.size) _ _ l0_0 a0_1 _ _ l0_2 _ _ l2 t106 t109 t110 _ ?side1 ?side2 ?side3 ?side4 ?side5 A8.out).mono ?_); (case side1 => exact Kd.V_mk HC0_0.out (Kd.F_below (Kd.C_F (Kd.heap_int .i64) HR0_0.out) (B_))); (case side2 => repeat (first | exact (Kd.C_below HR0_2.out (B_)) | (with_reducible refine Kd.C_alloc ?_ _) | (with_reducible refine Kd.C_drewN ?_ _) | (with_reducible refine Kd.C_drew ?_))); (case side3 => exact HC0_2.out); (case side4 => repeat (first | exact (Kd.C_below HR2.out (B_)) | (with_reducible refine Kd.C_alloc ?_ _) | (with_reducible refine Kd.C_drewN ?_ _) | (with_reducible refine Kd.C_drew ?_))); (case side5 => exact HC2.out); rintro e w16 ⟨v107, v111, rfl, ho0, ho1, hb⟩; refine ⟨_, rfl, ?_⟩; have n0_ := Aside0.mk (Kd.V_lower (Kd.V_mono (ok' := fun k_ => some k_ ≠ (v111 : Value).ownBlock ∧ k_ ≠ gb101) ho0 (fun k_ hk_ => ⟨hk_.2, Or.elim hk_.1 (fun hs_ => fun e_ => Nat.not_le.2 hs_ (by rw [e_]; exact GW101.out)) (fun hn_ => (Kd.freshB (g := gb101) (o := .cells #[.slice A0_0 l0_0.length c0_0, .int .i64 a0_1, .slice A0_2 l0_2.length c0_2] 25 (0, 0)) (K_ BK101) k_ hn_))⟩)) (below_size (B_))); have n1_ := Aside0.mk (Kd.R_lower (Kd.R_mono (ok' := fun k_ => True) ho1 (fun _ hk_ => trivial)) (below_size (B_))); have n2_ := Aside0.mk (blk_below (g := gb101) (o := .cells #[.slice A0_0 l0_0.length c0_0, .int .i64 a0_1, .slice A0_2 l0_2.length c0_2] 25 (0, 0)) (K_ BK101) hb); have n3_ := Aside0.mk (below_step (B_) hb); clear BK101; clear HB; have HO108 := n0_; have HO112 := n1_; have BK101 := n2_; have HB := n3_; clear n0_ n1_ n2_ n3_; (try clear hb); (try clear hb2); (try clear hk); (try clear hi); (try clear ho0); (try clear ho1); obtain ⟨Ao17, co17, eo17⟩ := Kd.V_slice HO108.out; subst eo17; obtain ⟨Ao18, co18, eo18⟩ := Kd.R_slice HO112.out; subst eo18) | ((with_reducible refine gate_callee (f := 40) rfl ?_); refine goesL_ (some 31) rfl rfl Tryd.func40 (by kernel_rfl) rfl #[.agg #[.slice Ao17 t106.length co17, .int .i64 t109, .slice Ao18 t110.length co18]] rfl (by (try simp only [List.map_toArray, List.map_cons, List.map_nil]); first | done | rfl | (simp only [List.length_drop, List.length_take]; rfl)) ?_; (with_reducible refine (luciferlaw01_knots.calls k _ _ t106 t109 _ _ t110 t113 _ ?side1 ?side2 ?side3 ?side4 A9.out).mono ?_); (case side1 => repeat (first | exact (Kd.V_reads' HO108.out).2.2 | (with_reducible refine Kd.C_alloc ?_ _) | (with_reducible refine Kd.C_drewN ?_ _) | (with_reducible refine Kd.C_drew ?_))); (case side2 => exact (Kd.V_reads' HO108.out).2.1); (case side3 => repeat (first | exact (Kd.R_reads' HO112.out).2.2 | (with_reducible refine Kd.C_alloc ?_ _) | (with_reducible refine Kd.C_drewN ?_ _) | (with_reducible refine Kd.C_drew ?_))); (case side4 => exact (Kd.R_reads' HO112.out).2.1); rintro e w19 ⟨v114, rfl, ho0, hb⟩; refine ⟨_, rfl, ?_⟩; have n0_ := Aside0.mk (Kd.V_elder' (by (with_reducible repeat (first | apply Kd.V_alloc | apply Kd.V_drewN | apply Kd.V_drew)); exact HO108.out) (Kd.R_base ho0) hb); have n1_ := Aside0.mk (Kd.R_below (R_ HO112) hb); have n2_ := Aside0.mk (Kd.R_lower ho0 (below_size (B_))); have n3_ := Aside0.mk (blk_below (g := gb101) (o := .cells #[.slice A0_0 l0_0.length c0_0, .int .i64 a0_1, .slice A0_2 l0_2.length c0_2] 25 (0, 0)) (K_ BK101) hb); have n4_ := Aside0.mk (below_step (B_) hb); clear HO108; clear HO112; clear BK101; clear HB; have HO108 := n0_; have HO112 := n1_; have HO115 := n2_; have BK101 := n3_; have HB := n4_; clear n0_ n1_ n2_ n3_ n4_; (try clear hb); (try clear hb2); (try clear hk); (try clear hi); (try clear ho0); obtain ⟨hcz20_0, hcz20_1, hcz20_2, hfz20_0, hfz20_1, hfz20_2⟩ := cz3 BK101) | ((with_reducible refine gate_callee (f := 21) rfl ?_); refine goesL_ (some 35) rfl rfl Tryd.func21 (by kernel_rfl) rfl #[.agg #[.slice A0_0 l0_0.length c0_0, .int .i64 a0_1, .slice A0_2 l0_2.length c0_2], .int .i64 t105] rfl (by (try simp only [List.map_toArray, List.map_cons, List.map_nil]); first | done | rfl | (simp only [List.length_drop, List.length_take]; rfl)) ?_; (with_reducible refine (peel_Knotty.calls _ _ l0_0 a0_1 _ _ l0_2 t105 t116 t117 _ ?side1 ?side2 ?side3 ?side4 ?side5 A10.out).mono ?_); (case side1 => exact C_ HR0_0); (case side2 => exact HC0_0.out); (case side3 => exact C_ HR0_2); (case side4 => exact HC0_2.out); (case side5 => exact Go.Proofs.YtigofgdmefobaaaDoor.Peel.EndsAt.below HE.out (B_)); rintro e w21 ⟨rfl, hb⟩; refine ⟨_, rfl, ?_⟩; have n0_ := Aside0.mk (Kd.V_below (by (with_reducible repeat (first | apply Kd.V_alloc | apply Kd.V_drewN | apply Kd.V_drew)); exact HO108.out) hb); have n1_ := Aside0.mk (Kd.R_below (R_ HO112) hb); have n2_ := Aside0.mk (Kd.R_below (R_ HO115) hb); have n3_ := Aside0.mk (blk_below (g := gb101) (o := .cells #[.slice A0_0 l0_0.length c0_0, .int .i64 a0_1, .slice A0_2 l0_2.length c0_2] 25 (0, 0)) (K_ BK101) hb); have n4_ := Aside0.mk (below_step (B_) hb); clear HO108; clear HO112; clear HO115; clear BK101; clear HB; have HO108 := n0_; have HO112 := n1_; have HO115 := n2_; have BK101 := n3_; have HB := n4_; clear n0_ n1_ n2_ n3_ n4_; (try clear hb); (try clear hb2); (try clear hk); (try clear hi)))
    (try simp only [Act.put, List.setIfInBounds_toArray, List.set_cons_zero, List.set_cons_succ])
    go_cut [65] (fun v65 wc => ∃ (kq : Nat) (x65_10 : Bool), v65 = .bool x65_10 ∧ Aside0 (luciferlaw01_PeelKnotty.j0 kq t104 t105 x65_10 l0_0 a0_1 l0_2 = some r) ∧ Aside0 (kq ≤ k) ∧ Aside0 (wc.heap[gb101]? = some (.cells #[(.slice A0_0 l0_0.length c0_0), .int .i64 a0_1, (.slice A0_2 l0_2.length c0_2)] 25 (0, 0))) ∧ Aside0 (Below w.heap.size w wc))
    case first =>
      have H := HC11.out
      clear HC11
      by_cases c22 : t117 = 0
      · rw [if_pos c22] at H
        have c22b0 : (t117 == 0) = true := beq_iff_eq.mpr c22
        have c22b1 : (t117 != 0) = false := bne_eq_false_iff_eq.mpr c22
        clear c22
        (first | rw [c22b0] | (simp only [i64_w, i32_w]; rw [c22b0]) | skip)
        replace H := Option.bind_eq_some_iff.mp H
        obtain ⟨t118, A230, H⟩ := H
        replace H : (if t118 = true then (if t116 = 0 then (if 0 ≤ t105 then (if t105 < (t113.length : Int) then (if rdOf false t113 t105 = true then (luciferlaw01_PeelKnotty.j0 k t104 t105 true l0_0 a0_1 l0_2) else (if t116 = 2 then (luciferlaw01_PeelKnotty.j0 k t104 t105 (!(rdOf false t113 t105)) l0_0 a0_1 l0_2) else (luciferlaw01_PeelKnotty.j0 k t104 t105 false l0_0 a0_1 l0_2))) else (none)) else (none)) else (if t116 = 2 then (if 0 ≤ t105 then (if t105 < (t113.length : Int) then (luciferlaw01_PeelKnotty.j0 k t104 t105 (!(rdOf false t113 t105)) l0_0 a0_1 l0_2) else (none)) else (none)) else (luciferlaw01_PeelKnotty.j0 k t104 t105 false l0_0 a0_1 l0_2))) else (luciferlaw01_PeelKnotty.j0 k t104 t105 true l0_0 a0_1 l0_2)) = some r := H
        have A23 := Aside0.mk A230
        clear A230
        by_cases c24 : t118 = true
        · subst c24
          have H1 : (if t116 = 0 then (if 0 ≤ t105 then (if t105 < (t113.length : Int) then (if rdOf false t113 t105 = true then (luciferlaw01_PeelKnotty.j0 k t104 t105 true l0_0 a0_1 l0_2) else (if t116 = 2 then (luciferlaw01_PeelKnotty.j0 k t104 t105 (!(rdOf false t113 t105)) l0_0 a0_1 l0_2) else (luciferlaw01_PeelKnotty.j0 k t104 t105 false l0_0 a0_1 l0_2))) else (none)) else (none)) else (if t116 = 2 then (if 0 ≤ t105 then (if t105 < (t113.length : Int) then (luciferlaw01_PeelKnotty.j0 k t104 t105 (!(rdOf false t113 t105)) l0_0 a0_1 l0_2) else (none)) else (none)) else (luciferlaw01_PeelKnotty.j0 k t104 t105 false l0_0 a0_1 l0_2))) = some r := by rw [if_pos rfl] at H; exact H
          clear H
          have H := H1
          clear H1
          by_cases c25 : t116 = 0
          · rw [if_pos c25] at H
            have c25b0 : (t116 == 0) = true := beq_iff_eq.mpr c25
            have c25b1 : (t116 != 0) = false := bne_eq_false_iff_eq.mpr c25
            clear c25
            by_cases c26 : 0 ≤ t105
            · rw [if_pos c26] at H
              have c26b0 : decide (0 ≤ t105) = true := decide_eq_true c26
              clear c26
              by_cases c27 : t105 < (t113.length : Int)
              · rw [if_pos c27] at H
                have c27b0 : decide (t105 < (t113.length : Int)) = true := decide_eq_true c27
                clear c27
                obtain ⟨bq28, hbq28⟩ : ∃ b_ : Bool, b_ = (rdOf false t113 t105) := ⟨_, rfl⟩
                replace H : (if bq28 = true then (luciferlaw01_PeelKnotty.j0 k t104 t105 true l0_0 a0_1 l0_2) else (if t116 = 2 then (luciferlaw01_PeelKnotty.j0 k t104 t105 (!(bq28)) l0_0 a0_1 l0_2) else (luciferlaw01_PeelKnotty.j0 k t104 t105 false l0_0 a0_1 l0_2))) = some r := by rw [← hbq28] at H; exact H
                have Nbq28 := Aside0.mk hbq28
                clear hbq28
                by_cases c29 : bq28 = true
                · subst c29
                  have H1 : (luciferlaw01_PeelKnotty.j0 k t104 t105 true l0_0 a0_1 l0_2) = some r := by rw [if_pos rfl] at H; exact H
                  clear H
                  have H := H1
                  clear H1
                  have H' := Aside0.mk H
                  clear H
                  go_wp2_with (first | (go_at_call 46; (with_reducible refine (luciferref00_Fits.calls t116 0 2 true _ A23.out).mono ?_); rintro e w' ⟨rfl, ⟨nd, rfl⟩⟩; obtain ⟨Ao30, co30, eo30⟩ := Kd.R_slice HO115.out; subst eo30; have p119 : 0 ≤ (t105 : Int) := of_decide_eq_true D_; have q119 : t105 < (t113.length : Int) := of_decide_eq_true D_; obtain ⟨ad119, e119, hx119_0⟩ := Kd.at_bool (Kd.R_reads' HO115.out).2.2 t105 p119 q119; (try rw [← Nbq28.out] at hx119_0); cases e119; replace p119 := eq_true p119; replace q119 := eq_true q119))
                  go_meet
                  case rel => exact ⟨_, (true), S_, H', ⟨by first | omega | exact Nat.le_refl _⟩, ⟨K_ BK101⟩, ⟨B_⟩⟩
                · replace c29 := Bool.eq_false_iff.mpr c29
                  subst c29
                  have H1 : (if t116 = 2 then (luciferlaw01_PeelKnotty.j0 k t104 t105 (!(false)) l0_0 a0_1 l0_2) else (luciferlaw01_PeelKnotty.j0 k t104 t105 false l0_0 a0_1 l0_2)) = some r := by rw [if_neg (show ¬ (false = true) by decide)] at H; exact H
                  clear H
                  have H := H1
                  clear H1
                  by_cases c31 : t116 = 2
                  · rw [if_pos c31] at H
                    have c31b0 : (t116 == 2) = true := beq_iff_eq.mpr c31
                    have c31b1 : (t116 != 2) = false := bne_eq_false_iff_eq.mpr c31
                    clear c31
                    have H' := Aside0.mk H
                    clear H
                    go_wp2_with (first | (go_at_call 46; (with_reducible refine (luciferref00_Fits.calls t116 0 2 true _ A23.out).mono ?_); rintro e w' ⟨rfl, ⟨nd, rfl⟩⟩; obtain ⟨Ao32, co32, eo32⟩ := Kd.R_slice HO115.out; subst eo32; have p119 : 0 ≤ (t105 : Int) := of_decide_eq_true D_; have q119 : t105 < (t113.length : Int) := of_decide_eq_true D_; obtain ⟨ad119, e119, hx119_0⟩ := Kd.at_bool (Kd.R_reads' HO115.out).2.2 t105 p119 q119; (try rw [← Nbq28.out] at hx119_0); cases e119; replace p119 := eq_true p119; replace q119 := eq_true q119; have p120 : 0 ≤ (t105 : Int) := of_decide_eq_true D_; have q120 : t105 < (t113.length : Int) := of_decide_eq_true D_; obtain ⟨ad120, e120, hx120_0⟩ := Kd.at_bool (Kd.R_reads' HO115.out).2.2 t105 p120 q120; (try rw [← Nbq28.out] at hx120_0); obtain rfl : ad119 = ad120 := (by injection e120); replace p120 := eq_true p120; replace q120 := eq_true q120))
                    go_meet
                    case rel => exact ⟨_, (!(false)), S_, H', ⟨by first | omega | exact Nat.le_refl _⟩, ⟨K_ BK101⟩, ⟨B_⟩⟩
                  · rw [if_neg c31] at H
                    have c31b0 : (t116 == 2) = false := beq_eq_false_iff_ne.mpr c31
                    have c31b1 : (t116 != 2) = true := bne_iff_ne.mpr c31
                    have H' := Aside0.mk H
                    clear H
                    go_wp2_with (first | (go_at_call 46; (with_reducible refine (luciferref00_Fits.calls t116 0 2 true _ A23.out).mono ?_); rintro e w' ⟨rfl, ⟨nd, rfl⟩⟩; obtain ⟨Ao33, co33, eo33⟩ := Kd.R_slice HO115.out; subst eo33; have p119 : 0 ≤ (t105 : Int) := of_decide_eq_true D_; have q119 : t105 < (t113.length : Int) := of_decide_eq_true D_; obtain ⟨ad119, e119, hx119_0⟩ := Kd.at_bool (Kd.R_reads' HO115.out).2.2 t105 p119 q119; (try rw [← Nbq28.out] at hx119_0); cases e119; replace p119 := eq_true p119; replace q119 := eq_true q119))
                    go_meet
                    case rel => exact ⟨_, (false), S_, H', ⟨by first | omega | exact Nat.le_refl _⟩, ⟨K_ BK101⟩, ⟨B_⟩⟩
              · rw [if_neg c27] at H
                exact absurd H (by simp)
            · rw [if_neg c26] at H
              exact absurd H (by simp)
          · rw [if_neg c25] at H
            have c25b0 : (t116 == 0) = false := beq_eq_false_iff_ne.mpr c25
            have c25b1 : (t116 != 0) = true := bne_iff_ne.mpr c25
            by_cases c34 : t116 = 2
            · rw [if_pos c34] at H
              have c34b0 : (t116 == 2) = true := beq_iff_eq.mpr c34
              have c34b1 : (t116 != 2) = false := bne_eq_false_iff_eq.mpr c34
              clear c34
              by_cases c35 : 0 ≤ t105
              · rw [if_pos c35] at H
                have c35b0 : decide (0 ≤ t105) = true := decide_eq_true c35
                clear c35
                by_cases c36 : t105 < (t113.length : Int)
                · rw [if_pos c36] at H
                  have c36b0 : decide (t105 < (t113.length : Int)) = true := decide_eq_true c36
                  clear c36
                  have H' := Aside0.mk H
                  clear H
                  go_wp2_with (first | (go_at_call 46; (with_reducible refine (luciferref00_Fits.calls t116 0 2 true _ A23.out).mono ?_); rintro e w' ⟨rfl, ⟨nd, rfl⟩⟩; obtain ⟨Ao37, co37, eo37⟩ := Kd.R_slice HO115.out; subst eo37; have p121 : 0 ≤ (t105 : Int) := of_decide_eq_true D_; have q121 : t105 < (t113.length : Int) := of_decide_eq_true D_; obtain ⟨ad121, e121, hx121_0⟩ := Kd.at_bool (Kd.R_reads' HO115.out).2.2 t105 p121 q121; cases e121; replace p121 := eq_true p121; replace q121 := eq_true q121))
                  go_meet
                  case rel => exact ⟨_, (!(rdOf false t113 t105)), S_, H', ⟨by first | omega | exact Nat.le_refl _⟩, ⟨K_ BK101⟩, ⟨B_⟩⟩
                · rw [if_neg c36] at H
                  exact absurd H (by simp)
              · rw [if_neg c35] at H
                exact absurd H (by simp)
            · rw [if_neg c34] at H
              have c34b0 : (t116 == 2) = false := beq_eq_false_iff_ne.mpr c34
              have c34b1 : (t116 != 2) = true := bne_iff_ne.mpr c34
              have H' := Aside0.mk H
              clear H
              go_wp2_with (first | (go_at_call 46; (with_reducible refine (luciferref00_Fits.calls t116 0 2 true _ A23.out).mono ?_); rintro e w' ⟨rfl, ⟨nd, rfl⟩⟩))
              go_meet
              case rel => exact ⟨_, (false), S_, H', ⟨by first | omega | exact Nat.le_refl _⟩, ⟨K_ BK101⟩, ⟨B_⟩⟩
        · replace c24 := Bool.eq_false_iff.mpr c24
          subst c24
          have H1 : (luciferlaw01_PeelKnotty.j0 k t104 t105 true l0_0 a0_1 l0_2) = some r := by rw [if_neg (show ¬ (false = true) by decide)] at H; exact H
          clear H
          have H := H1
          clear H1
          have H' := Aside0.mk H
          clear H
          go_wp2_with (first | (go_at_call 46; (with_reducible refine (luciferref00_Fits.calls t116 0 2 false _ A23.out).mono ?_); rintro e w' ⟨rfl, ⟨nd, rfl⟩⟩))
          go_meet
          case rel => exact ⟨_, (true), S_, H', ⟨by first | omega | exact Nat.le_refl _⟩, ⟨K_ BK101⟩, ⟨B_⟩⟩
      · rw [if_neg c22] at H
        have c22b0 : (t117 == 0) = false := beq_eq_false_iff_ne.mpr c22
        have c22b1 : (t117 != 0) = true := bne_iff_ne.mpr c22
        (first | rw [c22b0] | (simp only [i64_w, i32_w]; rw [c22b0]) | skip)
        have H' := Aside0.mk H
        clear H
        go_wp2
        go_meet
        case rel => exact ⟨_, (true), S_, H', ⟨by first | omega | exact Nat.le_refl _⟩, ⟨K_ BK101⟩, ⟨B_⟩⟩
    case rest =>
      clear HC11
      try clear p1; try clear q1; try clear hx1; try clear c2; try clear p2; try clear q2; try clear c3; try clear c4; try clear c5; try clear c8; try clear p11; try clear q11; try clear hx11; try clear p12; try clear q12; try clear hx12; try clear c21; try clear c22; try clear c22b0; try clear c22b1; try clear c24; try clear c25; try clear c25b0; try clear c25b1; try clear c26; try clear c26b0; try clear c27; try clear c27b0; try clear q28; try clear c29; try clear c31; try clear c31b0; try clear c31b1; try clear c34; try clear c34b0; try clear c34b1; try clear c35; try clear c35b0; try clear c36; try clear c36b0; try clear hcz13_0; try clear hcz13_1; try clear hcz13_2; try clear hcz15_0; try clear hcz15_1; try clear hcz15_2; try clear hcz20_0; try clear hcz20_1; try clear hcz20_2; try clear hfz13_0; try clear hfz13_1; try clear hfz13_2; try clear hfz15_0; try clear hfz15_1; try clear hfz15_2; try clear hfz20_0; try clear hfz20_1; try clear hfz20_2; try clear hx119_0; try clear hx120_0; try clear hx121_0; try clear p119; try clear p120; try clear p121; try clear q119; try clear q120; try clear q121
      obtain ⟨kq, x65_10, rfl, HA, HJ10, BK101, HB⟩ := hcut
      cases kq with
      | zero => exact absurd HA.out (by simp [luciferlaw01_PeelKnotty.j0])
      | succ kj10 =>
        have H := HA.out
        clear HA
        simp only [luciferlaw01_PeelKnotty.j0] at H
        by_cases c38 : x65_10 = true
        · subst c38
          have H1 : (some false) = some r := by rw [if_pos rfl] at H; exact H
          clear H
          have H := H1
          clear H1
          exact absurd (Option.some.inj H) (by rw [hT]; decide)
        · replace c38 := Bool.eq_false_iff.mpr c38
          subst c38
          have H1 : (if (wrap64 (t105 + a0_1)) > t104 then ((luciferlaw01_peeled.f).bind fun t122 => (some t122)) else (luciferlaw01_PeelKnotty.l0 kj10 t105 true t105 l0_0 a0_1 l0_2)) = some r := by rw [if_neg (show ¬ (false = true) by decide)] at H; exact H
          clear H
          have H := H1
          clear H1
          by_cases c39 : (wrap64 (t105 + a0_1)) > t104
          · rw [if_pos c39] at H
            have c39b0 : decide (t104 < (wrap64 (t105 + a0_1))) = true := decide_eq_true c39
            clear c39
            replace H := Option.bind_eq_some_iff.mp H
            obtain ⟨t122, A400, H⟩ := H
            replace H : (some t122) = some r := H
            have A40 := Aside0.mk A400
            clear A400
            obtain rfl := Option.some.inj H
            obtain ⟨hcz41_0, hcz41_1, hcz41_2, hfz41_0, hfz41_1, hfz41_2⟩ := cz3 BK101
            go_wp2_with (first | ((with_reducible refine gate_callee (f := 23) rfl ?_); refine goesL_ (some 72) rfl rfl Tryd.func23 (by kernel_rfl) rfl #[] rfl (by (try simp only [List.map_toArray, List.map_cons, List.map_nil]); first | done | rfl | (simp only [List.length_drop, List.length_take]; rfl)) ?_; (with_reducible refine (luciferlaw01_peeled.calls  t122 _ ?side1 A40.out).mono ?_); (case side1 => exact Go.Proofs.YtigofgdmefobaaaDoor.Peel.EndsAt.below HE.out (B_)); rintro e w42 ⟨rfl, hb⟩; refine ⟨_, rfl, ?_⟩; have n0_ := Aside0.mk (blk_below (g := gb101) (o := .cells #[.slice A0_0 l0_0.length c0_0, .int .i64 a0_1, .slice A0_2 l0_2.length c0_2] 25 (0, 0)) (K_ BK101) hb); have n1_ := Aside0.mk (below_step (B_) hb); clear BK101; clear HB; have BK101 := n0_; have HB := n1_; clear n0_ n1_; (try clear hb); (try clear hb2); (try clear hk); (try clear hi)))
            go_ret
            exact ⟨by first | rfl | (simp [errW_none, errW_some] <;> rfl) | (simp [*, errW_none, errW_some] <;> rfl), B_⟩
          · rw [if_neg c39] at H
            have c39b0 : decide (t104 < (wrap64 (t105 + a0_1))) = false := decide_eq_false c39
            clear c39
            have H' := Aside0.mk H
            clear H
            obtain ⟨hcz43_0, hcz43_1, hcz43_2, hfz43_0, hfz43_1, hfz43_2⟩ := cz3 BK101
            go_wp2
            go_loopg [12, 13] kj10 (fun kq v12 v13 w' => ∃ (x12_2 : Bool) (x13_2 : Int), v12 = .bool x12_2 ∧ v13 = .int .i64 x13_2 ∧ Aside0 (luciferlaw01_PeelKnotty.l0 kq t105 x12_2 x13_2 l0_0 a0_1 l0_2 = some r) ∧ Aside0 (kq ≤ kj10) ∧ Aside0 (w'.heap[gb101]? = some (.cells #[(.slice A0_0 l0_0.length c0_0), .int .i64 a0_1, (.slice A0_2 l0_2.length c0_2)] 25 (0, 0))) ∧ Aside0 (Below w.heap.size w w'))
            case atStart => exact ⟨(true), (t105), S_, S_, H', ⟨Nat.le_refl _⟩, ⟨K_ BK101⟩, ⟨B_⟩⟩
            case round =>
              clear H'
              try clear p1; try clear q1; try clear hx1; try clear c2; try clear p2; try clear q2; try clear c3; try clear c4; try clear c5; try clear p6; try clear c8; try clear p11; try clear q11; try clear hx11; try clear p12; try clear q12; try clear hx12; try clear c21; try clear c22; try clear c22b0; try clear c22b1; try clear c23; try clear c24; try clear c25; try clear c25b0; try clear c25b1; try clear c26; try clear c26b0; try clear c27; try clear c27b0; try clear q28; try clear c29; try clear c31; try clear c31b0; try clear c31b1; try clear c34; try clear c34b0; try clear c34b1; try clear c35; try clear c35b0; try clear c36; try clear c36b0; try clear c38; try clear c39; try clear c39b0; try clear c40; try clear c41; try clear hcz13_0; try clear hcz13_1; try clear hcz13_2; try clear hcz15_0; try clear hcz15_1; try clear hcz15_2; try clear hcz20_0; try clear hcz20_1; try clear hcz20_2; try clear hcz41_0; try clear hcz41_1; try clear hcz41_2; try clear hcz43_0; try clear hcz43_1; try clear hcz43_2; try clear hfz13_0; try clear hfz13_1; try clear hfz13_2; try clear hfz15_0; try clear hfz15_1; try clear hfz15_2; try clear hfz20_0; try clear hfz20_1; try clear hfz20_2; try clear hfz41_0; try clear hfz41_1; try clear hfz41_2; try clear hfz43_0; try clear hfz43_1; try clear hfz43_2; try clear hx119_0; try clear hx120_0; try clear hx121_0; try clear p1; try clear p11; try clear p119; try clear p12; try clear p120; try clear p121; try clear p2; try clear q1; try clear q11; try clear q119; try clear q12; try clear q120; try clear q121; try clear q2; try clear q28
              obtain ⟨x12_2, x13_2, rfl, rfl, HA, HK2, BK101, HB⟩ := hrel
              cases gk with
              | zero => exact absurd HA.out (by simp [luciferlaw01_PeelKnotty.l0])
              | succ k2 =>
                have H := HA.out
                clear HA
                simp only [luciferlaw01_PeelKnotty.l0] at H
                by_cases c44 : x13_2 < (wrap64 (t105 + a0_1))
                · rw [if_pos c44] at H
                  have c44b0 : decide (x13_2 < (wrap64 (t105 + a0_1))) = true := decide_eq_true c44
                  clear c44
                  replace H := Option.bind_eq_some_iff.mp H
                  obtain ⟨⟨t123, t124⟩, A450, H⟩ := H
                  replace H : (if t124 = 0 then (if x12_2 = true then (luciferlaw01_PeelKnotty.l0 k2 t105 (t123 == 0) (wrap64 (x13_2 + 1)) l0_0 a0_1 l0_2) else (luciferlaw01_PeelKnotty.l0 k2 t105 false (wrap64 (x13_2 + 1)) l0_0 a0_1 l0_2)) else (some false)) = some r := H
                  have A45 := Aside0.mk A450
                  clear A450
                  by_cases c46 : t124 = 0
                  · rw [if_pos c46] at H
                    have c46b0 : (t124 == 0) = true := beq_iff_eq.mpr c46
                    have c46b1 : (t124 != 0) = false := bne_eq_false_iff_eq.mpr c46
                    clear c46
                    by_cases c47 : x12_2 = true
                    · subst c47
                      have H1 : (luciferlaw01_PeelKnotty.l0 k2 t105 (t123 == 0) (wrap64 (x13_2 + 1)) l0_0 a0_1 l0_2) = some r := by rw [if_pos rfl] at H; exact H
                      clear H
                      have H := H1
                      clear H1
                      have H' := Aside0.mk H
                      clear H
                      obtain ⟨hcz48_0, hcz48_1, hcz48_2, hfz48_0, hfz48_1, hfz48_2⟩ := cz3 BK101
                      go_wp2_with (first | ((with_reducible refine gate_callee (f := 21) rfl ?_); refine goesL_ (some 85) rfl rfl Tryd.func21 (by kernel_rfl) rfl #[.agg #[.slice A0_0 l0_0.length c0_0, .int .i64 a0_1, .slice A0_2 l0_2.length c0_2], .int .i64 x13_2] rfl (by (try simp only [List.map_toArray, List.map_cons, List.map_nil]); first | done | rfl | (simp only [List.length_drop, List.length_take]; rfl)) ?_; (with_reducible refine (peel_Knotty.calls _ _ l0_0 a0_1 _ _ l0_2 x13_2 t123 t124 _ ?side1 ?side2 ?side3 ?side4 ?side5 A45.out).mono ?_); (case side1 => exact C_ HR0_0); (case side2 => exact HC0_0.out); (case side3 => exact C_ HR0_2); (case side4 => exact HC0_2.out); (case side5 => exact Go.Proofs.YtigofgdmefobaaaDoor.Peel.EndsAt.below HE.out (B_)); rintro e w49 ⟨rfl, hb⟩; refine ⟨_, rfl, ?_⟩; have n0_ := Aside0.mk (blk_below (g := gb101) (o := .cells #[.slice A0_0 l0_0.length c0_0, .int .i64 a0_1, .slice A0_2 l0_2.length c0_2] 25 (0, 0)) (K_ BK101) hb); have n1_ := Aside0.mk (below_step (B_) hb); clear BK101; clear HB; have BK101 := n0_; have HB := n1_; clear n0_ n1_; (try clear hb); (try clear hb2); (try clear hk); (try clear hi)))
                      go_roundg k2
                      case measure => have := HJ10.out; have := HK2.out; omega
                      case rel => exact ⟨((t123 == 0)), (wrap64 (x13_2 + 1)), S_, S_, H', ⟨by have := HJ10.out; have := HK2.out; omega⟩, ⟨K_ BK101⟩, ⟨B_⟩⟩
                    · replace c47 := Bool.eq_false_iff.mpr c47
                      subst c47
                      have H1 : (luciferlaw01_PeelKnotty.l0 k2 t105 false (wrap64 (x13_2 + 1)) l0_0 a0_1 l0_2) = some r := by rw [if_neg (show ¬ (false = true) by decide)] at H; exact H
                      clear H
                      have H := H1
                      clear H1
                      have H' := Aside0.mk H
                      clear H
                      obtain ⟨hcz50_0, hcz50_1, hcz50_2, hfz50_0, hfz50_1, hfz50_2⟩ := cz3 BK101
                      go_wp2_with (first | ((with_reducible refine gate_callee (f := 21) rfl ?_); refine goesL_ (some 85) rfl rfl Tryd.func21 (by kernel_rfl) rfl #[.agg #[.slice A0_0 l0_0.length c0_0, .int .i64 a0_1, .slice A0_2 l0_2.length c0_2], .int .i64 x13_2] rfl (by (try simp only [List.map_toArray, List.map_cons, List.map_nil]); first | done | rfl | (simp only [List.length_drop, List.length_take]; rfl)) ?_; (with_reducible refine (peel_Knotty.calls _ _ l0_0 a0_1 _ _ l0_2 x13_2 t123 t124 _ ?side1 ?side2 ?side3 ?side4 ?side5 A45.out).mono ?_); (case side1 => exact C_ HR0_0); (case side2 => exact HC0_0.out); (case side3 => exact C_ HR0_2); (case side4 => exact HC0_2.out); (case side5 => exact Go.Proofs.YtigofgdmefobaaaDoor.Peel.EndsAt.below HE.out (B_)); rintro e w51 ⟨rfl, hb⟩; refine ⟨_, rfl, ?_⟩; have n0_ := Aside0.mk (blk_below (g := gb101) (o := .cells #[.slice A0_0 l0_0.length c0_0, .int .i64 a0_1, .slice A0_2 l0_2.length c0_2] 25 (0, 0)) (K_ BK101) hb); have n1_ := Aside0.mk (below_step (B_) hb); clear BK101; clear HB; have BK101 := n0_; have HB := n1_; clear n0_ n1_; (try clear hb); (try clear hb2); (try clear hk); (try clear hi)))
                      go_roundg k2
                      case measure => have := HJ10.out; have := HK2.out; omega
                      case rel => exact ⟨(false), (wrap64 (x13_2 + 1)), S_, S_, H', ⟨by have := HJ10.out; have := HK2.out; omega⟩, ⟨K_ BK101⟩, ⟨B_⟩⟩
                  · rw [if_neg c46] at H
                    have c46b0 : (t124 == 0) = false := beq_eq_false_iff_ne.mpr c46
                    have c46b1 : (t124 != 0) = true := bne_iff_ne.mpr c46
                    exact absurd (Option.some.inj H) (by rw [hT]; decide)
                · rw [if_neg c44] at H
                  have c44b0 : decide (x13_2 < (wrap64 (t105 + a0_1))) = false := decide_eq_false c44
                  clear c44
                  obtain ⟨y125, hy125⟩ : ∃ y_ : List Int, y_ = (([t105] : List Int)) := ⟨_, rfl⟩
                  replace H : ((peel_Sure.f l0_0 a0_1 l0_2 y125).bind fun bt128 => (if bt128.2 = 0 then (if ((bt128.1 == 1) == x12_2) = true then ((luciferref00_Fits.f bt128.1 0 1).bind fun t130 => (if t130 = true then ((luciferlaw01_peeled.f).bind fun t131 => (some t131)) else (some false))) else (some false)) else (some false))) = some r := by first | (rw [hy125]; with_reducible exact H) | (have H2_ := (Option.bind_some _ _).symm.trans H; rw [hy125]; with_reducible exact H2_) | (have H2_ := (Option.bind_some _ _).symm.trans H; with_reducible exact H2_) | with_reducible exact H | (rw [hy125]; exact H) | exact H
                  have Ny125 := Aside0.mk hy125
                  clear hy125
                  replace H := Option.bind_eq_some_iff.mp H
                  obtain ⟨⟨t128, t129⟩, A520, H⟩ := H
                  replace H : (if t129 = 0 then (if ((t128 == 1) == x12_2) = true then ((luciferref00_Fits.f t128 0 1).bind fun t130 => (if t130 = true then ((luciferlaw01_peeled.f).bind fun t131 => (some t131)) else (some false))) else (some false)) else (some false)) = some r := H
                  have A52 := Aside0.mk A520
                  clear A520
                  by_cases c53 : t129 = 0
                  · rw [if_pos c53] at H
                    have c53b0 : (t129 == 0) = true := beq_iff_eq.mpr c53
                    have c53b1 : (t129 != 0) = false := bne_eq_false_iff_eq.mpr c53
                    clear c53
                    by_cases c54 : ((t128 == 1) == x12_2) = true
                    · rw [if_pos c54] at H
                      have c54b0 : ((t128 == 1) == x12_2) = true := c54
                      (try (have c54b1 : decide ((t128 == 1) = x12_2) = true := by simpa using c54))
                      (try (have c54b2 : ((t128 == 1) == x12_2) = true := by simpa using c54))
                      clear c54
                      replace H := Option.bind_eq_some_iff.mp H
                      obtain ⟨t130, A550, H⟩ := H
                      replace H : (if t130 = true then ((luciferlaw01_peeled.f).bind fun t131 => (some t131)) else (some false)) = some r := H
                      have A55 := Aside0.mk A550
                      clear A550
                      by_cases c56 : t130 = true
                      · subst c56
                        have H1 : ((luciferlaw01_peeled.f).bind fun t131 => (some t131)) = some r := by rw [if_pos rfl] at H; exact H
                        clear H
                        have H := H1
                        clear H1
                        replace H := Option.bind_eq_some_iff.mp H
                        obtain ⟨t131, A570, H⟩ := H
                        replace H : (some t131) = some r := H
                        have A57 := Aside0.mk A570
                        clear A570
                        obtain rfl := Option.some.inj H
                        obtain ⟨hcz58_0, hcz58_1, hcz58_2, hfz58_0, hfz58_1, hfz58_2⟩ := cz3 BK101
                        go_wp2_with (first | ((with_reducible refine gate_dst (N := 98) rfl ?_); refine Kd.R_lit (Kd.int .i64) _ 3 ?hg (N := 98) ?hd (xs := ([t105] : List Int)) (inner := [.int .i64 t105]) (ok := fun _ => True) (okp := fun _ => True) ?hr ?hp (fun _ hk => hk) trivial (Below.refl _ _) (Nat.le_refl _) (by simp) ?_; (case hd => rfl); (case hg => rfl); (case hr => first | (go_simp; done) | (go_simp; rfl)); (case hp => exact (Reps.one (show Kd.M (Kd.int .i64) _ _ _ t105 [.int .i64 t105] from rfl) (Reps.none _ _))); intro v126 w59 ho60 hb hg_ hnew_; clear hg_ hnew_; (first | rw [← Ny125.out] at ho60 | (simp only [Int.reduceToNat] at ho60; rw [← Ny125.out] at ho60)); have n0_ := Aside0.mk (Kd.R_lower ho60 (below_size (B_))); have n1_ := Aside0.mk (blk_below (g := gb101) (o := .cells #[.slice A0_0 l0_0.length c0_0, .int .i64 a0_1, .slice A0_2 l0_2.length c0_2] 25 (0, 0)) (K_ BK101) hb); have n2_ := Aside0.mk (below_step (B_) hb); clear BK101; clear HB; have HO127 := n0_; have BK101 := n1_; have HB := n2_; clear n0_ n1_ n2_; clear hb ho60; obtain ⟨Ao61, co61, eo61⟩ := Kd.R_slice HO127.out; subst eo61) | ((with_reducible refine gate_callee (f := 26) rfl ?_); refine goesL_ (some 99) rfl rfl Tryd.func26 (by kernel_rfl) rfl #[.agg #[.slice A0_0 l0_0.length c0_0, .int .i64 a0_1, .slice A0_2 l0_2.length c0_2], .slice Ao61 y125.length co61] rfl (by (try simp only [List.map_toArray, List.map_cons, List.map_nil]); first | done | rfl | (simp only [List.length_drop, List.length_take]; rfl)) ?_; (with_reducible refine (peel_Sure.calls _ _ l0_0 a0_1 _ _ l0_2 _ _ y125 t128 t129 _ ?side1 ?side2 ?side3 ?side4 ?side5 ?side6 ?side7 A52.out).mono ?_); (case side1 => exact C_ HR0_0); (case side2 => exact HC0_0.out); (case side3 => exact C_ HR0_2); (case side4 => exact HC0_2.out); (case side5 => repeat (first | exact (Kd.R_reads' HO127.out).2.2 | (with_reducible refine Kd.C_alloc ?_ _) | (with_reducible refine Kd.C_drewN ?_ _) | (with_reducible refine Kd.C_drew ?_))); (case side6 => exact (Kd.R_reads' HO127.out).2.1); (case side7 => exact Go.Proofs.YtigofgdmefobaaaDoor.Peel.EndsAt.below HE.out (B_)); rintro e w62 ⟨rfl, hb⟩; refine ⟨_, rfl, ?_⟩; have n0_ := Aside0.mk (Kd.R_below (R_ HO127) hb); have n1_ := Aside0.mk (blk_below (g := gb101) (o := .cells #[.slice A0_0 l0_0.length c0_0, .int .i64 a0_1, .slice A0_2 l0_2.length c0_2] 25 (0, 0)) (K_ BK101) hb); have n2_ := Aside0.mk (below_step (B_) hb); clear HO127; clear BK101; clear HB; have HO127 := n0_; have BK101 := n1_; have HB := n2_; clear n0_ n1_ n2_; (try clear hb); (try clear hb2); (try clear hk); (try clear hi)) | (go_at_call 46; (with_reducible refine (luciferref00_Fits.calls t128 0 1 true _ A55.out).mono ?_); rintro e w' ⟨rfl, ⟨nd, rfl⟩⟩) | (go_at_call 23; (with_reducible refine (luciferlaw01_peeled.calls  t131 _ ?side1 A57.out).mono ?_); (case side1 => exact Go.Proofs.YtigofgdmefobaaaDoor.Peel.EndsAt.below HE.out (B_)); rintro e w63 ⟨rfl, hb⟩; have n0_ := Aside0.mk (Kd.R_below (R_ HO127) hb); have n1_ := Aside0.mk (blk_below (g := gb101) (o := .cells #[.slice A0_0 l0_0.length c0_0, .int .i64 a0_1, .slice A0_2 l0_2.length c0_2] 25 (0, 0)) (K_ BK101) hb); have n2_ := Aside0.mk (below_step (B_) hb); clear HO127; clear BK101; clear HB; have HO127 := n0_; have BK101 := n1_; have HB := n2_; clear n0_ n1_ n2_; (try clear hb); (try clear hb2); (try clear hk); (try clear hi)))
                        go_ret
                        exact ⟨by first | rfl | (simp [errW_none, errW_some] <;> rfl) | (simp [*, errW_none, errW_some] <;> rfl), B_⟩
                      · replace c56 := Bool.eq_false_iff.mpr c56
                        subst c56
                        have H1 : (some false) = some r := by rw [if_neg (show ¬ (false = true) by decide)] at H; exact H
                        clear H
                        have H := H1
                        clear H1
                        exact absurd (Option.some.inj H) (by rw [hT]; decide)
                    · rw [if_neg c54] at H
                      have c54b0 : ((t128 == 1) == x12_2) = false := by simpa using c54
                      (try (have c54b1 : decide ((t128 == 1) = x12_2) = false := by simpa using c54))
                      (try (have c54b2 : ((t128 == 1) == x12_2) = false := by simpa using c54))
                      (try (have c54b3 : ¬ ((t128 == 1) = x12_2) := by simpa using c54))
                      clear c54
                      exact absurd (Option.some.inj H) (by rw [hT]; decide)
                  · rw [if_neg c53] at H
                    have c53b0 : (t129 == 0) = false := beq_eq_false_iff_ne.mpr c53
                    have c53b1 : (t129 != 0) = true := bne_iff_ne.mpr c53
                    exact absurd (Option.some.inj H) (by rw [hT]; decide)
  · replace c5 := Bool.eq_false_iff.mpr c5
    subst c5
    have H1 : ((luciferlaw01_peeled.f).bind fun t103 => (some t103)) = some r := by rw [if_neg (show ¬ (false = true) by decide)] at H; exact H
    clear H
    have H := H1
    clear H1
    replace H := Option.bind_eq_some_iff.mp H
    obtain ⟨t103, A640, H⟩ := H
    replace H : (some t103) = some r := H
    have A64 := Aside0.mk A640
    clear A640
    obtain rfl := Option.some.inj H
    go_enter Tryd.func8, Tryd.ntmps8
    go_wp2_with (first | ((with_reducible refine gate_dst (N := 3) rfl ?_); refine box_event ?hg (N := 3) ?hd (cs := #[.slice A0_0 l0_0.length c0_0, .int .i64 a0_1, .slice A0_2 l0_2.length c0_2]) (t := 25) ?hr ?_; (case hd => rfl); (case hg => rfl); (case hr => first | (go_simp; done) | (go_simp; rfl)); intro gb101 hg w65 hbox hb; have n0_ := Aside0.mk (below_step (B_) hb); have n1_ := Aside0.mk (hbox); have n2_ := Aside0.mk ((by rw [hg]; exact (below_size (B_)) : w.heap.size ≤ gb101)); have n3_ := Aside0.mk ((by rw [hg]; exact (below_size (B_)) : w.heap.size ≤ gb101)); clear HB; have HB := n0_; have BK101 := n1_; have GW101 := n2_; have GE101 := n3_; clear n0_ n1_ n2_ n3_; clear hb hbox hg; obtain ⟨hcz66_0, hcz66_1, hcz66_2, hfz66_0, hfz66_1, hfz66_2⟩ := cz3 BK101) | ((with_reducible refine gate_callee (f := 39) rfl ?_); refine goesL_ (some 19) rfl rfl Tryd.func39 (by kernel_rfl) rfl #[.agg #[.slice A0_0 l0_0.length c0_0, .int .i64 a0_1, .slice A0_2 l0_2.length c0_2]] rfl (by (try simp only [List.map_toArray, List.map_cons, List.map_nil]); first | done | rfl | (simp only [List.length_drop, List.length_take]; rfl)) ?_; (with_reducible refine (luciferlaw01_sound.calls k _ _ l0_0 a0_1 _ _ l0_2 false _ ?side1 ?side2 ?side3 ?side4 A4.out).mono ?_); (case side1 => exact C_ HR0_0); (case side2 => exact HC0_0.out); (case side3 => exact C_ HR0_2); (case side4 => exact HC0_2.out); rintro e w67 ⟨rfl, hb⟩; refine ⟨_, rfl, ?_⟩; have n0_ := Aside0.mk (blk_below (g := gb101) (o := .cells #[.slice A0_0 l0_0.length c0_0, .int .i64 a0_1, .slice A0_2 l0_2.length c0_2] 25 (0, 0)) (K_ BK101) hb); have n1_ := Aside0.mk (below_step (B_) hb); clear BK101; clear HB; have BK101 := n0_; have HB := n1_; clear n0_ n1_; (try clear hb); (try clear hb2); (try clear hk); (try clear hi)) | ((with_reducible refine gate_callee (f := 23) rfl ?_); refine goesL_ (some 21) rfl rfl Tryd.func23 (by kernel_rfl) rfl #[] rfl (by (try simp only [List.map_toArray, List.map_cons, List.map_nil]); first | done | rfl | (simp only [List.length_drop, List.length_take]; rfl)) ?_; (with_reducible refine (luciferlaw01_peeled.calls  t103 _ ?side1 A64.out).mono ?_); (case side1 => exact Go.Proofs.YtigofgdmefobaaaDoor.Peel.EndsAt.below HE.out (B_)); rintro e w68 ⟨rfl, hb⟩; refine ⟨_, rfl, ?_⟩; have n0_ := Aside0.mk (blk_below (g := gb101) (o := .cells #[.slice A0_0 l0_0.length c0_0, .int .i64 a0_1, .slice A0_2 l0_2.length c0_2] 25 (0, 0)) (K_ BK101) hb); have n1_ := Aside0.mk (below_step (B_) hb); clear BK101; clear HB; have BK101 := n0_; have HB := n1_; clear n0_ n1_; (try clear hb); (try clear hb2); (try clear hk); (try clear hi)))
    go_ret
    exact ⟨by first | rfl | (simp [errW_none, errW_some] <;> rfl) | (simp [*, errW_none, errW_some] <;> rfl), B_⟩

end Go.Proofs.YtigofgdmefobaaaDoor.PP
