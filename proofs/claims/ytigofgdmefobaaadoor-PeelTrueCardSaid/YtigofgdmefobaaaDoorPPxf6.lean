-- Printed by a program of this session (the kit's print over contracts of ours for functions that it does not take).
import Derived.Test.YtigofgdmefobaaaDoorGiven
import Derived.Test.YtigofgdmefobaaaDoorPPx0
import Derived.Test.YtigofgdmefobaaaDoorPPxf39
import Derived.Test.YtigofgdmefobaaaDoorPPxf40
import Derived.Test.YtigofgdmefobaaaDoorPPxf41
import Derived.Test.YtigofgdmefobaaaDoorPPxf42
import Derived.Test.YtigofgdmefobaaaDoorPPxf43
import Derived.Test.YtigofgdmefobaaaDoorPPxf44
import Derived.Test.YtigofgdmefobaaaDoorPPxf45
import Derived.Test.YtigofgdmefobaaaDoorPPxf46
namespace Go.Proofs.YtigofgdmefobaaaDoor.PP
open Go.RowKit Go.Proofs.YtigofgdmefobaaaDoorW.PrintWords Go.Proofs.YtigofgdmefobaaaDoorW.PrintLast Go.Proofs.YtigofgdmefobaaaDoorW.PrintMore
attribute [local go_sem] max2_int min2_int max_two min_two max_three min_three max_four min_four   -- for this text's walks alone
set_option linter.unusedVariables false
set_option linter.unusedSimpArgs false

/-! ### luciferlaw01_PeelTrue: function 6 -/
def luciferlaw01_PeelTrue.j0 : Nat → List Bool → List Int → List Int → Int → Int → Bool → List Int → Int → List (S61) → Int → Int → Option (Bool)
  | 0, _, _, _, _, _, _, _, _, _, _, _ => none
  | k + 1, x7, x8, x10, x11, x15, x85, x102000, x102001, x102002, x127000, x127001 => if x85 = true then (some false) else ((luciferlaw01_whole.f k x102000 x102001 x102002 x7 x10).bind fun t132 => ((luciferref00_Has.f x127000 x127001 t132).bind fun t133 => (if t133 = true then ((luciferref00_Fits.f x11 0 x127000).bind fun t134 => (if t134 = true then (if x127001 ≤ (x10.length : Int) then (if t132 ≤ x15 then (if (x8.length : Int) ≤ x15 then (if x11 ≤ (x8.length : Int) then ((luciferlaw01_peeled.f).bind fun t135 => (some t135)) else (some false)) else (some false)) else (some false)) else (some false)) else (some false))) else (some false))))
def luciferlaw01_PeelTrue.f (k : Nat) (l0_0 : List Int) (a0_1 : Int) (l0_2 : List (S61)) (l1 : List Int) (l2 : List Int) : Option (Bool) := (luciferlaw01_sound.f k l0_0 a0_1 l0_2).bind fun t102 => (if t102 = true then ((luciferlaw01_truly.f k l0_0 a0_1 l0_2 l1).bind fun bt104 => ((luciferlaw01_knots.f k bt104.1 bt104.2.1 bt104.2.2).bind fun t111 => ((peel_Best.f l0_0 a0_1 l0_2).bind fun bt114 => ((luciferlaw01_drawn.f k l0_0 a0_1 l0_2 l2).bind fun t118 => ((peel_Sure.f l0_0 a0_1 l0_2 t118).bind fun bt121 => ((peel_Whole.f l0_0 a0_1 l0_2 t118).bind fun bt123 => ((peel_Hope.f l0_0 a0_1 l0_2).bind fun bt127 => (if bt114.2 = 0 then (if bt121.2 = 0 then (if bt123.2.2 = 0 then (if bt127.2 = 0 then ((luciferlaw01_cutting.f k l0_0 a0_1 l0_2 bt114.1).bind fun t129 => (if t129 = true then ((luciferlaw01_cutting.f k l0_0 a0_1 l0_2 t118).bind fun t130 => (if t130 = true then ((luciferlaw01_whole.f k l0_0 a0_1 l0_2 t111 bt114.1).bind fun t131 => (luciferlaw01_PeelTrue.j0 k t111 bt114.1 t118 bt121.1 bt127.1 (t131 != (bt114.1.length : Int)) l0_0 a0_1 l0_2 bt123.1 bt123.2.1)) else (luciferlaw01_PeelTrue.j0 k t111 bt114.1 t118 bt121.1 bt127.1 true l0_0 a0_1 l0_2 bt123.1 bt123.2.1))) else (luciferlaw01_PeelTrue.j0 k t111 bt114.1 t118 bt121.1 bt127.1 true l0_0 a0_1 l0_2 bt123.1 bt123.2.1))) else (luciferlaw01_PeelTrue.j0 k t111 bt114.1 t118 bt121.1 bt127.1 true l0_0 a0_1 l0_2 bt123.1 bt123.2.1)) else (luciferlaw01_PeelTrue.j0 k t111 bt114.1 t118 bt121.1 bt127.1 true l0_0 a0_1 l0_2 bt123.1 bt123.2.1)) else (luciferlaw01_PeelTrue.j0 k t111 bt114.1 t118 bt121.1 bt127.1 true l0_0 a0_1 l0_2 bt123.1 bt123.2.1)) else (luciferlaw01_PeelTrue.j0 k t111 bt114.1 t118 bt121.1 bt127.1 true l0_0 a0_1 l0_2 bt123.1 bt123.2.1))))))))) else ((luciferlaw01_peeled.f).bind fun t103 => (some t103)))
theorem luciferlaw01_PeelTrue.mono_l : ∀ k, (∀ y0 y1 y2 y3 y4 y5 y6 y7 y8 y9 y10, LeO (luciferlaw01_PeelTrue.j0 k y0 y1 y2 y3 y4 y5 y6 y7 y8 y9 y10) (luciferlaw01_PeelTrue.j0 (k + 1) y0 y1 y2 y3 y4 y5 y6 y7 y8 y9 y10))
  | 0 => fun _ _ _ _ _ _ _ _ _ _ _ r h => by simp [luciferlaw01_PeelTrue.j0] at h
  | k + 1 => by
    have ih0 := luciferlaw01_PeelTrue.mono_l k
    · intro y0 y1 y2 y3 y4 y5 y6 y7 y8 y9 y10
      unfold luciferlaw01_PeelTrue.j0
      repeat' first
      | (with_reducible exact ih0 _ _ _ _ _ _ _ _ _ _ _)
      | (with_reducible exact luciferlaw01_cutting.mono _ _ _ _ _)
      | (with_reducible exact luciferlaw01_drawn.mono _ _ _ _ _)
      | (with_reducible exact luciferlaw01_knots.mono _ _ _ _)
      | (with_reducible exact luciferlaw01_sound.mono _ _ _ _)
      | (with_reducible exact luciferlaw01_truly.mono _ _ _ _ _)
      | (with_reducible exact luciferlaw01_whole.mono _ _ _ _ _ _)
      | (with_reducible exact LeO.refl _)
      | (with_reducible exact LeO.none _)
      | (with_reducible refine LeO.ite ?_ ?_)
      | (with_reducible refine LeO.bind ?_ (fun _ => ?_))
      | exact ih0 _ _ _ _ _ _ _ _ _ _ _
      | exact luciferlaw01_cutting.mono _ _ _ _ _
      | exact luciferlaw01_drawn.mono _ _ _ _ _
      | exact luciferlaw01_knots.mono _ _ _ _
      | exact luciferlaw01_sound.mono _ _ _ _
      | exact luciferlaw01_truly.mono _ _ _ _ _
      | exact luciferlaw01_whole.mono _ _ _ _ _ _
      | exact LeO.none _
      | refine LeO.ite ?_ ?_
      | refine LeO.bind ?_ (fun _ => ?_)
theorem luciferlaw01_PeelTrue.mono : ∀ a0 a1 a2 a3 a4 k, LeO (luciferlaw01_PeelTrue.f k a0 a1 a2 a3 a4) (luciferlaw01_PeelTrue.f (k + 1) a0 a1 a2 a3 a4) := by
  intro a0 a1 a2 a3 a4 k
  have ih0 := luciferlaw01_PeelTrue.mono_l k
  unfold luciferlaw01_PeelTrue.f
  repeat' first
      | (with_reducible exact ih0 _ _ _ _ _ _ _ _ _ _ _)
      | (with_reducible exact luciferlaw01_cutting.mono _ _ _ _ _)
      | (with_reducible exact luciferlaw01_drawn.mono _ _ _ _ _)
      | (with_reducible exact luciferlaw01_knots.mono _ _ _ _)
      | (with_reducible exact luciferlaw01_sound.mono _ _ _ _)
      | (with_reducible exact luciferlaw01_truly.mono _ _ _ _ _)
      | (with_reducible exact luciferlaw01_whole.mono _ _ _ _ _ _)
      | (with_reducible exact LeO.refl _)
      | (with_reducible exact LeO.none _)
      | (with_reducible refine LeO.ite ?_ ?_)
      | (with_reducible refine LeO.bind ?_ (fun _ => ?_))
      | exact ih0 _ _ _ _ _ _ _ _ _ _ _
      | exact luciferlaw01_cutting.mono _ _ _ _ _
      | exact luciferlaw01_drawn.mono _ _ _ _ _
      | exact luciferlaw01_knots.mono _ _ _ _
      | exact luciferlaw01_sound.mono _ _ _ _
      | exact luciferlaw01_truly.mono _ _ _ _ _
      | exact luciferlaw01_whole.mono _ _ _ _ _ _
      | exact LeO.none _
      | refine LeO.ite ?_ ?_
      | refine LeO.bind ?_ (fun _ => ?_)
set_option maxHeartbeats 8000000 in
set_option maxRecDepth 100000 in
theorem luciferlaw01_PeelTrue.calls (k : Nat) (A0_0 : Option Addr) (c0_0 : Nat) (l0_0 : List Int) (a0_1 : Int) (A0_2 : Option Addr) (c0_2 : Nat) (l0_2 : List (S61)) (A1 : Option Addr) (c1 : Nat) (l1 : List Int) (A2 : Option Addr) (c2 : Nat) (l2 : List Int) (r : Bool) (w : World) (hr0_0 : Kd.C (Kd.int .i64) w A0_0 l0_0.length l0_0) (hc0_0 : l0_0.length ≤ c0_0) (hr0_2 : Kd.C k61 w A0_2 l0_2.length l0_2) (hc0_2 : l0_2.length ≤ c0_2) (hr1 : Kd.C (Kd.int .i64) w A1 l1.length l1) (hc1 : l1.length ≤ c1) (hr2 : Kd.C (Kd.int .i64) w A2 l2.length l2) (hc2 : l2.length ≤ c2) (hE : Go.Proofs.YtigofgdmefobaaaDoor.Peel.EndsAt w) (hT : r = true) (h : luciferlaw01_PeelTrue.f k l0_0 a0_1 l0_2 l1 l2 = some r) :
    Calls Tryd.prog 6 #[.agg #[.slice A0_0 l0_0.length c0_0, .int .i64 a0_1, .slice A0_2 l0_2.length c0_2], .slice A1 l1.length c1, .slice A2 l2.length c2] w fun e w' => e = .returned (.bool r) ∧ Below w.heap.size w w' := by
  have hu25 := Tryd.underlying25
  have hu39 := Tryd.underlying39
  have HE := Aside0.mk hE
  clear hE
  have HR0_0 := Aside0.mk hr0_0
  have HC0_0 := Aside0.mk hc0_0
  clear hr0_0 hc0_0
  have HR0_2 := Aside0.mk hr0_2
  have HC0_2 := Aside0.mk hc0_2
  clear hr0_2 hc0_2
  have HR1 := Aside0.mk hr1
  have HC1 := Aside0.mk hc1
  clear hr1 hc1
  have HR2 := Aside0.mk hr2
  have HC2 := Aside0.mk hc2
  clear hr2 hc2
  have HB := Aside0.mk (Below.refl w.heap.size w)
  have H : ((luciferlaw01_sound.f k l0_0 a0_1 l0_2).bind fun t102 => (if t102 = true then ((luciferlaw01_truly.f k l0_0 a0_1 l0_2 l1).bind fun bt104 => ((luciferlaw01_knots.f k bt104.1 bt104.2.1 bt104.2.2).bind fun t111 => ((peel_Best.f l0_0 a0_1 l0_2).bind fun bt114 => ((luciferlaw01_drawn.f k l0_0 a0_1 l0_2 l2).bind fun t118 => ((peel_Sure.f l0_0 a0_1 l0_2 t118).bind fun bt121 => ((peel_Whole.f l0_0 a0_1 l0_2 t118).bind fun bt123 => ((peel_Hope.f l0_0 a0_1 l0_2).bind fun bt127 => (if bt114.2 = 0 then (if bt121.2 = 0 then (if bt123.2.2 = 0 then (if bt127.2 = 0 then ((luciferlaw01_cutting.f k l0_0 a0_1 l0_2 bt114.1).bind fun t129 => (if t129 = true then ((luciferlaw01_cutting.f k l0_0 a0_1 l0_2 t118).bind fun t130 => (if t130 = true then ((luciferlaw01_whole.f k l0_0 a0_1 l0_2 t111 bt114.1).bind fun t131 => (luciferlaw01_PeelTrue.j0 k t111 bt114.1 t118 bt121.1 bt127.1 (t131 != (bt114.1.length : Int)) l0_0 a0_1 l0_2 bt123.1 bt123.2.1)) else (luciferlaw01_PeelTrue.j0 k t111 bt114.1 t118 bt121.1 bt127.1 true l0_0 a0_1 l0_2 bt123.1 bt123.2.1))) else (luciferlaw01_PeelTrue.j0 k t111 bt114.1 t118 bt121.1 bt127.1 true l0_0 a0_1 l0_2 bt123.1 bt123.2.1))) else (luciferlaw01_PeelTrue.j0 k t111 bt114.1 t118 bt121.1 bt127.1 true l0_0 a0_1 l0_2 bt123.1 bt123.2.1)) else (luciferlaw01_PeelTrue.j0 k t111 bt114.1 t118 bt121.1 bt127.1 true l0_0 a0_1 l0_2 bt123.1 bt123.2.1)) else (luciferlaw01_PeelTrue.j0 k t111 bt114.1 t118 bt121.1 bt127.1 true l0_0 a0_1 l0_2 bt123.1 bt123.2.1)) else (luciferlaw01_PeelTrue.j0 k t111 bt114.1 t118 bt121.1 bt127.1 true l0_0 a0_1 l0_2 bt123.1 bt123.2.1))))))))) else ((luciferlaw01_peeled.f).bind fun t103 => (some t103)))) = some r := h
  clear h
  replace H := Option.bind_eq_some_iff.mp H
  obtain ⟨t102, A40, H⟩ := H
  replace H : (if t102 = true then ((luciferlaw01_truly.f k l0_0 a0_1 l0_2 l1).bind fun bt104 => ((luciferlaw01_knots.f k bt104.1 bt104.2.1 bt104.2.2).bind fun t111 => ((peel_Best.f l0_0 a0_1 l0_2).bind fun bt114 => ((luciferlaw01_drawn.f k l0_0 a0_1 l0_2 l2).bind fun t118 => ((peel_Sure.f l0_0 a0_1 l0_2 t118).bind fun bt121 => ((peel_Whole.f l0_0 a0_1 l0_2 t118).bind fun bt123 => ((peel_Hope.f l0_0 a0_1 l0_2).bind fun bt127 => (if bt114.2 = 0 then (if bt121.2 = 0 then (if bt123.2.2 = 0 then (if bt127.2 = 0 then ((luciferlaw01_cutting.f k l0_0 a0_1 l0_2 bt114.1).bind fun t129 => (if t129 = true then ((luciferlaw01_cutting.f k l0_0 a0_1 l0_2 t118).bind fun t130 => (if t130 = true then ((luciferlaw01_whole.f k l0_0 a0_1 l0_2 t111 bt114.1).bind fun t131 => (luciferlaw01_PeelTrue.j0 k t111 bt114.1 t118 bt121.1 bt127.1 (t131 != (bt114.1.length : Int)) l0_0 a0_1 l0_2 bt123.1 bt123.2.1)) else (luciferlaw01_PeelTrue.j0 k t111 bt114.1 t118 bt121.1 bt127.1 true l0_0 a0_1 l0_2 bt123.1 bt123.2.1))) else (luciferlaw01_PeelTrue.j0 k t111 bt114.1 t118 bt121.1 bt127.1 true l0_0 a0_1 l0_2 bt123.1 bt123.2.1))) else (luciferlaw01_PeelTrue.j0 k t111 bt114.1 t118 bt121.1 bt127.1 true l0_0 a0_1 l0_2 bt123.1 bt123.2.1)) else (luciferlaw01_PeelTrue.j0 k t111 bt114.1 t118 bt121.1 bt127.1 true l0_0 a0_1 l0_2 bt123.1 bt123.2.1)) else (luciferlaw01_PeelTrue.j0 k t111 bt114.1 t118 bt121.1 bt127.1 true l0_0 a0_1 l0_2 bt123.1 bt123.2.1)) else (luciferlaw01_PeelTrue.j0 k t111 bt114.1 t118 bt121.1 bt127.1 true l0_0 a0_1 l0_2 bt123.1 bt123.2.1))))))))) else ((luciferlaw01_peeled.f).bind fun t103 => (some t103))) = some r := H
  have A4 := Aside0.mk A40
  clear A40
  by_cases c5 : t102 = true
  · subst c5
    have H1 : ((luciferlaw01_truly.f k l0_0 a0_1 l0_2 l1).bind fun bt104 => ((luciferlaw01_knots.f k bt104.1 bt104.2.1 bt104.2.2).bind fun t111 => ((peel_Best.f l0_0 a0_1 l0_2).bind fun bt114 => ((luciferlaw01_drawn.f k l0_0 a0_1 l0_2 l2).bind fun t118 => ((peel_Sure.f l0_0 a0_1 l0_2 t118).bind fun bt121 => ((peel_Whole.f l0_0 a0_1 l0_2 t118).bind fun bt123 => ((peel_Hope.f l0_0 a0_1 l0_2).bind fun bt127 => (if bt114.2 = 0 then (if bt121.2 = 0 then (if bt123.2.2 = 0 then (if bt127.2 = 0 then ((luciferlaw01_cutting.f k l0_0 a0_1 l0_2 bt114.1).bind fun t129 => (if t129 = true then ((luciferlaw01_cutting.f k l0_0 a0_1 l0_2 t118).bind fun t130 => (if t130 = true then ((luciferlaw01_whole.f k l0_0 a0_1 l0_2 t111 bt114.1).bind fun t131 => (luciferlaw01_PeelTrue.j0 k t111 bt114.1 t118 bt121.1 bt127.1 (t131 != (bt114.1.length : Int)) l0_0 a0_1 l0_2 bt123.1 bt123.2.1)) else (luciferlaw01_PeelTrue.j0 k t111 bt114.1 t118 bt121.1 bt127.1 true l0_0 a0_1 l0_2 bt123.1 bt123.2.1))) else (luciferlaw01_PeelTrue.j0 k t111 bt114.1 t118 bt121.1 bt127.1 true l0_0 a0_1 l0_2 bt123.1 bt123.2.1))) else (luciferlaw01_PeelTrue.j0 k t111 bt114.1 t118 bt121.1 bt127.1 true l0_0 a0_1 l0_2 bt123.1 bt123.2.1)) else (luciferlaw01_PeelTrue.j0 k t111 bt114.1 t118 bt121.1 bt127.1 true l0_0 a0_1 l0_2 bt123.1 bt123.2.1)) else (luciferlaw01_PeelTrue.j0 k t111 bt114.1 t118 bt121.1 bt127.1 true l0_0 a0_1 l0_2 bt123.1 bt123.2.1)) else (luciferlaw01_PeelTrue.j0 k t111 bt114.1 t118 bt121.1 bt127.1 true l0_0 a0_1 l0_2 bt123.1 bt123.2.1))))))))) = some r := by rw [if_pos rfl] at H; exact H
    clear H
    have H := H1
    clear H1
    replace H := Option.bind_eq_some_iff.mp H
    obtain ⟨⟨t104, t107, t108⟩, A60, H⟩ := H
    replace H : ((luciferlaw01_knots.f k t104 t107 t108).bind fun t111 => ((peel_Best.f l0_0 a0_1 l0_2).bind fun bt114 => ((luciferlaw01_drawn.f k l0_0 a0_1 l0_2 l2).bind fun t118 => ((peel_Sure.f l0_0 a0_1 l0_2 t118).bind fun bt121 => ((peel_Whole.f l0_0 a0_1 l0_2 t118).bind fun bt123 => ((peel_Hope.f l0_0 a0_1 l0_2).bind fun bt127 => (if bt114.2 = 0 then (if bt121.2 = 0 then (if bt123.2.2 = 0 then (if bt127.2 = 0 then ((luciferlaw01_cutting.f k l0_0 a0_1 l0_2 bt114.1).bind fun t129 => (if t129 = true then ((luciferlaw01_cutting.f k l0_0 a0_1 l0_2 t118).bind fun t130 => (if t130 = true then ((luciferlaw01_whole.f k l0_0 a0_1 l0_2 t111 bt114.1).bind fun t131 => (luciferlaw01_PeelTrue.j0 k t111 bt114.1 t118 bt121.1 bt127.1 (t131 != (bt114.1.length : Int)) l0_0 a0_1 l0_2 bt123.1 bt123.2.1)) else (luciferlaw01_PeelTrue.j0 k t111 bt114.1 t118 bt121.1 bt127.1 true l0_0 a0_1 l0_2 bt123.1 bt123.2.1))) else (luciferlaw01_PeelTrue.j0 k t111 bt114.1 t118 bt121.1 bt127.1 true l0_0 a0_1 l0_2 bt123.1 bt123.2.1))) else (luciferlaw01_PeelTrue.j0 k t111 bt114.1 t118 bt121.1 bt127.1 true l0_0 a0_1 l0_2 bt123.1 bt123.2.1)) else (luciferlaw01_PeelTrue.j0 k t111 bt114.1 t118 bt121.1 bt127.1 true l0_0 a0_1 l0_2 bt123.1 bt123.2.1)) else (luciferlaw01_PeelTrue.j0 k t111 bt114.1 t118 bt121.1 bt127.1 true l0_0 a0_1 l0_2 bt123.1 bt123.2.1)) else (luciferlaw01_PeelTrue.j0 k t111 bt114.1 t118 bt121.1 bt127.1 true l0_0 a0_1 l0_2 bt123.1 bt123.2.1)))))))) = some r := H
    have A6 := Aside0.mk A60
    clear A60
    replace H := Option.bind_eq_some_iff.mp H
    obtain ⟨t111, A70, H⟩ := H
    replace H : ((peel_Best.f l0_0 a0_1 l0_2).bind fun bt114 => ((luciferlaw01_drawn.f k l0_0 a0_1 l0_2 l2).bind fun t118 => ((peel_Sure.f l0_0 a0_1 l0_2 t118).bind fun bt121 => ((peel_Whole.f l0_0 a0_1 l0_2 t118).bind fun bt123 => ((peel_Hope.f l0_0 a0_1 l0_2).bind fun bt127 => (if bt114.2 = 0 then (if bt121.2 = 0 then (if bt123.2.2 = 0 then (if bt127.2 = 0 then ((luciferlaw01_cutting.f k l0_0 a0_1 l0_2 bt114.1).bind fun t129 => (if t129 = true then ((luciferlaw01_cutting.f k l0_0 a0_1 l0_2 t118).bind fun t130 => (if t130 = true then ((luciferlaw01_whole.f k l0_0 a0_1 l0_2 t111 bt114.1).bind fun t131 => (luciferlaw01_PeelTrue.j0 k t111 bt114.1 t118 bt121.1 bt127.1 (t131 != (bt114.1.length : Int)) l0_0 a0_1 l0_2 bt123.1 bt123.2.1)) else (luciferlaw01_PeelTrue.j0 k t111 bt114.1 t118 bt121.1 bt127.1 true l0_0 a0_1 l0_2 bt123.1 bt123.2.1))) else (luciferlaw01_PeelTrue.j0 k t111 bt114.1 t118 bt121.1 bt127.1 true l0_0 a0_1 l0_2 bt123.1 bt123.2.1))) else (luciferlaw01_PeelTrue.j0 k t111 bt114.1 t118 bt121.1 bt127.1 true l0_0 a0_1 l0_2 bt123.1 bt123.2.1)) else (luciferlaw01_PeelTrue.j0 k t111 bt114.1 t118 bt121.1 bt127.1 true l0_0 a0_1 l0_2 bt123.1 bt123.2.1)) else (luciferlaw01_PeelTrue.j0 k t111 bt114.1 t118 bt121.1 bt127.1 true l0_0 a0_1 l0_2 bt123.1 bt123.2.1)) else (luciferlaw01_PeelTrue.j0 k t111 bt114.1 t118 bt121.1 bt127.1 true l0_0 a0_1 l0_2 bt123.1 bt123.2.1))))))) = some r := H
    have A7 := Aside0.mk A70
    clear A70
    replace H := Option.bind_eq_some_iff.mp H
    obtain ⟨⟨t114, t117⟩, A80, H⟩ := H
    replace H : ((luciferlaw01_drawn.f k l0_0 a0_1 l0_2 l2).bind fun t118 => ((peel_Sure.f l0_0 a0_1 l0_2 t118).bind fun bt121 => ((peel_Whole.f l0_0 a0_1 l0_2 t118).bind fun bt123 => ((peel_Hope.f l0_0 a0_1 l0_2).bind fun bt127 => (if t117 = 0 then (if bt121.2 = 0 then (if bt123.2.2 = 0 then (if bt127.2 = 0 then ((luciferlaw01_cutting.f k l0_0 a0_1 l0_2 t114).bind fun t129 => (if t129 = true then ((luciferlaw01_cutting.f k l0_0 a0_1 l0_2 t118).bind fun t130 => (if t130 = true then ((luciferlaw01_whole.f k l0_0 a0_1 l0_2 t111 t114).bind fun t131 => (luciferlaw01_PeelTrue.j0 k t111 t114 t118 bt121.1 bt127.1 (t131 != (t114.length : Int)) l0_0 a0_1 l0_2 bt123.1 bt123.2.1)) else (luciferlaw01_PeelTrue.j0 k t111 t114 t118 bt121.1 bt127.1 true l0_0 a0_1 l0_2 bt123.1 bt123.2.1))) else (luciferlaw01_PeelTrue.j0 k t111 t114 t118 bt121.1 bt127.1 true l0_0 a0_1 l0_2 bt123.1 bt123.2.1))) else (luciferlaw01_PeelTrue.j0 k t111 t114 t118 bt121.1 bt127.1 true l0_0 a0_1 l0_2 bt123.1 bt123.2.1)) else (luciferlaw01_PeelTrue.j0 k t111 t114 t118 bt121.1 bt127.1 true l0_0 a0_1 l0_2 bt123.1 bt123.2.1)) else (luciferlaw01_PeelTrue.j0 k t111 t114 t118 bt121.1 bt127.1 true l0_0 a0_1 l0_2 bt123.1 bt123.2.1)) else (luciferlaw01_PeelTrue.j0 k t111 t114 t118 bt121.1 bt127.1 true l0_0 a0_1 l0_2 bt123.1 bt123.2.1)))))) = some r := H
    have A8 := Aside0.mk A80
    clear A80
    replace H := Option.bind_eq_some_iff.mp H
    obtain ⟨t118, A90, H⟩ := H
    replace H : ((peel_Sure.f l0_0 a0_1 l0_2 t118).bind fun bt121 => ((peel_Whole.f l0_0 a0_1 l0_2 t118).bind fun bt123 => ((peel_Hope.f l0_0 a0_1 l0_2).bind fun bt127 => (if t117 = 0 then (if bt121.2 = 0 then (if bt123.2.2 = 0 then (if bt127.2 = 0 then ((luciferlaw01_cutting.f k l0_0 a0_1 l0_2 t114).bind fun t129 => (if t129 = true then ((luciferlaw01_cutting.f k l0_0 a0_1 l0_2 t118).bind fun t130 => (if t130 = true then ((luciferlaw01_whole.f k l0_0 a0_1 l0_2 t111 t114).bind fun t131 => (luciferlaw01_PeelTrue.j0 k t111 t114 t118 bt121.1 bt127.1 (t131 != (t114.length : Int)) l0_0 a0_1 l0_2 bt123.1 bt123.2.1)) else (luciferlaw01_PeelTrue.j0 k t111 t114 t118 bt121.1 bt127.1 true l0_0 a0_1 l0_2 bt123.1 bt123.2.1))) else (luciferlaw01_PeelTrue.j0 k t111 t114 t118 bt121.1 bt127.1 true l0_0 a0_1 l0_2 bt123.1 bt123.2.1))) else (luciferlaw01_PeelTrue.j0 k t111 t114 t118 bt121.1 bt127.1 true l0_0 a0_1 l0_2 bt123.1 bt123.2.1)) else (luciferlaw01_PeelTrue.j0 k t111 t114 t118 bt121.1 bt127.1 true l0_0 a0_1 l0_2 bt123.1 bt123.2.1)) else (luciferlaw01_PeelTrue.j0 k t111 t114 t118 bt121.1 bt127.1 true l0_0 a0_1 l0_2 bt123.1 bt123.2.1)) else (luciferlaw01_PeelTrue.j0 k t111 t114 t118 bt121.1 bt127.1 true l0_0 a0_1 l0_2 bt123.1 bt123.2.1))))) = some r := H
    have A9 := Aside0.mk A90
    clear A90
    replace H := Option.bind_eq_some_iff.mp H
    obtain ⟨⟨t121, t122⟩, A100, H⟩ := H
    replace H : ((peel_Whole.f l0_0 a0_1 l0_2 t118).bind fun bt123 => ((peel_Hope.f l0_0 a0_1 l0_2).bind fun bt127 => (if t117 = 0 then (if t122 = 0 then (if bt123.2.2 = 0 then (if bt127.2 = 0 then ((luciferlaw01_cutting.f k l0_0 a0_1 l0_2 t114).bind fun t129 => (if t129 = true then ((luciferlaw01_cutting.f k l0_0 a0_1 l0_2 t118).bind fun t130 => (if t130 = true then ((luciferlaw01_whole.f k l0_0 a0_1 l0_2 t111 t114).bind fun t131 => (luciferlaw01_PeelTrue.j0 k t111 t114 t118 t121 bt127.1 (t131 != (t114.length : Int)) l0_0 a0_1 l0_2 bt123.1 bt123.2.1)) else (luciferlaw01_PeelTrue.j0 k t111 t114 t118 t121 bt127.1 true l0_0 a0_1 l0_2 bt123.1 bt123.2.1))) else (luciferlaw01_PeelTrue.j0 k t111 t114 t118 t121 bt127.1 true l0_0 a0_1 l0_2 bt123.1 bt123.2.1))) else (luciferlaw01_PeelTrue.j0 k t111 t114 t118 t121 bt127.1 true l0_0 a0_1 l0_2 bt123.1 bt123.2.1)) else (luciferlaw01_PeelTrue.j0 k t111 t114 t118 t121 bt127.1 true l0_0 a0_1 l0_2 bt123.1 bt123.2.1)) else (luciferlaw01_PeelTrue.j0 k t111 t114 t118 t121 bt127.1 true l0_0 a0_1 l0_2 bt123.1 bt123.2.1)) else (luciferlaw01_PeelTrue.j0 k t111 t114 t118 t121 bt127.1 true l0_0 a0_1 l0_2 bt123.1 bt123.2.1)))) = some r := H
    have A10 := Aside0.mk A100
    clear A100
    replace H := Option.bind_eq_some_iff.mp H
    obtain ⟨⟨t123, t124, t125⟩, A110, H⟩ := H
    replace H : ((peel_Hope.f l0_0 a0_1 l0_2).bind fun bt127 => (if t117 = 0 then (if t122 = 0 then (if t125 = 0 then (if bt127.2 = 0 then ((luciferlaw01_cutting.f k l0_0 a0_1 l0_2 t114).bind fun t129 => (if t129 = true then ((luciferlaw01_cutting.f k l0_0 a0_1 l0_2 t118).bind fun t130 => (if t130 = true then ((luciferlaw01_whole.f k l0_0 a0_1 l0_2 t111 t114).bind fun t131 => (luciferlaw01_PeelTrue.j0 k t111 t114 t118 t121 bt127.1 (t131 != (t114.length : Int)) l0_0 a0_1 l0_2 t123 t124)) else (luciferlaw01_PeelTrue.j0 k t111 t114 t118 t121 bt127.1 true l0_0 a0_1 l0_2 t123 t124))) else (luciferlaw01_PeelTrue.j0 k t111 t114 t118 t121 bt127.1 true l0_0 a0_1 l0_2 t123 t124))) else (luciferlaw01_PeelTrue.j0 k t111 t114 t118 t121 bt127.1 true l0_0 a0_1 l0_2 t123 t124)) else (luciferlaw01_PeelTrue.j0 k t111 t114 t118 t121 bt127.1 true l0_0 a0_1 l0_2 t123 t124)) else (luciferlaw01_PeelTrue.j0 k t111 t114 t118 t121 bt127.1 true l0_0 a0_1 l0_2 t123 t124)) else (luciferlaw01_PeelTrue.j0 k t111 t114 t118 t121 bt127.1 true l0_0 a0_1 l0_2 t123 t124))) = some r := H
    have A11 := Aside0.mk A110
    clear A110
    replace H := Option.bind_eq_some_iff.mp H
    obtain ⟨⟨t127, t128⟩, A120, H⟩ := H
    replace H : (if t117 = 0 then (if t122 = 0 then (if t125 = 0 then (if t128 = 0 then ((luciferlaw01_cutting.f k l0_0 a0_1 l0_2 t114).bind fun t129 => (if t129 = true then ((luciferlaw01_cutting.f k l0_0 a0_1 l0_2 t118).bind fun t130 => (if t130 = true then ((luciferlaw01_whole.f k l0_0 a0_1 l0_2 t111 t114).bind fun t131 => (luciferlaw01_PeelTrue.j0 k t111 t114 t118 t121 t127 (t131 != (t114.length : Int)) l0_0 a0_1 l0_2 t123 t124)) else (luciferlaw01_PeelTrue.j0 k t111 t114 t118 t121 t127 true l0_0 a0_1 l0_2 t123 t124))) else (luciferlaw01_PeelTrue.j0 k t111 t114 t118 t121 t127 true l0_0 a0_1 l0_2 t123 t124))) else (luciferlaw01_PeelTrue.j0 k t111 t114 t118 t121 t127 true l0_0 a0_1 l0_2 t123 t124)) else (luciferlaw01_PeelTrue.j0 k t111 t114 t118 t121 t127 true l0_0 a0_1 l0_2 t123 t124)) else (luciferlaw01_PeelTrue.j0 k t111 t114 t118 t121 t127 true l0_0 a0_1 l0_2 t123 t124)) else (luciferlaw01_PeelTrue.j0 k t111 t114 t118 t121 t127 true l0_0 a0_1 l0_2 t123 t124)) = some r := H
    have A12 := Aside0.mk A120
    clear A120
    have HC13 := Aside0.mk H
    clear H
    go_enter Tryd.func6, Tryd.ntmps6
    go_upto_region 9 with (first | ((with_reducible refine gate_dst (N := 3) rfl ?_); refine box_event ?hg (N := 3) ?hd (cs := #[.slice A0_0 l0_0.length c0_0, .int .i64 a0_1, .slice A0_2 l0_2.length c0_2]) (t := 25) ?hr ?_; (case hd => rfl); (case hg => rfl); (case hr => first | (go_simp; done) | (go_simp; rfl)); intro gb101 hg w14 hbox hb; have n0_ := Aside0.mk (below_step (B_) hb); have n1_ := Aside0.mk (hbox); have n2_ := Aside0.mk ((by rw [hg]; exact (below_size (B_)) : w.heap.size ≤ gb101)); have n3_ := Aside0.mk ((by rw [hg]; exact (below_size (B_)) : w.heap.size ≤ gb101)); clear HB; have HB := n0_; have BK101 := n1_; have GW101 := n2_; have GE101 := n3_; clear n0_ n1_ n2_ n3_; clear hb hbox hg; obtain ⟨hcz15_0, hcz15_1, hcz15_2, hfz15_0, hfz15_1, hfz15_2⟩ := cz3 BK101) | ((with_reducible refine gate_callee (f := 39) rfl ?_); refine goesL_ (some 19) rfl rfl Tryd.func39 (by kernel_rfl) rfl #[.agg #[.slice A0_0 l0_0.length c0_0, .int .i64 a0_1, .slice A0_2 l0_2.length c0_2]] rfl (by (try simp only [List.map_toArray, List.map_cons, List.map_nil]); first | done | rfl | (simp only [List.length_drop, List.length_take]; rfl)) ?_; (with_reducible refine (luciferlaw01_sound.calls k _ _ l0_0 a0_1 _ _ l0_2 true _ ?side1 ?side2 ?side3 ?side4 A4.out).mono ?_); (case side1 => exact C_ HR0_0); (case side2 => exact HC0_0.out); (case side3 => exact C_ HR0_2); (case side4 => exact HC0_2.out); rintro e w16 ⟨rfl, hb⟩; refine ⟨_, rfl, ?_⟩; have n0_ := Aside0.mk (blk_below (g := gb101) (o := .cells #[.slice A0_0 l0_0.length c0_0, .int .i64 a0_1, .slice A0_2 l0_2.length c0_2] 25 (0, 0)) (K_ BK101) hb); have n1_ := Aside0.mk (below_step (B_) hb); clear BK101; clear HB; have BK101 := n0_; have HB := n1_; clear n0_ n1_; (try clear hb); (try clear hb2); (try clear hk); (try clear hi); obtain ⟨hcz17_0, hcz17_1, hcz17_2, hfz17_0, hfz17_1, hfz17_2⟩ := cz3 BK101) | ((with_reducible refine gate_callee (f := 41) rfl ?_); refine goesL_ (some 24) rfl rfl Tryd.func41 (by kernel_rfl) rfl #[.agg #[.slice A0_0 l0_0.length c0_0, .int .i64 a0_1, .slice A0_2 l0_2.length c0_2], .slice A1 l1.length c1] rfl (by (try simp only [List.map_toArray, List.map_cons, List.map_nil]); first | done | rfl | (simp only [List.length_drop, List.length_take]; rfl)) ?_; (with_reducible refine (luciferlaw01_truly.calls k (fun k_ => k_ < w.heap.size) _ _ l0_0 a0_1 _ _ l0_2 _ _ l1 t104 t107 t108 _ ?side1 ?side2 ?side3 ?side4 ?side5 A6.out).mono ?_); (case side1 => exact Kd.V_mk HC0_0.out (Kd.F_below (Kd.C_F (Kd.heap_int .i64) HR0_0.out) (B_))); (case side2 => exact C_ HR0_2); (case side3 => exact HC0_2.out); (case side4 => exact C_ HR1); (case side5 => exact HC1.out); rintro e w18 ⟨v105, v109, rfl, ho0, ho1, hb⟩; refine ⟨_, rfl, ?_⟩; have n0_ := Aside0.mk (Kd.V_lower (Kd.V_mono (ok' := fun k_ => some k_ ≠ (v109 : Value).ownBlock ∧ k_ ≠ gb101) ho0 (fun k_ hk_ => ⟨hk_.2, Or.elim hk_.1 (fun hs_ => fun e_ => Nat.not_le.2 hs_ (by rw [e_]; exact GW101.out)) (fun hn_ => (Kd.freshB (g := gb101) (o := .cells #[.slice A0_0 l0_0.length c0_0, .int .i64 a0_1, .slice A0_2 l0_2.length c0_2] 25 (0, 0)) (K_ BK101) k_ hn_))⟩)) (below_size (B_))); have n1_ := Aside0.mk (Kd.R_lower (Kd.R_mono (ok' := fun k_ => True) ho1 (fun _ hk_ => trivial)) (below_size (B_))); have n2_ := Aside0.mk (blk_below (g := gb101) (o := .cells #[.slice A0_0 l0_0.length c0_0, .int .i64 a0_1, .slice A0_2 l0_2.length c0_2] 25 (0, 0)) (K_ BK101) hb); have n3_ := Aside0.mk (below_step (B_) hb); clear BK101; clear HB; have HO106 := n0_; have HO110 := n1_; have BK101 := n2_; have HB := n3_; clear n0_ n1_ n2_ n3_; (try clear hb); (try clear hb2); (try clear hk); (try clear hi); (try clear ho0); (try clear ho1); obtain ⟨Ao19, co19, eo19⟩ := Kd.V_slice HO106.out; subst eo19; obtain ⟨Ao20, co20, eo20⟩ := Kd.R_slice HO110.out; subst eo20) | ((with_reducible refine gate_callee (f := 40) rfl ?_); refine goesL_ (some 25) rfl rfl Tryd.func40 (by kernel_rfl) rfl #[.agg #[.slice Ao19 t104.length co19, .int .i64 t107, .slice Ao20 t108.length co20]] rfl (by (try simp only [List.map_toArray, List.map_cons, List.map_nil]); first | done | rfl | (simp only [List.length_drop, List.length_take]; rfl)) ?_; (with_reducible refine (luciferlaw01_knots.calls k _ _ t104 t107 _ _ t108 t111 _ ?side1 ?side2 ?side3 ?side4 A7.out).mono ?_); (case side1 => repeat (first | exact (Kd.V_reads' HO106.out).2.2 | (with_reducible refine Kd.C_alloc ?_ _) | (with_reducible refine Kd.C_drewN ?_ _) | (with_reducible refine Kd.C_drew ?_))); (case side2 => exact (Kd.V_reads' HO106.out).2.1); (case side3 => repeat (first | exact (Kd.R_reads' HO110.out).2.2 | (with_reducible refine Kd.C_alloc ?_ _) | (with_reducible refine Kd.C_drewN ?_ _) | (with_reducible refine Kd.C_drew ?_))); (case side4 => exact (Kd.R_reads' HO110.out).2.1); rintro e w21 ⟨v112, rfl, ho0, hb⟩; refine ⟨_, rfl, ?_⟩; have n0_ := Aside0.mk (Kd.V_elder' (by (with_reducible repeat (first | apply Kd.V_alloc | apply Kd.V_drewN | apply Kd.V_drew)); exact HO106.out) (Kd.R_base ho0) hb); have n1_ := Aside0.mk (Kd.R_below (R_ HO110) hb); have n2_ := Aside0.mk (Kd.R_lower ho0 (below_size (B_))); have n3_ := Aside0.mk (blk_below (g := gb101) (o := .cells #[.slice A0_0 l0_0.length c0_0, .int .i64 a0_1, .slice A0_2 l0_2.length c0_2] 25 (0, 0)) (K_ BK101) hb); have n4_ := Aside0.mk (below_step (B_) hb); clear HO106; clear HO110; clear BK101; clear HB; have HO106 := n0_; have HO110 := n1_; have HO113 := n2_; have BK101 := n3_; have HB := n4_; clear n0_ n1_ n2_ n3_ n4_; (try clear hb); (try clear hb2); (try clear hk); (try clear hi); (try clear ho0); obtain ⟨hcz22_0, hcz22_1, hcz22_2, hfz22_0, hfz22_1, hfz22_2⟩ := cz3 BK101) | ((with_reducible refine gate_callee (f := 30) rfl ?_); refine goesL_ (some 28) rfl rfl Tryd.func30 (by kernel_rfl) rfl #[.agg #[.slice A0_0 l0_0.length c0_0, .int .i64 a0_1, .slice A0_2 l0_2.length c0_2]] rfl (by (try simp only [List.map_toArray, List.map_cons, List.map_nil]); first | done | rfl | (simp only [List.length_drop, List.length_take]; rfl)) ?_; (with_reducible refine (peel_Best.calls _ _ l0_0 a0_1 _ _ l0_2 t114 t117 _ ?side1 ?side2 ?side3 ?side4 ?side5 A8.out).mono ?_); (case side1 => exact C_ HR0_0); (case side2 => exact HC0_0.out); (case side3 => exact C_ HR0_2); (case side4 => exact HC0_2.out); (case side5 => exact Go.Proofs.YtigofgdmefobaaaDoor.Peel.EndsAt.below HE.out (B_)); rintro e w23 ⟨v115, rfl, ho0, hb⟩; refine ⟨_, rfl, ?_⟩; have n0_ := Aside0.mk (Kd.V_below (by (with_reducible repeat (first | apply Kd.V_alloc | apply Kd.V_drewN | apply Kd.V_drew)); exact HO106.out) hb); have n1_ := Aside0.mk (Kd.R_below (R_ HO110) hb); have n2_ := Aside0.mk (Kd.R_below (R_ HO113) hb); have n3_ := Aside0.mk (Kd.V_lower (Kd.V_mono (ok' := fun k_ => some k_ ≠ (.slice Ao20 t108.length co20 : Value).ownBlock ∧ some k_ ≠ (v112 : Value).ownBlock ∧ k_ ≠ gb101) ho0 (fun k_ hk_ => ⟨(Kd.fresh' (Kd.R_lt (R_ HO110)) k_ hk_), (Kd.fresh' (Kd.R_lt (R_ HO113)) k_ hk_), (Kd.freshB (g := gb101) (o := .cells #[.slice A0_0 l0_0.length c0_0, .int .i64 a0_1, .slice A0_2 l0_2.length c0_2] 25 (0, 0)) (K_ BK101) k_ hk_)⟩)) (below_size (B_))); have n4_ := Aside0.mk (blk_below (g := gb101) (o := .cells #[.slice A0_0 l0_0.length c0_0, .int .i64 a0_1, .slice A0_2 l0_2.length c0_2] 25 (0, 0)) (K_ BK101) hb); have n5_ := Aside0.mk (below_step (B_) hb); clear HO106; clear HO110; clear HO113; clear BK101; clear HB; have HO106 := n0_; have HO110 := n1_; have HO113 := n2_; have HO116 := n3_; have BK101 := n4_; have HB := n5_; clear n0_ n1_ n2_ n3_ n4_ n5_; (try clear hb); (try clear hb2); (try clear hk); (try clear hi); (try clear ho0); obtain ⟨hcz24_0, hcz24_1, hcz24_2, hfz24_0, hfz24_1, hfz24_2⟩ := cz3 BK101) | ((with_reducible refine gate_callee (f := 42) rfl ?_); refine goesL_ (some 33) rfl rfl Tryd.func42 (by kernel_rfl) rfl #[.agg #[.slice A0_0 l0_0.length c0_0, .int .i64 a0_1, .slice A0_2 l0_2.length c0_2], .slice A2 l2.length c2] rfl (by (try simp only [List.map_toArray, List.map_cons, List.map_nil]); first | done | rfl | (simp only [List.length_drop, List.length_take]; rfl)) ?_; (with_reducible refine (luciferlaw01_drawn.calls k _ _ l0_0 a0_1 _ _ l0_2 _ _ l2 t118 _ ?side1 ?side2 ?side3 ?side4 ?side5 ?side6 A9.out).mono ?_); (case side1 => exact C_ HR0_0); (case side2 => exact HC0_0.out); (case side3 => exact C_ HR0_2); (case side4 => exact HC0_2.out); (case side5 => exact C_ HR2); (case side6 => exact HC2.out); rintro e w25 ⟨v119, rfl, ho0, hb⟩; refine ⟨_, rfl, ?_⟩; have n0_ := Aside0.mk (Kd.V_elder' (by (with_reducible repeat (first | apply Kd.V_alloc | apply Kd.V_drewN | apply Kd.V_drew)); exact HO106.out) (Kd.R_base ho0) hb); have n1_ := Aside0.mk (Kd.R_below (R_ HO110) hb); have n2_ := Aside0.mk (Kd.R_below (R_ HO113) hb); have n3_ := Aside0.mk (Kd.V_elder' (by (with_reducible repeat (first | apply Kd.V_alloc | apply Kd.V_drewN | apply Kd.V_drew)); exact HO116.out) (Kd.R_base ho0) hb); have n4_ := Aside0.mk (Kd.R_lower ho0 (below_size (B_))); have n5_ := Aside0.mk (blk_below (g := gb101) (o := .cells #[.slice A0_0 l0_0.length c0_0, .int .i64 a0_1, .slice A0_2 l0_2.length c0_2] 25 (0, 0)) (K_ BK101) hb); have n6_ := Aside0.mk (below_step (B_) hb); clear HO106; clear HO110; clear HO113; clear HO116; clear BK101; clear HB; have HO106 := n0_; have HO110 := n1_; have HO113 := n2_; have HO116 := n3_; have HO120 := n4_; have BK101 := n5_; have HB := n6_; clear n0_ n1_ n2_ n3_ n4_ n5_ n6_; (try clear hb); (try clear hb2); (try clear hk); (try clear hi); (try clear ho0); obtain ⟨hcz26_0, hcz26_1, hcz26_2, hfz26_0, hfz26_1, hfz26_2⟩ := cz3 BK101; obtain ⟨Ao27, co27, eo27⟩ := Kd.R_slice HO120.out; subst eo27) | ((with_reducible refine gate_callee (f := 26) rfl ?_); refine goesL_ (some 37) rfl rfl Tryd.func26 (by kernel_rfl) rfl #[.agg #[.slice A0_0 l0_0.length c0_0, .int .i64 a0_1, .slice A0_2 l0_2.length c0_2], .slice Ao27 t118.length co27] rfl (by (try simp only [List.map_toArray, List.map_cons, List.map_nil]); first | done | rfl | (simp only [List.length_drop, List.length_take]; rfl)) ?_; (with_reducible refine (peel_Sure.calls _ _ l0_0 a0_1 _ _ l0_2 _ _ t118 t121 t122 _ ?side1 ?side2 ?side3 ?side4 ?side5 ?side6 ?side7 A10.out).mono ?_); (case side1 => exact C_ HR0_0); (case side2 => exact HC0_0.out); (case side3 => exact C_ HR0_2); (case side4 => exact HC0_2.out); (case side5 => repeat (first | exact (Kd.R_reads' HO120.out).2.2 | (with_reducible refine Kd.C_alloc ?_ _) | (with_reducible refine Kd.C_drewN ?_ _) | (with_reducible refine Kd.C_drew ?_))); (case side6 => exact (Kd.R_reads' HO120.out).2.1); (case side7 => exact Go.Proofs.YtigofgdmefobaaaDoor.Peel.EndsAt.below HE.out (B_)); rintro e w28 ⟨rfl, hb⟩; refine ⟨_, rfl, ?_⟩; have n0_ := Aside0.mk (Kd.V_below (by (with_reducible repeat (first | apply Kd.V_alloc | apply Kd.V_drewN | apply Kd.V_drew)); exact HO106.out) hb); have n1_ := Aside0.mk (Kd.R_below (R_ HO110) hb); have n2_ := Aside0.mk (Kd.R_below (R_ HO113) hb); have n3_ := Aside0.mk (Kd.V_below (by (with_reducible repeat (first | apply Kd.V_alloc | apply Kd.V_drewN | apply Kd.V_drew)); exact HO116.out) hb); have n4_ := Aside0.mk (Kd.R_below (R_ HO120) hb); have n5_ := Aside0.mk (blk_below (g := gb101) (o := .cells #[.slice A0_0 l0_0.length c0_0, .int .i64 a0_1, .slice A0_2 l0_2.length c0_2] 25 (0, 0)) (K_ BK101) hb); have n6_ := Aside0.mk (below_step (B_) hb); clear HO106; clear HO110; clear HO113; clear HO116; clear HO120; clear BK101; clear HB; have HO106 := n0_; have HO110 := n1_; have HO113 := n2_; have HO116 := n3_; have HO120 := n4_; have BK101 := n5_; have HB := n6_; clear n0_ n1_ n2_ n3_ n4_ n5_ n6_; (try clear hb); (try clear hb2); (try clear hk); (try clear hi); obtain ⟨hcz29_0, hcz29_1, hcz29_2, hfz29_0, hfz29_1, hfz29_2⟩ := cz3 BK101) | ((with_reducible refine gate_callee (f := 28) rfl ?_); refine goesL_ (some 43) rfl rfl Tryd.func28 (by kernel_rfl) rfl #[.agg #[.slice A0_0 l0_0.length c0_0, .int .i64 a0_1, .slice A0_2 l0_2.length c0_2], .slice Ao27 t118.length co27] rfl (by (try simp only [List.map_toArray, List.map_cons, List.map_nil]); first | done | rfl | (simp only [List.length_drop, List.length_take]; rfl)) ?_; (with_reducible refine (peel_Whole.calls _ _ l0_0 a0_1 _ _ l0_2 _ _ t118 t123 t124 t125 _ ?side1 ?side2 ?side3 ?side4 ?side5 ?side6 ?side7 A11.out).mono ?_); (case side1 => exact C_ HR0_0); (case side2 => exact HC0_0.out); (case side3 => exact C_ HR0_2); (case side4 => exact HC0_2.out); (case side5 => repeat (first | exact (Kd.R_reads' HO120.out).2.2 | (with_reducible refine Kd.C_alloc ?_ _) | (with_reducible refine Kd.C_drewN ?_ _) | (with_reducible refine Kd.C_drew ?_))); (case side6 => exact (Kd.R_reads' HO120.out).2.1); (case side7 => exact Go.Proofs.YtigofgdmefobaaaDoor.Peel.EndsAt.below HE.out (B_)); rintro e w30 ⟨rfl, hb⟩; refine ⟨_, rfl, ?_⟩; have n0_ := Aside0.mk (Kd.V_below (by (with_reducible repeat (first | apply Kd.V_alloc | apply Kd.V_drewN | apply Kd.V_drew)); exact HO106.out) hb); have n1_ := Aside0.mk (Kd.R_below (R_ HO110) hb); have n2_ := Aside0.mk (Kd.R_below (R_ HO113) hb); have n3_ := Aside0.mk (Kd.V_below (by (with_reducible repeat (first | apply Kd.V_alloc | apply Kd.V_drewN | apply Kd.V_drew)); exact HO116.out) hb); have n4_ := Aside0.mk (Kd.R_below (R_ HO120) hb); have n5_ := Aside0.mk (blk_below (g := gb101) (o := .cells #[.slice A0_0 l0_0.length c0_0, .int .i64 a0_1, .slice A0_2 l0_2.length c0_2] 25 (0, 0)) (K_ BK101) hb); have n6_ := Aside0.mk (below_step (B_) hb); clear HO106; clear HO110; clear HO113; clear HO116; clear HO120; clear BK101; clear HB; have HO106 := n0_; have HO110 := n1_; have HO113 := n2_; have HO116 := n3_; have HO120 := n4_; have BK101 := n5_; have HB := n6_; clear n0_ n1_ n2_ n3_ n4_ n5_ n6_; (try clear hb); (try clear hb2); (try clear hk); (try clear hi)) | ((with_reducible refine gate_dst (N := 13) rfl ?_); refine box_event ?hg (N := 13) ?hd (cs := #[.int .i64 0, .int .i64 0]) (t := 39) ?hr ?_; (case hd => rfl); (case hg => rfl); (case hr => first | (go_simp; done) | (go_simp; rfl)); intro gb126 hg w31 hbox hb; have n0_ := Aside0.mk (Kd.V_below (Kd.V_elderB (by (with_reducible repeat (first | apply Kd.V_alloc | apply Kd.V_drewN | apply Kd.V_drew)); exact HO106.out) gb126 (Nat.le_of_eq hg.symm)) hb); have n1_ := Aside0.mk (Kd.R_below (R_ HO110) hb); have n2_ := Aside0.mk (Kd.R_below (R_ HO113) hb); have n3_ := Aside0.mk (Kd.V_below (Kd.V_elderB (by (with_reducible repeat (first | apply Kd.V_alloc | apply Kd.V_drewN | apply Kd.V_drew)); exact HO116.out) gb126 (Nat.le_of_eq hg.symm)) hb); have n4_ := Aside0.mk (Kd.R_below (R_ HO120) hb); have n5_ := Aside0.mk (blk_below (g := gb101) (o := .cells #[.slice A0_0 l0_0.length c0_0, .int .i64 a0_1, .slice A0_2 l0_2.length c0_2] 25 (0, 0)) (K_ BK101) hb); have n6_ := Aside0.mk (below_step (B_) hb); have n7_ := Aside0.mk (hbox); have n8_ := Aside0.mk ((by rw [hg]; exact (below_size (B_)) : w.heap.size ≤ gb126)); have n9_ := Aside0.mk ((by rw [hg]; exact (below_size (B_)) : w.heap.size ≤ gb126)); have n10_ := Aside0.mk ((by rw [hg]; exact Nat.ne_of_lt (blk_lt (g := gb101) (o := .cells #[.slice A0_0 l0_0.length c0_0, .int .i64 a0_1, .slice A0_2 l0_2.length c0_2] 25 (0, 0)) (K_ BK101)) : gb101 ≠ gb126)); have n11_ := Aside0.mk ((by rw [hg]; exact Nat.ne_of_gt (blk_lt (g := gb101) (o := .cells #[.slice A0_0 l0_0.length c0_0, .int .i64 a0_1, .slice A0_2 l0_2.length c0_2] 25 (0, 0)) (K_ BK101)) : gb126 ≠ gb101)); clear HO106; clear HO110; clear HO113; clear HO116; clear HO120; clear BK101; clear HB; have HO106 := n0_; have HO110 := n1_; have HO113 := n2_; have HO116 := n3_; have HO120 := n4_; have BK101 := n5_; have HB := n6_; have BK126 := n7_; have GW126 := n8_; have GE126 := n9_; have NB101_126 := n10_; have NB126_101 := n11_; clear n0_ n1_ n2_ n3_ n4_ n5_ n6_ n7_ n8_ n9_ n10_ n11_; clear hb hbox hg; have hnb32 := NB126_101.out; have hnc32 := NB101_126.out; obtain ⟨hcz33_0, hcz33_1, hfz33_0, hfz33_1⟩ := cz2 BK126; obtain ⟨hcz34_0, hcz34_1, hcz34_2, hfz34_0, hfz34_1, hfz34_2⟩ := cz3 BK101) | ((with_reducible refine gate_callee (f := 35) rfl ?_); refine goesL_ (some 48) rfl rfl Tryd.func35 (by kernel_rfl) rfl #[.agg #[.slice A0_0 l0_0.length c0_0, .int .i64 a0_1, .slice A0_2 l0_2.length c0_2]] rfl (by (try simp only [List.map_toArray, List.map_cons, List.map_nil]); first | done | rfl | (simp only [List.length_drop, List.length_take]; rfl)) ?_; (with_reducible refine (peel_Hope.calls _ _ l0_0 a0_1 _ _ l0_2 t127 t128 _ ?side1 ?side2 ?side3 ?side4 ?side5 A12.out).mono ?_); (case side1 => exact Kd.C_below HR0_0.out (B_)); (case side2 => exact HC0_0.out); (case side3 => exact Kd.C_below HR0_2.out (B_)); (case side4 => exact HC0_2.out); (case side5 => exact Go.Proofs.YtigofgdmefobaaaDoor.Peel.EndsAt.below HE.out (B_)); rintro e w35 ⟨rfl, hb⟩; refine ⟨_, rfl, ?_⟩; have n0_ := Aside0.mk (Kd.V_below (by (with_reducible repeat (first | apply Kd.V_alloc | apply Kd.V_drewN | apply Kd.V_drew)); exact (Kd.V_mono (Kd.V_far (p := ⟨gb126, 1, none⟩) (Kd.V_far (p := ⟨gb126, 0, none⟩) (Kd.V_mono HO106.out (fun k_ hk => (⟨hk, hk.2⟩ : _ ∧ k_ ≠ gb126))) (fun _ hk => hk.2) (.int .i64 t123)) (fun _ hk => hk.2) (.int .i64 t124)) (fun _ h_ => h_.1))) hb); have n1_ := Aside0.mk (Kd.R_below (by (with_reducible repeat (first | apply Kd.R_alloc | apply Kd.R_drewN | apply Kd.R_drew)); exact (Kd.R_mono (Kd.R_far (p := ⟨gb126, 1, none⟩) (Kd.R_far (p := ⟨gb126, 0, none⟩) (Kd.R_types HO110.out BK126.out (by decide)) (fun _ hk => hk.2) (.int .i64 t123)) (fun _ hk => hk.2) (.int .i64 t124)) (fun _ h_ => h_.1))) hb); have n2_ := Aside0.mk (Kd.R_below (by (with_reducible repeat (first | apply Kd.R_alloc | apply Kd.R_drewN | apply Kd.R_drew)); exact (Kd.R_mono (Kd.R_far (p := ⟨gb126, 1, none⟩) (Kd.R_far (p := ⟨gb126, 0, none⟩) (Kd.R_types HO113.out BK126.out (by decide)) (fun _ hk => hk.2) (.int .i64 t123)) (fun _ hk => hk.2) (.int .i64 t124)) (fun _ h_ => h_.1))) hb); have n3_ := Aside0.mk (Kd.V_below (by (with_reducible repeat (first | apply Kd.V_alloc | apply Kd.V_drewN | apply Kd.V_drew)); exact (Kd.V_mono (Kd.V_far (p := ⟨gb126, 1, none⟩) (Kd.V_far (p := ⟨gb126, 0, none⟩) (Kd.V_mono HO116.out (fun k_ hk => (⟨hk, hk.2⟩ : _ ∧ k_ ≠ gb126))) (fun _ hk => hk.2) (.int .i64 t123)) (fun _ hk => hk.2) (.int .i64 t124)) (fun _ h_ => h_.1))) hb); have n4_ := Aside0.mk (Kd.R_below (by (with_reducible repeat (first | apply Kd.R_alloc | apply Kd.R_drewN | apply Kd.R_drew)); exact (Kd.R_mono (Kd.R_far (p := ⟨gb126, 1, none⟩) (Kd.R_far (p := ⟨gb126, 0, none⟩) (Kd.R_types HO120.out BK126.out (by decide)) (fun _ hk => hk.2) (.int .i64 t123)) (fun _ hk => hk.2) (.int .i64 t124)) (fun _ h_ => h_.1))) hb); have n5_ := Aside0.mk (blk_below (g := gb101) (o := .cells #[.slice A0_0 l0_0.length c0_0, .int .i64 a0_1, .slice A0_2 l0_2.length c0_2] 25 (0, 0)) (by (with_reducible repeat (first | refine blk_drewN ?_ _ | refine blk_drew ?_ | refine blk_alloc ?_ _)); refine blk_far ?_ NB101_126.out _; (with_reducible repeat (first | refine blk_drewN ?_ _ | refine blk_drew ?_ | refine blk_alloc ?_ _)); refine blk_far ?_ NB101_126.out _; (with_reducible repeat (first | refine blk_drewN ?_ _ | refine blk_drew ?_ | refine blk_alloc ?_ _)); exact BK101.out) hb); have n6_ := Aside0.mk (blk_below (g := gb126) (o := .cells #[.int .i64 t123, .int .i64 t124] 39 (0, 0)) (by (with_reducible repeat (first | refine blk_drewN ?_ _ | refine blk_drew ?_ | refine blk_alloc ?_ _)); refine blk_put (cs := #[.int .i64 t123, .int .i64 0]) ?_ 1 _ rfl; (with_reducible repeat (first | refine blk_drewN ?_ _ | refine blk_drew ?_ | refine blk_alloc ?_ _)); refine blk_put (cs := #[.int .i64 0, .int .i64 0]) ?_ 0 _ rfl; (with_reducible repeat (first | refine blk_drewN ?_ _ | refine blk_drew ?_ | refine blk_alloc ?_ _)); exact BK126.out) hb); have n7_ := Aside0.mk (below_step (B_) hb); clear HO106; clear HO110; clear HO113; clear HO116; clear HO120; clear BK101; clear BK126; clear HB; have HO106 := n0_; have HO110 := n1_; have HO113 := n2_; have HO116 := n3_; have HO120 := n4_; have BK101 := n5_; have BK126 := n6_; have HB := n7_; clear n0_ n1_ n2_ n3_ n4_ n5_ n6_ n7_; (try clear hb); (try clear hb2); (try clear hk); (try clear hi)))
    (try simp only [Act.put, List.setIfInBounds_toArray, List.set_cons_zero, List.set_cons_succ])
    go_cut [85] (fun v85 wc => ∃ (kq : Nat) (x85_12 : Bool), v85 = .bool x85_12 ∧ Aside0 (luciferlaw01_PeelTrue.j0 kq t111 t114 t118 t121 t127 x85_12 l0_0 a0_1 l0_2 t123 t124 = some r) ∧ Aside0 (kq ≤ k) ∧ Aside0 (Kd.R Kd.bool 4 wc w.heap.size (fun _ => True) v112 t111) ∧ Aside0 (Kd.V (Kd.int .i64) 3 wc w.heap.size (fun k_ => some k_ ≠ (v112 : Value).ownBlock ∧ some k_ ≠ ((.slice Ao27 t118.length co27) : Value).ownBlock ∧ k_ ≠ gb101 ∧ k_ ≠ gb126) v115 t114) ∧ Aside0 (Kd.R (Kd.int .i64) 3 wc w.heap.size (fun _ => True) (.slice Ao27 t118.length co27) t118) ∧ Aside0 (wc.heap[gb101]? = some (.cells #[(.slice A0_0 l0_0.length c0_0), .int .i64 a0_1, (.slice A0_2 l0_2.length c0_2)] 25 (0, 0))) ∧ Aside0 (wc.heap[gb126]? = some (.cells #[.int .i64 t123, .int .i64 t124] 39 (0, 0))) ∧ Aside0 (Below w.heap.size w wc))
    case first =>
      have H := HC13.out
      clear HC13
      by_cases c36 : t117 = 0
      · rw [if_pos c36] at H
        have c36b0 : (t117 == 0) = true := beq_iff_eq.mpr c36
        have c36b1 : (t117 != 0) = false := bne_eq_false_iff_eq.mpr c36
        clear c36
        (first | rw [c36b0] | (simp only [i64_w, i32_w]; rw [c36b0]) | skip)
        by_cases c37 : t122 = 0
        · rw [if_pos c37] at H
          have c37b0 : (t122 == 0) = true := beq_iff_eq.mpr c37
          have c37b1 : (t122 != 0) = false := bne_eq_false_iff_eq.mpr c37
          clear c37
          by_cases c38 : t125 = 0
          · rw [if_pos c38] at H
            have c38b0 : (t125 == 0) = true := beq_iff_eq.mpr c38
            have c38b1 : (t125 != 0) = false := bne_eq_false_iff_eq.mpr c38
            clear c38
            by_cases c39 : t128 = 0
            · rw [if_pos c39] at H
              have c39b0 : (t128 == 0) = true := beq_iff_eq.mpr c39
              have c39b1 : (t128 != 0) = false := bne_eq_false_iff_eq.mpr c39
              clear c39
              replace H := Option.bind_eq_some_iff.mp H
              obtain ⟨t129, A400, H⟩ := H
              replace H : (if t129 = true then ((luciferlaw01_cutting.f k l0_0 a0_1 l0_2 t118).bind fun t130 => (if t130 = true then ((luciferlaw01_whole.f k l0_0 a0_1 l0_2 t111 t114).bind fun t131 => (luciferlaw01_PeelTrue.j0 k t111 t114 t118 t121 t127 (t131 != (t114.length : Int)) l0_0 a0_1 l0_2 t123 t124)) else (luciferlaw01_PeelTrue.j0 k t111 t114 t118 t121 t127 true l0_0 a0_1 l0_2 t123 t124))) else (luciferlaw01_PeelTrue.j0 k t111 t114 t118 t121 t127 true l0_0 a0_1 l0_2 t123 t124)) = some r := H
              have A40 := Aside0.mk A400
              clear A400
              by_cases c41 : t129 = true
              · subst c41
                have H1 : ((luciferlaw01_cutting.f k l0_0 a0_1 l0_2 t118).bind fun t130 => (if t130 = true then ((luciferlaw01_whole.f k l0_0 a0_1 l0_2 t111 t114).bind fun t131 => (luciferlaw01_PeelTrue.j0 k t111 t114 t118 t121 t127 (t131 != (t114.length : Int)) l0_0 a0_1 l0_2 t123 t124)) else (luciferlaw01_PeelTrue.j0 k t111 t114 t118 t121 t127 true l0_0 a0_1 l0_2 t123 t124))) = some r := by rw [if_pos rfl] at H; exact H
                clear H
                have H := H1
                clear H1
                replace H := Option.bind_eq_some_iff.mp H
                obtain ⟨t130, A420, H⟩ := H
                replace H : (if t130 = true then ((luciferlaw01_whole.f k l0_0 a0_1 l0_2 t111 t114).bind fun t131 => (luciferlaw01_PeelTrue.j0 k t111 t114 t118 t121 t127 (t131 != (t114.length : Int)) l0_0 a0_1 l0_2 t123 t124)) else (luciferlaw01_PeelTrue.j0 k t111 t114 t118 t121 t127 true l0_0 a0_1 l0_2 t123 t124)) = some r := H
                have A42 := Aside0.mk A420
                clear A420
                by_cases c43 : t130 = true
                · subst c43
                  have H1 : ((luciferlaw01_whole.f k l0_0 a0_1 l0_2 t111 t114).bind fun t131 => (luciferlaw01_PeelTrue.j0 k t111 t114 t118 t121 t127 (t131 != (t114.length : Int)) l0_0 a0_1 l0_2 t123 t124)) = some r := by rw [if_pos rfl] at H; exact H
                  clear H
                  have H := H1
                  clear H1
                  replace H := Option.bind_eq_some_iff.mp H
                  obtain ⟨t131, A440, H⟩ := H
                  replace H : (luciferlaw01_PeelTrue.j0 k t111 t114 t118 t121 t127 (t131 != (t114.length : Int)) l0_0 a0_1 l0_2 t123 t124) = some r := H
                  have A44 := Aside0.mk A440
                  clear A440
                  have H' := Aside0.mk H
                  clear H
                  have hnb45 := NB101_126.out
                  have hnc45 := NB126_101.out
                  obtain ⟨hcz46_0, hcz46_1, hcz46_2, hfz46_0, hfz46_1, hfz46_2⟩ := cz3 BK101
                  obtain ⟨Ao47, co47, eo47⟩ := Kd.V_slice HO116.out
                  subst eo47
                  go_wp2_with (first | (go_at_call 43; (with_reducible refine (luciferlaw01_cutting.calls k _ _ l0_0 a0_1 _ _ l0_2 _ _ t114 true _ ?side1 ?side2 ?side3 ?side4 ?side5 ?side6 A40.out).mono ?_); (case side1 => exact C_ HR0_0); (case side2 => exact HC0_0.out); (case side3 => exact C_ HR0_2); (case side4 => exact HC0_2.out); (case side5 => repeat (first | exact (Kd.V_reads' HO116.out).2.2 | (with_reducible refine Kd.C_alloc ?_ _) | (with_reducible refine Kd.C_drewN ?_ _) | (with_reducible refine Kd.C_drew ?_))); (case side6 => exact (Kd.V_reads' HO116.out).2.1); rintro e w48 ⟨rfl, hb⟩; have n0_ := Aside0.mk (Kd.V_below (by (with_reducible repeat (first | apply Kd.V_alloc | apply Kd.V_drewN | apply Kd.V_drew)); exact HO106.out) hb); have n1_ := Aside0.mk (Kd.R_below (R_ HO110) hb); have n2_ := Aside0.mk (Kd.R_below (R_ HO113) hb); have n3_ := Aside0.mk (Kd.V_below (by (with_reducible repeat (first | apply Kd.V_alloc | apply Kd.V_drewN | apply Kd.V_drew)); exact HO116.out) hb); have n4_ := Aside0.mk (Kd.R_below (R_ HO120) hb); have n5_ := Aside0.mk (blk_below (g := gb101) (o := .cells #[.slice A0_0 l0_0.length c0_0, .int .i64 a0_1, .slice A0_2 l0_2.length c0_2] 25 (0, 0)) (K_ BK101) hb); have n6_ := Aside0.mk (blk_below (g := gb126) (o := .cells #[.int .i64 t123, .int .i64 t124] 39 (0, 0)) (K_ BK126) hb); have n7_ := Aside0.mk (below_step (B_) hb); clear HO106; clear HO110; clear HO113; clear HO116; clear HO120; clear BK101; clear BK126; clear HB; have HO106 := n0_; have HO110 := n1_; have HO113 := n2_; have HO116 := n3_; have HO120 := n4_; have BK101 := n5_; have BK126 := n6_; have HB := n7_; clear n0_ n1_ n2_ n3_ n4_ n5_ n6_ n7_; (try clear hb); (try clear hb2); (try clear hk); (try clear hi); obtain ⟨hcz49_0, hcz49_1, hcz49_2, hfz49_0, hfz49_1, hfz49_2⟩ := cz3 BK101) | (go_at_call 43; (with_reducible refine (luciferlaw01_cutting.calls k _ _ l0_0 a0_1 _ _ l0_2 _ _ t118 true _ ?side1 ?side2 ?side3 ?side4 ?side5 ?side6 A42.out).mono ?_); (case side1 => exact C_ HR0_0); (case side2 => exact HC0_0.out); (case side3 => exact C_ HR0_2); (case side4 => exact HC0_2.out); (case side5 => repeat (first | exact (Kd.R_reads' HO120.out).2.2 | (with_reducible refine Kd.C_alloc ?_ _) | (with_reducible refine Kd.C_drewN ?_ _) | (with_reducible refine Kd.C_drew ?_))); (case side6 => exact (Kd.R_reads' HO120.out).2.1); rintro e w50 ⟨rfl, hb⟩; have n0_ := Aside0.mk (Kd.V_below (by (with_reducible repeat (first | apply Kd.V_alloc | apply Kd.V_drewN | apply Kd.V_drew)); exact HO106.out) hb); have n1_ := Aside0.mk (Kd.R_below (R_ HO110) hb); have n2_ := Aside0.mk (Kd.R_below (R_ HO113) hb); have n3_ := Aside0.mk (Kd.V_below (by (with_reducible repeat (first | apply Kd.V_alloc | apply Kd.V_drewN | apply Kd.V_drew)); exact HO116.out) hb); have n4_ := Aside0.mk (Kd.R_below (R_ HO120) hb); have n5_ := Aside0.mk (blk_below (g := gb101) (o := .cells #[.slice A0_0 l0_0.length c0_0, .int .i64 a0_1, .slice A0_2 l0_2.length c0_2] 25 (0, 0)) (K_ BK101) hb); have n6_ := Aside0.mk (blk_below (g := gb126) (o := .cells #[.int .i64 t123, .int .i64 t124] 39 (0, 0)) (K_ BK126) hb); have n7_ := Aside0.mk (below_step (B_) hb); clear HO106; clear HO110; clear HO113; clear HO116; clear HO120; clear BK101; clear BK126; clear HB; have HO106 := n0_; have HO110 := n1_; have HO113 := n2_; have HO116 := n3_; have HO120 := n4_; have BK101 := n5_; have BK126 := n6_; have HB := n7_; clear n0_ n1_ n2_ n3_ n4_ n5_ n6_ n7_; (try clear hb); (try clear hb2); (try clear hk); (try clear hi); obtain ⟨hcz51_0, hcz51_1, hcz51_2, hfz51_0, hfz51_1, hfz51_2⟩ := cz3 BK101; obtain ⟨Ao52, co52, eo52⟩ := Kd.R_slice HO113.out; subst eo52) | (go_at_call 44; (with_reducible refine (luciferlaw01_whole.calls k _ _ l0_0 a0_1 _ _ l0_2 _ _ t111 _ _ t114 t131 _ ?side1 ?side2 ?side3 ?side4 ?side5 ?side6 ?side7 ?side8 A44.out).mono ?_); (case side1 => exact C_ HR0_0); (case side2 => exact HC0_0.out); (case side3 => exact C_ HR0_2); (case side4 => exact HC0_2.out); (case side5 => repeat (first | exact (Kd.R_reads' HO113.out).2.2 | (with_reducible refine Kd.C_alloc ?_ _) | (with_reducible refine Kd.C_drewN ?_ _) | (with_reducible refine Kd.C_drew ?_))); (case side6 => exact (Kd.R_reads' HO113.out).2.1); (case side7 => repeat (first | exact (Kd.V_reads' HO116.out).2.2 | (with_reducible refine Kd.C_alloc ?_ _) | (with_reducible refine Kd.C_drewN ?_ _) | (with_reducible refine Kd.C_drew ?_))); (case side8 => exact (Kd.V_reads' HO116.out).2.1); rintro e w53 ⟨rfl, hb⟩; have n0_ := Aside0.mk (Kd.V_below (by (with_reducible repeat (first | apply Kd.V_alloc | apply Kd.V_drewN | apply Kd.V_drew)); exact HO106.out) hb); have n1_ := Aside0.mk (Kd.R_below (R_ HO110) hb); have n2_ := Aside0.mk (Kd.R_below (R_ HO113) hb); have n3_ := Aside0.mk (Kd.V_below (by (with_reducible repeat (first | apply Kd.V_alloc | apply Kd.V_drewN | apply Kd.V_drew)); exact HO116.out) hb); have n4_ := Aside0.mk (Kd.R_below (R_ HO120) hb); have n5_ := Aside0.mk (blk_below (g := gb101) (o := .cells #[.slice A0_0 l0_0.length c0_0, .int .i64 a0_1, .slice A0_2 l0_2.length c0_2] 25 (0, 0)) (K_ BK101) hb); have n6_ := Aside0.mk (blk_below (g := gb126) (o := .cells #[.int .i64 t123, .int .i64 t124] 39 (0, 0)) (K_ BK126) hb); have n7_ := Aside0.mk (below_step (B_) hb); clear HO106; clear HO110; clear HO113; clear HO116; clear HO120; clear BK101; clear BK126; clear HB; have HO106 := n0_; have HO110 := n1_; have HO113 := n2_; have HO116 := n3_; have HO120 := n4_; have BK101 := n5_; have BK126 := n6_; have HB := n7_; clear n0_ n1_ n2_ n3_ n4_ n5_ n6_ n7_; (try clear hb); (try clear hb2); (try clear hk); (try clear hi)))
                  go_meet
                  case rel => exact ⟨_, ((t131 != (t114.length : Int))), S_, H', ⟨by first | omega | exact Nat.le_refl _⟩, ⟨R_ HO113⟩, ⟨by (with_reducible repeat (first | apply Kd.V_alloc | apply Kd.V_drewN | apply Kd.V_drew)); exact Kd.V_mono HO116.out (fun _ hk => ⟨hk.1.1.2.1, ⟨hk.1.2, ⟨hk.1.1.2.2, hk.2⟩⟩⟩)⟩, ⟨R_ HO120⟩, ⟨K_ BK101⟩, ⟨K_ BK126⟩, ⟨B_⟩⟩
                · replace c43 := Bool.eq_false_iff.mpr c43
                  subst c43
                  have H1 : (luciferlaw01_PeelTrue.j0 k t111 t114 t118 t121 t127 true l0_0 a0_1 l0_2 t123 t124) = some r := by rw [if_neg (show ¬ (false = true) by decide)] at H; exact H
                  clear H
                  have H := H1
                  clear H1
                  have H' := Aside0.mk H
                  clear H
                  have hnb54 := NB101_126.out
                  have hnc54 := NB126_101.out
                  obtain ⟨hcz55_0, hcz55_1, hcz55_2, hfz55_0, hfz55_1, hfz55_2⟩ := cz3 BK101
                  obtain ⟨Ao56, co56, eo56⟩ := Kd.V_slice HO116.out
                  subst eo56
                  go_wp2_with (first | (go_at_call 43; (with_reducible refine (luciferlaw01_cutting.calls k _ _ l0_0 a0_1 _ _ l0_2 _ _ t114 true _ ?side1 ?side2 ?side3 ?side4 ?side5 ?side6 A40.out).mono ?_); (case side1 => exact C_ HR0_0); (case side2 => exact HC0_0.out); (case side3 => exact C_ HR0_2); (case side4 => exact HC0_2.out); (case side5 => repeat (first | exact (Kd.V_reads' HO116.out).2.2 | (with_reducible refine Kd.C_alloc ?_ _) | (with_reducible refine Kd.C_drewN ?_ _) | (with_reducible refine Kd.C_drew ?_))); (case side6 => exact (Kd.V_reads' HO116.out).2.1); rintro e w57 ⟨rfl, hb⟩; have n0_ := Aside0.mk (Kd.V_below (by (with_reducible repeat (first | apply Kd.V_alloc | apply Kd.V_drewN | apply Kd.V_drew)); exact HO106.out) hb); have n1_ := Aside0.mk (Kd.R_below (R_ HO110) hb); have n2_ := Aside0.mk (Kd.R_below (R_ HO113) hb); have n3_ := Aside0.mk (Kd.V_below (by (with_reducible repeat (first | apply Kd.V_alloc | apply Kd.V_drewN | apply Kd.V_drew)); exact HO116.out) hb); have n4_ := Aside0.mk (Kd.R_below (R_ HO120) hb); have n5_ := Aside0.mk (blk_below (g := gb101) (o := .cells #[.slice A0_0 l0_0.length c0_0, .int .i64 a0_1, .slice A0_2 l0_2.length c0_2] 25 (0, 0)) (K_ BK101) hb); have n6_ := Aside0.mk (blk_below (g := gb126) (o := .cells #[.int .i64 t123, .int .i64 t124] 39 (0, 0)) (K_ BK126) hb); have n7_ := Aside0.mk (below_step (B_) hb); clear HO106; clear HO110; clear HO113; clear HO116; clear HO120; clear BK101; clear BK126; clear HB; have HO106 := n0_; have HO110 := n1_; have HO113 := n2_; have HO116 := n3_; have HO120 := n4_; have BK101 := n5_; have BK126 := n6_; have HB := n7_; clear n0_ n1_ n2_ n3_ n4_ n5_ n6_ n7_; (try clear hb); (try clear hb2); (try clear hk); (try clear hi); obtain ⟨hcz58_0, hcz58_1, hcz58_2, hfz58_0, hfz58_1, hfz58_2⟩ := cz3 BK101) | (go_at_call 43; (with_reducible refine (luciferlaw01_cutting.calls k _ _ l0_0 a0_1 _ _ l0_2 _ _ t118 false _ ?side1 ?side2 ?side3 ?side4 ?side5 ?side6 A42.out).mono ?_); (case side1 => exact C_ HR0_0); (case side2 => exact HC0_0.out); (case side3 => exact C_ HR0_2); (case side4 => exact HC0_2.out); (case side5 => repeat (first | exact (Kd.R_reads' HO120.out).2.2 | (with_reducible refine Kd.C_alloc ?_ _) | (with_reducible refine Kd.C_drewN ?_ _) | (with_reducible refine Kd.C_drew ?_))); (case side6 => exact (Kd.R_reads' HO120.out).2.1); rintro e w59 ⟨rfl, hb⟩; have n0_ := Aside0.mk (Kd.V_below (by (with_reducible repeat (first | apply Kd.V_alloc | apply Kd.V_drewN | apply Kd.V_drew)); exact HO106.out) hb); have n1_ := Aside0.mk (Kd.R_below (R_ HO110) hb); have n2_ := Aside0.mk (Kd.R_below (R_ HO113) hb); have n3_ := Aside0.mk (Kd.V_below (by (with_reducible repeat (first | apply Kd.V_alloc | apply Kd.V_drewN | apply Kd.V_drew)); exact HO116.out) hb); have n4_ := Aside0.mk (Kd.R_below (R_ HO120) hb); have n5_ := Aside0.mk (blk_below (g := gb101) (o := .cells #[.slice A0_0 l0_0.length c0_0, .int .i64 a0_1, .slice A0_2 l0_2.length c0_2] 25 (0, 0)) (K_ BK101) hb); have n6_ := Aside0.mk (blk_below (g := gb126) (o := .cells #[.int .i64 t123, .int .i64 t124] 39 (0, 0)) (K_ BK126) hb); have n7_ := Aside0.mk (below_step (B_) hb); clear HO106; clear HO110; clear HO113; clear HO116; clear HO120; clear BK101; clear BK126; clear HB; have HO106 := n0_; have HO110 := n1_; have HO113 := n2_; have HO116 := n3_; have HO120 := n4_; have BK101 := n5_; have BK126 := n6_; have HB := n7_; clear n0_ n1_ n2_ n3_ n4_ n5_ n6_ n7_; (try clear hb); (try clear hb2); (try clear hk); (try clear hi)))
                  go_meet
                  case rel => exact ⟨_, (true), S_, H', ⟨by first | omega | exact Nat.le_refl _⟩, ⟨R_ HO113⟩, ⟨by (with_reducible repeat (first | apply Kd.V_alloc | apply Kd.V_drewN | apply Kd.V_drew)); exact Kd.V_mono HO116.out (fun _ hk => ⟨hk.1.1.2.1, ⟨hk.1.2, ⟨hk.1.1.2.2, hk.2⟩⟩⟩)⟩, ⟨R_ HO120⟩, ⟨K_ BK101⟩, ⟨K_ BK126⟩, ⟨B_⟩⟩
              · replace c41 := Bool.eq_false_iff.mpr c41
                subst c41
                have H1 : (luciferlaw01_PeelTrue.j0 k t111 t114 t118 t121 t127 true l0_0 a0_1 l0_2 t123 t124) = some r := by rw [if_neg (show ¬ (false = true) by decide)] at H; exact H
                clear H
                have H := H1
                clear H1
                have H' := Aside0.mk H
                clear H
                have hnb60 := NB101_126.out
                have hnc60 := NB126_101.out
                obtain ⟨hcz61_0, hcz61_1, hcz61_2, hfz61_0, hfz61_1, hfz61_2⟩ := cz3 BK101
                obtain ⟨Ao62, co62, eo62⟩ := Kd.V_slice HO116.out
                subst eo62
                go_wp2_with (first | (go_at_call 43; (with_reducible refine (luciferlaw01_cutting.calls k _ _ l0_0 a0_1 _ _ l0_2 _ _ t114 false _ ?side1 ?side2 ?side3 ?side4 ?side5 ?side6 A40.out).mono ?_); (case side1 => exact C_ HR0_0); (case side2 => exact HC0_0.out); (case side3 => exact C_ HR0_2); (case side4 => exact HC0_2.out); (case side5 => repeat (first | exact (Kd.V_reads' HO116.out).2.2 | (with_reducible refine Kd.C_alloc ?_ _) | (with_reducible refine Kd.C_drewN ?_ _) | (with_reducible refine Kd.C_drew ?_))); (case side6 => exact (Kd.V_reads' HO116.out).2.1); rintro e w63 ⟨rfl, hb⟩; have n0_ := Aside0.mk (Kd.V_below (by (with_reducible repeat (first | apply Kd.V_alloc | apply Kd.V_drewN | apply Kd.V_drew)); exact HO106.out) hb); have n1_ := Aside0.mk (Kd.R_below (R_ HO110) hb); have n2_ := Aside0.mk (Kd.R_below (R_ HO113) hb); have n3_ := Aside0.mk (Kd.V_below (by (with_reducible repeat (first | apply Kd.V_alloc | apply Kd.V_drewN | apply Kd.V_drew)); exact HO116.out) hb); have n4_ := Aside0.mk (Kd.R_below (R_ HO120) hb); have n5_ := Aside0.mk (blk_below (g := gb101) (o := .cells #[.slice A0_0 l0_0.length c0_0, .int .i64 a0_1, .slice A0_2 l0_2.length c0_2] 25 (0, 0)) (K_ BK101) hb); have n6_ := Aside0.mk (blk_below (g := gb126) (o := .cells #[.int .i64 t123, .int .i64 t124] 39 (0, 0)) (K_ BK126) hb); have n7_ := Aside0.mk (below_step (B_) hb); clear HO106; clear HO110; clear HO113; clear HO116; clear HO120; clear BK101; clear BK126; clear HB; have HO106 := n0_; have HO110 := n1_; have HO113 := n2_; have HO116 := n3_; have HO120 := n4_; have BK101 := n5_; have BK126 := n6_; have HB := n7_; clear n0_ n1_ n2_ n3_ n4_ n5_ n6_ n7_; (try clear hb); (try clear hb2); (try clear hk); (try clear hi)))
                go_meet
                case rel => exact ⟨_, (true), S_, H', ⟨by first | omega | exact Nat.le_refl _⟩, ⟨R_ HO113⟩, ⟨by (with_reducible repeat (first | apply Kd.V_alloc | apply Kd.V_drewN | apply Kd.V_drew)); exact Kd.V_mono HO116.out (fun _ hk => ⟨hk.1.1.2.1, ⟨hk.1.2, ⟨hk.1.1.2.2, hk.2⟩⟩⟩)⟩, ⟨R_ HO120⟩, ⟨K_ BK101⟩, ⟨K_ BK126⟩, ⟨B_⟩⟩
            · rw [if_neg c39] at H
              have c39b0 : (t128 == 0) = false := beq_eq_false_iff_ne.mpr c39
              have c39b1 : (t128 != 0) = true := bne_iff_ne.mpr c39
              have H' := Aside0.mk H
              clear H
              go_wp2
              go_meet
              case rel => exact ⟨_, (true), S_, H', ⟨by first | omega | exact Nat.le_refl _⟩, ⟨R_ HO113⟩, ⟨by (with_reducible repeat (first | apply Kd.V_alloc | apply Kd.V_drewN | apply Kd.V_drew)); exact Kd.V_mono HO116.out (fun _ hk => ⟨hk.1.1.2.1, ⟨hk.1.2, ⟨hk.1.1.2.2, hk.2⟩⟩⟩)⟩, ⟨R_ HO120⟩, ⟨K_ BK101⟩, ⟨K_ BK126⟩, ⟨B_⟩⟩
          · rw [if_neg c38] at H
            have c38b0 : (t125 == 0) = false := beq_eq_false_iff_ne.mpr c38
            have c38b1 : (t125 != 0) = true := bne_iff_ne.mpr c38
            have H' := Aside0.mk H
            clear H
            go_wp2
            go_meet
            case rel => exact ⟨_, (true), S_, H', ⟨by first | omega | exact Nat.le_refl _⟩, ⟨R_ HO113⟩, ⟨by (with_reducible repeat (first | apply Kd.V_alloc | apply Kd.V_drewN | apply Kd.V_drew)); exact Kd.V_mono HO116.out (fun _ hk => ⟨hk.1.1.2.1, ⟨hk.1.2, ⟨hk.1.1.2.2, hk.2⟩⟩⟩)⟩, ⟨R_ HO120⟩, ⟨K_ BK101⟩, ⟨K_ BK126⟩, ⟨B_⟩⟩
        · rw [if_neg c37] at H
          have c37b0 : (t122 == 0) = false := beq_eq_false_iff_ne.mpr c37
          have c37b1 : (t122 != 0) = true := bne_iff_ne.mpr c37
          have H' := Aside0.mk H
          clear H
          go_wp2
          go_meet
          case rel => exact ⟨_, (true), S_, H', ⟨by first | omega | exact Nat.le_refl _⟩, ⟨R_ HO113⟩, ⟨by (with_reducible repeat (first | apply Kd.V_alloc | apply Kd.V_drewN | apply Kd.V_drew)); exact Kd.V_mono HO116.out (fun _ hk => ⟨hk.1.1.2.1, ⟨hk.1.2, ⟨hk.1.1.2.2, hk.2⟩⟩⟩)⟩, ⟨R_ HO120⟩, ⟨K_ BK101⟩, ⟨K_ BK126⟩, ⟨B_⟩⟩
      · rw [if_neg c36] at H
        have c36b0 : (t117 == 0) = false := beq_eq_false_iff_ne.mpr c36
        have c36b1 : (t117 != 0) = true := bne_iff_ne.mpr c36
        (first | rw [c36b0] | (simp only [i64_w, i32_w]; rw [c36b0]) | skip)
        have H' := Aside0.mk H
        clear H
        go_wp2
        go_meet
        case rel => exact ⟨_, (true), S_, H', ⟨by first | omega | exact Nat.le_refl _⟩, ⟨R_ HO113⟩, ⟨by (with_reducible repeat (first | apply Kd.V_alloc | apply Kd.V_drewN | apply Kd.V_drew)); exact Kd.V_mono HO116.out (fun _ hk => ⟨hk.1.1.2.1, ⟨hk.1.2, ⟨hk.1.1.2.2, hk.2⟩⟩⟩)⟩, ⟨R_ HO120⟩, ⟨K_ BK101⟩, ⟨K_ BK126⟩, ⟨B_⟩⟩
    case rest =>
      clear HC13
      try clear c1; try clear c2; try clear p2; try clear c3; try clear c4; try clear c5; try clear c6; try clear c26; try clear c28; try clear c30; try clear c32; try clear c35; try clear c36; try clear c36b0; try clear c36b1; try clear c37; try clear c37b0; try clear c37b1; try clear c38; try clear c38b0; try clear c38b1; try clear c39; try clear c39b0; try clear c39b1; try clear c40; try clear c41; try clear c42; try clear c43; try clear c45; try clear c54; try clear c60; try clear hcz15_0; try clear hcz15_1; try clear hcz15_2; try clear hcz17_0; try clear hcz17_1; try clear hcz17_2; try clear hcz22_0; try clear hcz22_1; try clear hcz22_2; try clear hcz24_0; try clear hcz24_1; try clear hcz24_2; try clear hcz26_0; try clear hcz26_1; try clear hcz26_2; try clear hcz29_0; try clear hcz29_1; try clear hcz29_2; try clear hcz33_0; try clear hcz33_1; try clear hcz34_0; try clear hcz34_1; try clear hcz34_2; try clear hcz46_0; try clear hcz46_1; try clear hcz46_2; try clear hcz49_0; try clear hcz49_1; try clear hcz49_2; try clear hcz51_0; try clear hcz51_1; try clear hcz51_2; try clear hcz55_0; try clear hcz55_1; try clear hcz55_2; try clear hcz58_0; try clear hcz58_1; try clear hcz58_2; try clear hcz61_0; try clear hcz61_1; try clear hcz61_2; try clear hfz15_0; try clear hfz15_1; try clear hfz15_2; try clear hfz17_0; try clear hfz17_1; try clear hfz17_2; try clear hfz22_0; try clear hfz22_1; try clear hfz22_2; try clear hfz24_0; try clear hfz24_1; try clear hfz24_2; try clear hfz26_0; try clear hfz26_1; try clear hfz26_2; try clear hfz29_0; try clear hfz29_1; try clear hfz29_2; try clear hfz33_0; try clear hfz33_1; try clear hfz34_0; try clear hfz34_1; try clear hfz34_2; try clear hfz46_0; try clear hfz46_1; try clear hfz46_2; try clear hfz49_0; try clear hfz49_1; try clear hfz49_2; try clear hfz51_0; try clear hfz51_1; try clear hfz51_2; try clear hfz55_0; try clear hfz55_1; try clear hfz55_2; try clear hfz58_0; try clear hfz58_1; try clear hfz58_2; try clear hfz61_0; try clear hfz61_1; try clear hfz61_2
      obtain ⟨kq, x85_12, rfl, HA, HJ12, HO_7, HO_8, HO_10, BK101, BK126, HB⟩ := hcut
      cases kq with
      | zero => exact absurd HA.out (by simp [luciferlaw01_PeelTrue.j0])
      | succ kj12 =>
        have H := HA.out
        clear HA
        simp only [luciferlaw01_PeelTrue.j0] at H
        by_cases c64 : x85_12 = true
        · subst c64
          have H1 : (some false) = some r := by rw [if_pos rfl] at H; exact H
          clear H
          have H := H1
          clear H1
          exact absurd (Option.some.inj H) (by rw [hT]; decide)
        · replace c64 := Bool.eq_false_iff.mpr c64
          subst c64
          have H1 : ((luciferlaw01_whole.f kj12 l0_0 a0_1 l0_2 t111 t118).bind fun t132 => ((luciferref00_Has.f t123 t124 t132).bind fun t133 => (if t133 = true then ((luciferref00_Fits.f t121 0 t123).bind fun t134 => (if t134 = true then (if t124 ≤ (t118.length : Int) then (if t132 ≤ t127 then (if (t114.length : Int) ≤ t127 then (if t121 ≤ (t114.length : Int) then ((luciferlaw01_peeled.f).bind fun t135 => (some t135)) else (some false)) else (some false)) else (some false)) else (some false)) else (some false))) else (some false)))) = some r := by rw [if_neg (show ¬ (false = true) by decide)] at H; exact H
          clear H
          have H := H1
          clear H1
          replace H := Option.bind_eq_some_iff.mp H
          obtain ⟨t132, A650, H⟩ := H
          replace H : ((luciferref00_Has.f t123 t124 t132).bind fun t133 => (if t133 = true then ((luciferref00_Fits.f t121 0 t123).bind fun t134 => (if t134 = true then (if t124 ≤ (t118.length : Int) then (if t132 ≤ t127 then (if (t114.length : Int) ≤ t127 then (if t121 ≤ (t114.length : Int) then ((luciferlaw01_peeled.f).bind fun t135 => (some t135)) else (some false)) else (some false)) else (some false)) else (some false)) else (some false))) else (some false))) = some r := H
          have A65 := Aside0.mk A650
          clear A650
          replace H := Option.bind_eq_some_iff.mp H
          obtain ⟨t133, A660, H⟩ := H
          replace H : (if t133 = true then ((luciferref00_Fits.f t121 0 t123).bind fun t134 => (if t134 = true then (if t124 ≤ (t118.length : Int) then (if t132 ≤ t127 then (if (t114.length : Int) ≤ t127 then (if t121 ≤ (t114.length : Int) then ((luciferlaw01_peeled.f).bind fun t135 => (some t135)) else (some false)) else (some false)) else (some false)) else (some false)) else (some false))) else (some false)) = some r := H
          have A66 := Aside0.mk A660
          clear A660
          by_cases c67 : t133 = true
          · subst c67
            have H1 : ((luciferref00_Fits.f t121 0 t123).bind fun t134 => (if t134 = true then (if t124 ≤ (t118.length : Int) then (if t132 ≤ t127 then (if (t114.length : Int) ≤ t127 then (if t121 ≤ (t114.length : Int) then ((luciferlaw01_peeled.f).bind fun t135 => (some t135)) else (some false)) else (some false)) else (some false)) else (some false)) else (some false))) = some r := by rw [if_pos rfl] at H; exact H
            clear H
            have H := H1
            clear H1
            replace H := Option.bind_eq_some_iff.mp H
            obtain ⟨t134, A680, H⟩ := H
            replace H : (if t134 = true then (if t124 ≤ (t118.length : Int) then (if t132 ≤ t127 then (if (t114.length : Int) ≤ t127 then (if t121 ≤ (t114.length : Int) then ((luciferlaw01_peeled.f).bind fun t135 => (some t135)) else (some false)) else (some false)) else (some false)) else (some false)) else (some false)) = some r := H
            have A68 := Aside0.mk A680
            clear A680
            by_cases c69 : t134 = true
            · subst c69
              have H1 : (if t124 ≤ (t118.length : Int) then (if t132 ≤ t127 then (if (t114.length : Int) ≤ t127 then (if t121 ≤ (t114.length : Int) then ((luciferlaw01_peeled.f).bind fun t135 => (some t135)) else (some false)) else (some false)) else (some false)) else (some false)) = some r := by rw [if_pos rfl] at H; exact H
              clear H
              have H := H1
              clear H1
              by_cases c70 : t124 ≤ (t118.length : Int)
              · rw [if_pos c70] at H
                have c70b0 : decide (t124 ≤ (t118.length : Int)) = true := decide_eq_true c70
                clear c70
                by_cases c71 : t132 ≤ t127
                · rw [if_pos c71] at H
                  have c71b0 : decide (t132 ≤ t127) = true := decide_eq_true c71
                  clear c71
                  by_cases c72 : (t114.length : Int) ≤ t127
                  · rw [if_pos c72] at H
                    have c72b0 : decide ((t114.length : Int) ≤ t127) = true := decide_eq_true c72
                    clear c72
                    by_cases c73 : t121 ≤ (t114.length : Int)
                    · rw [if_pos c73] at H
                      have c73b0 : decide (t121 ≤ (t114.length : Int)) = true := decide_eq_true c73
                      clear c73
                      replace H := Option.bind_eq_some_iff.mp H
                      obtain ⟨t135, A740, H⟩ := H
                      replace H : (some t135) = some r := H
                      have A74 := Aside0.mk A740
                      clear A740
                      obtain rfl := Option.some.inj H
                      have hnb75 := NB101_126.out
                      have hnc75 := NB126_101.out
                      obtain ⟨hcz76_0, hcz76_1, hcz76_2, hfz76_0, hfz76_1, hfz76_2⟩ := cz3 BK101
                      obtain ⟨Ao77, co77, eo77⟩ := Kd.R_slice HO_7.out
                      subst eo77
                      go_wp2_with (first | ((with_reducible refine gate_callee (f := 44) rfl ?_); refine goesL_ (some 89) rfl rfl Tryd.func44 (by kernel_rfl) rfl #[.agg #[.slice A0_0 l0_0.length c0_0, .int .i64 a0_1, .slice A0_2 l0_2.length c0_2], .slice Ao77 t111.length co77, .slice Ao27 t118.length co27] rfl (by (try simp only [List.map_toArray, List.map_cons, List.map_nil]); first | done | rfl | (simp only [List.length_drop, List.length_take]; rfl)) ?_; (with_reducible refine (luciferlaw01_whole.calls kj12 _ _ l0_0 a0_1 _ _ l0_2 _ _ t111 _ _ t118 t132 _ ?side1 ?side2 ?side3 ?side4 ?side5 ?side6 ?side7 ?side8 A65.out).mono ?_); (case side1 => exact C_ HR0_0); (case side2 => exact HC0_0.out); (case side3 => exact C_ HR0_2); (case side4 => exact HC0_2.out); (case side5 => repeat (first | exact (Kd.R_reads' HO_7.out).2.2 | (with_reducible refine Kd.C_alloc ?_ _) | (with_reducible refine Kd.C_drewN ?_ _) | (with_reducible refine Kd.C_drew ?_))); (case side6 => exact (Kd.R_reads' HO_7.out).2.1); (case side7 => repeat (first | exact (Kd.R_reads' HO_10.out).2.2 | (with_reducible refine Kd.C_alloc ?_ _) | (with_reducible refine Kd.C_drewN ?_ _) | (with_reducible refine Kd.C_drew ?_))); (case side8 => exact (Kd.R_reads' HO_10.out).2.1); rintro e w78 ⟨rfl, hb⟩; refine ⟨_, rfl, ?_⟩; have n0_ := Aside0.mk (Kd.R_below (R_ HO_7) hb); have n1_ := Aside0.mk (Kd.V_below (by (with_reducible repeat (first | apply Kd.V_alloc | apply Kd.V_drewN | apply Kd.V_drew)); exact HO_8.out) hb); have n2_ := Aside0.mk (Kd.R_below (R_ HO_10) hb); have n3_ := Aside0.mk (blk_below (g := gb101) (o := .cells #[.slice A0_0 l0_0.length c0_0, .int .i64 a0_1, .slice A0_2 l0_2.length c0_2] 25 (0, 0)) (K_ BK101) hb); have n4_ := Aside0.mk (blk_below (g := gb126) (o := .cells #[.int .i64 t123, .int .i64 t124] 39 (0, 0)) (K_ BK126) hb); have n5_ := Aside0.mk (below_step (B_) hb); clear HO_7; clear HO_8; clear HO_10; clear BK101; clear BK126; clear HB; have HO_7 := n0_; have HO_8 := n1_; have HO_10 := n2_; have BK101 := n3_; have BK126 := n4_; have HB := n5_; clear n0_ n1_ n2_ n3_ n4_ n5_; (try clear hb); (try clear hb2); (try clear hk); (try clear hi); obtain ⟨hcz79_0, hcz79_1, hfz79_0, hfz79_1⟩ := cz2 BK126) | ((with_reducible refine gate_callee (f := 45) rfl ?_); refine goesL_ (some 92) rfl rfl Tryd.func45 (by kernel_rfl) rfl #[.agg #[.int .i64 t123, .int .i64 t124], .int .i64 t132] rfl (by (try simp only [List.map_toArray, List.map_cons, List.map_nil]); first | done | rfl | (simp only [List.length_drop, List.length_take]; rfl)) ?_; (with_reducible refine (luciferref00_Has.calls t123 t124 t132 true _ A66.out).mono ?_); rintro e w80 ⟨rfl, hb⟩; refine ⟨_, rfl, ?_⟩; have n0_ := Aside0.mk (Kd.R_below (R_ HO_7) hb); have n1_ := Aside0.mk (Kd.V_below (by (with_reducible repeat (first | apply Kd.V_alloc | apply Kd.V_drewN | apply Kd.V_drew)); exact HO_8.out) hb); have n2_ := Aside0.mk (Kd.R_below (R_ HO_10) hb); have n3_ := Aside0.mk (blk_below (g := gb101) (o := .cells #[.slice A0_0 l0_0.length c0_0, .int .i64 a0_1, .slice A0_2 l0_2.length c0_2] 25 (0, 0)) (K_ BK101) hb); have n4_ := Aside0.mk (blk_below (g := gb126) (o := .cells #[.int .i64 t123, .int .i64 t124] 39 (0, 0)) (K_ BK126) hb); have n5_ := Aside0.mk (below_step (B_) hb); clear HO_7; clear HO_8; clear HO_10; clear BK101; clear BK126; clear HB; have HO_7 := n0_; have HO_8 := n1_; have HO_10 := n2_; have BK101 := n3_; have BK126 := n4_; have HB := n5_; clear n0_ n1_ n2_ n3_ n4_ n5_; (try clear hb); (try clear hb2); (try clear hk); (try clear hi); obtain ⟨hcz81_0, hcz81_1, hfz81_0, hfz81_1⟩ := cz2 BK126) | (go_at_call 46; (with_reducible refine (luciferref00_Fits.calls t121 0 t123 true _ A68.out).mono ?_); rintro e w' ⟨rfl, ⟨nd, rfl⟩⟩; obtain ⟨Ao82, co82, eo82⟩ := Kd.V_slice HO_8.out; subst eo82) | (go_at_call 23; (with_reducible refine (luciferlaw01_peeled.calls  t135 _ ?side1 A74.out).mono ?_); (case side1 => exact Go.Proofs.YtigofgdmefobaaaDoor.Peel.EndsAt.below HE.out (B_)); rintro e w83 ⟨rfl, hb⟩; have n0_ := Aside0.mk (Kd.R_below (R_ HO_7) hb); have n1_ := Aside0.mk (Kd.V_below (by (with_reducible repeat (first | apply Kd.V_alloc | apply Kd.V_drewN | apply Kd.V_drew)); exact HO_8.out) hb); have n2_ := Aside0.mk (Kd.R_below (R_ HO_10) hb); have n3_ := Aside0.mk (blk_below (g := gb101) (o := .cells #[.slice A0_0 l0_0.length c0_0, .int .i64 a0_1, .slice A0_2 l0_2.length c0_2] 25 (0, 0)) (K_ BK101) hb); have n4_ := Aside0.mk (blk_below (g := gb126) (o := .cells #[.int .i64 t123, .int .i64 t124] 39 (0, 0)) (K_ BK126) hb); have n5_ := Aside0.mk (below_step (B_) hb); clear HO_7; clear HO_8; clear HO_10; clear BK101; clear BK126; clear HB; have HO_7 := n0_; have HO_8 := n1_; have HO_10 := n2_; have BK101 := n3_; have BK126 := n4_; have HB := n5_; clear n0_ n1_ n2_ n3_ n4_ n5_; (try clear hb); (try clear hb2); (try clear hk); (try clear hi)))
                      go_ret
                      exact ⟨by first | rfl | (simp [errW_none, errW_some] <;> rfl) | (simp [*, errW_none, errW_some] <;> rfl), B_⟩
                    · rw [if_neg c73] at H
                      have c73b0 : decide (t121 ≤ (t114.length : Int)) = false := decide_eq_false c73
                      clear c73
                      exact absurd (Option.some.inj H) (by rw [hT]; decide)
                  · rw [if_neg c72] at H
                    have c72b0 : decide ((t114.length : Int) ≤ t127) = false := decide_eq_false c72
                    clear c72
                    exact absurd (Option.some.inj H) (by rw [hT]; decide)
                · rw [if_neg c71] at H
                  have c71b0 : decide (t132 ≤ t127) = false := decide_eq_false c71
                  clear c71
                  exact absurd (Option.some.inj H) (by rw [hT]; decide)
              · rw [if_neg c70] at H
                have c70b0 : decide (t124 ≤ (t118.length : Int)) = false := decide_eq_false c70
                clear c70
                exact absurd (Option.some.inj H) (by rw [hT]; decide)
            · replace c69 := Bool.eq_false_iff.mpr c69
              subst c69
              have H1 : (some false) = some r := by rw [if_neg (show ¬ (false = true) by decide)] at H; exact H
              clear H
              have H := H1
              clear H1
              exact absurd (Option.some.inj H) (by rw [hT]; decide)
          · replace c67 := Bool.eq_false_iff.mpr c67
            subst c67
            have H1 : (some false) = some r := by rw [if_neg (show ¬ (false = true) by decide)] at H; exact H
            clear H
            have H := H1
            clear H1
            exact absurd (Option.some.inj H) (by rw [hT]; decide)
  · replace c5 := Bool.eq_false_iff.mpr c5
    subst c5
    have H1 : ((luciferlaw01_peeled.f).bind fun t103 => (some t103)) = some r := by rw [if_neg (show ¬ (false = true) by decide)] at H; exact H
    clear H
    have H := H1
    clear H1
    replace H := Option.bind_eq_some_iff.mp H
    obtain ⟨t103, A840, H⟩ := H
    replace H : (some t103) = some r := H
    have A84 := Aside0.mk A840
    clear A840
    obtain rfl := Option.some.inj H
    go_enter Tryd.func6, Tryd.ntmps6
    go_wp2_with (first | ((with_reducible refine gate_dst (N := 3) rfl ?_); refine box_event ?hg (N := 3) ?hd (cs := #[.slice A0_0 l0_0.length c0_0, .int .i64 a0_1, .slice A0_2 l0_2.length c0_2]) (t := 25) ?hr ?_; (case hd => rfl); (case hg => rfl); (case hr => first | (go_simp; done) | (go_simp; rfl)); intro gb101 hg w85 hbox hb; have n0_ := Aside0.mk (below_step (B_) hb); have n1_ := Aside0.mk (hbox); have n2_ := Aside0.mk ((by rw [hg]; exact (below_size (B_)) : w.heap.size ≤ gb101)); have n3_ := Aside0.mk ((by rw [hg]; exact (below_size (B_)) : w.heap.size ≤ gb101)); clear HB; have HB := n0_; have BK101 := n1_; have GW101 := n2_; have GE101 := n3_; clear n0_ n1_ n2_ n3_; clear hb hbox hg; obtain ⟨hcz86_0, hcz86_1, hcz86_2, hfz86_0, hfz86_1, hfz86_2⟩ := cz3 BK101) | ((with_reducible refine gate_callee (f := 39) rfl ?_); refine goesL_ (some 19) rfl rfl Tryd.func39 (by kernel_rfl) rfl #[.agg #[.slice A0_0 l0_0.length c0_0, .int .i64 a0_1, .slice A0_2 l0_2.length c0_2]] rfl (by (try simp only [List.map_toArray, List.map_cons, List.map_nil]); first | done | rfl | (simp only [List.length_drop, List.length_take]; rfl)) ?_; (with_reducible refine (luciferlaw01_sound.calls k _ _ l0_0 a0_1 _ _ l0_2 false _ ?side1 ?side2 ?side3 ?side4 A4.out).mono ?_); (case side1 => exact C_ HR0_0); (case side2 => exact HC0_0.out); (case side3 => exact C_ HR0_2); (case side4 => exact HC0_2.out); rintro e w87 ⟨rfl, hb⟩; refine ⟨_, rfl, ?_⟩; have n0_ := Aside0.mk (blk_below (g := gb101) (o := .cells #[.slice A0_0 l0_0.length c0_0, .int .i64 a0_1, .slice A0_2 l0_2.length c0_2] 25 (0, 0)) (K_ BK101) hb); have n1_ := Aside0.mk (below_step (B_) hb); clear BK101; clear HB; have BK101 := n0_; have HB := n1_; clear n0_ n1_; (try clear hb); (try clear hb2); (try clear hk); (try clear hi)) | ((with_reducible refine gate_callee (f := 23) rfl ?_); refine goesL_ (some 21) rfl rfl Tryd.func23 (by kernel_rfl) rfl #[] rfl (by (try simp only [List.map_toArray, List.map_cons, List.map_nil]); first | done | rfl | (simp only [List.length_drop, List.length_take]; rfl)) ?_; (with_reducible refine (luciferlaw01_peeled.calls  t103 _ ?side1 A84.out).mono ?_); (case side1 => exact Go.Proofs.YtigofgdmefobaaaDoor.Peel.EndsAt.below HE.out (B_)); rintro e w88 ⟨rfl, hb⟩; refine ⟨_, rfl, ?_⟩; have n0_ := Aside0.mk (blk_below (g := gb101) (o := .cells #[.slice A0_0 l0_0.length c0_0, .int .i64 a0_1, .slice A0_2 l0_2.length c0_2] 25 (0, 0)) (K_ BK101) hb); have n1_ := Aside0.mk (below_step (B_) hb); clear BK101; clear HB; have BK101 := n0_; have HB := n1_; clear n0_ n1_; (try clear hb); (try clear hb2); (try clear hk); (try clear hi)))
    go_ret
    exact ⟨by first | rfl | (simp [errW_none, errW_some] <;> rfl) | (simp [*, errW_none, errW_some] <;> rfl), B_⟩

end Go.Proofs.YtigofgdmefobaaaDoor.PP
