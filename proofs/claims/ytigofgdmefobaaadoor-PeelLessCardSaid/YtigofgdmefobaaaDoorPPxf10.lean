-- Printed by a program of this session (the kit's print over contracts of ours for functions that it does not take).
import Derived.Test.YtigofgdmefobaaaDoorGiven
import Derived.Test.YtigofgdmefobaaaDoorPPx0
import Derived.Test.YtigofgdmefobaaaDoorPPxf39
import Derived.Test.YtigofgdmefobaaaDoorPPxf49
import Derived.Test.YtigofgdmefobaaaDoorPPxf50
namespace Go.Proofs.YtigofgdmefobaaaDoor.PP
open Go.RowKit Go.Proofs.YtigofgdmefobaaaDoorW.PrintWords Go.Proofs.YtigofgdmefobaaaDoorW.PrintLast Go.Proofs.YtigofgdmefobaaaDoorW.PrintMore
attribute [local go_sem] max2_int min2_int max_two min_two max_three min_three max_four min_four   -- for this text's walks alone
set_option linter.unusedVariables false
set_option linter.unusedSimpArgs false

/-! ### luciferlaw01_PeelLess: function 10 -/
def luciferlaw01_PeelLess.j0 : Nat → List Int → Int → Bool → List Int → Int → List (S61) → Int → Int → Int → Int → Option (Bool)
  | 0, _, _, _, _, _, _, _, _, _, _ => none
  | k + 1, x5, x7, x65, x102000, x102001, x102002, x103000, x103001, x103002, x103003 => if x65 = true then (some false) else (if (x102002.length : Int) = 0 then ((luciferlaw01_peeled.f).bind fun t117 => (some t117)) else ((luciferref00_Spin.f x103000 (x102002.length : Int)).bind fun t118 => ((some (([] : List (S61)) : List (S61))).bind fun y121 => (if 0 ≤ t118 then (if t118 ≤ (x102002.length : Int) then ((some (x102002.take (t118 : Int).toNat : List (S61))).bind fun y124 => (if y121.length + y124.length < 4398046511104 then ((some (y121 ++ y124 : List (S61))).bind fun y128 => (if 0 ≤ (wrap64 (t118 + 1)) then (if (wrap64 (t118 + 1)) ≤ (x102002.length : Int) then ((some (x102002.drop ((wrap64 (t118 + 1)) : Int).toNat : List (S61))).bind fun y131 => (if y128.length + y131.length < 4398046511104 then ((some (([] : List (S61)) : List (S61))).bind fun y138 => (if y138.length + x102002.length < 4398046511104 then ((some (y138 ++ x102002 : List (S61))).bind fun y141 => (if t118 < (x102002.length : Int) then ((luciferref00_Drawn.f ((rd_T61 x102002 t118).f0.f0) ((rd_T61 x102002 t118).f0.f1) x103001).bind fun t145 => (if t118 < (y141.length : Int) then ((some (y141.set (t118 : Int).toNat (⟨(⟨t145, (rd_T61 y141 t118).f0.f1⟩ : S39), (⟨(rd_T61 y141 t118).f1.f0, (rd_T61 y141 t118).f1.f1⟩ : S39)⟩ : S61) : List (S61))).bind fun y146 => ((luciferref00_Drawn.f ((rd_T61 x102002 t118).f1.f0) ((rd_T61 x102002 t118).f1.f1) x103002).bind fun t148 => ((some (y146.set (t118 : Int).toNat (⟨(⟨(rd_T61 y146 t118).f0.f0, (rd_T61 y146 t118).f0.f1⟩ : S39), (⟨(rd_T61 y146 t118).f1.f0, t148⟩ : S39)⟩ : S61) : List (S61))).bind fun y149 => ((peel_Best.f x102000 x102001 (y128 ++ y131)).bind fun bt150 => ((peel_Best.f x102000 x102001 y149).bind fun bt154 => ((peel_Hope.f x102000 x102001 y149).bind fun bt158 => (if bt150.2 = 0 then (if bt154.2 = 0 then (if bt158.2 = 0 then (if (bt150.1.length : Int) ≥ (x5.length : Int) then (if (bt154.1.length : Int) ≥ (x5.length : Int) then (if bt158.1 ≤ x7 then ((luciferlaw01_peeled.f).bind fun t160 => (some t160)) else (some false)) else (some false)) else (some false)) else (some false)) else (some false)) else (some false)))))))) else (none))) else (none))) else (none))) else (none))) else (none)) else (none))) else (none))) else (none)) else (none)))))
def luciferlaw01_PeelLess.f (k : Nat) (l0_0 : List Int) (a0_1 : Int) (l0_2 : List (S61)) (a1_0 : Int) (a1_1 : Int) (a1_2 : Int) (a1_3 : Int) : Option (Bool) := (luciferlaw01_sound.f k l0_0 a0_1 l0_2).bind fun t103 => (if t103 = true then ((peel_Best.f l0_0 a0_1 l0_2).bind fun bt105 => ((peel_Hope.f l0_0 a0_1 l0_2).bind fun bt109 => ((luciferref00_Spin.f a1_3 2).bind fun t112 => ((peel_Best.f l0_0 (mn 6 (wrap64 ((wrap64 (a0_1 + 1)) + t112))) l0_2).bind fun bt113 => (if bt105.2 = 0 then (if bt109.2 = 0 then (if bt113.2 = 0 then (luciferlaw01_PeelLess.j0 k bt105.1 bt109.1 (decide ((bt113.1.length : Int) > (bt105.1.length : Int))) l0_0 a0_1 l0_2 a1_0 a1_1 a1_2 a1_3) else (luciferlaw01_PeelLess.j0 k bt105.1 bt109.1 true l0_0 a0_1 l0_2 a1_0 a1_1 a1_2 a1_3)) else (luciferlaw01_PeelLess.j0 k bt105.1 bt109.1 true l0_0 a0_1 l0_2 a1_0 a1_1 a1_2 a1_3)) else (luciferlaw01_PeelLess.j0 k bt105.1 bt109.1 true l0_0 a0_1 l0_2 a1_0 a1_1 a1_2 a1_3)))))) else ((luciferlaw01_peeled.f).bind fun t104 => (some t104)))
theorem luciferlaw01_PeelLess.mono_l : ∀ k, (∀ y0 y1 y2 y3 y4 y5 y6 y7 y8 y9, LeO (luciferlaw01_PeelLess.j0 k y0 y1 y2 y3 y4 y5 y6 y7 y8 y9) (luciferlaw01_PeelLess.j0 (k + 1) y0 y1 y2 y3 y4 y5 y6 y7 y8 y9))
  | 0 => fun _ _ _ _ _ _ _ _ _ _ r h => by simp [luciferlaw01_PeelLess.j0] at h
  | k + 1 => by
    have ih0 := luciferlaw01_PeelLess.mono_l k
    · intro y0 y1 y2 y3 y4 y5 y6 y7 y8 y9
      unfold luciferlaw01_PeelLess.j0
      repeat' first
      | (with_reducible exact ih0 _ _ _ _ _ _ _ _ _ _)
      | (with_reducible exact luciferlaw01_sound.mono _ _ _ _)
      | (with_reducible exact LeO.refl _)
      | (with_reducible exact LeO.none _)
      | (with_reducible refine LeO.ite ?_ ?_)
      | (with_reducible refine LeO.bind ?_ (fun _ => ?_))
      | exact ih0 _ _ _ _ _ _ _ _ _ _
      | exact luciferlaw01_sound.mono _ _ _ _
      | exact LeO.none _
      | refine LeO.ite ?_ ?_
      | refine LeO.bind ?_ (fun _ => ?_)
theorem luciferlaw01_PeelLess.mono : ∀ a0 a1 a2 a3 a4 a5 a6 k, LeO (luciferlaw01_PeelLess.f k a0 a1 a2 a3 a4 a5 a6) (luciferlaw01_PeelLess.f (k + 1) a0 a1 a2 a3 a4 a5 a6) := by
  intro a0 a1 a2 a3 a4 a5 a6 k
  have ih0 := luciferlaw01_PeelLess.mono_l k
  unfold luciferlaw01_PeelLess.f
  repeat' first
      | (with_reducible exact ih0 _ _ _ _ _ _ _ _ _ _)
      | (with_reducible exact luciferlaw01_sound.mono _ _ _ _)
      | (with_reducible exact LeO.refl _)
      | (with_reducible exact LeO.none _)
      | (with_reducible refine LeO.ite ?_ ?_)
      | (with_reducible refine LeO.bind ?_ (fun _ => ?_))
      | exact ih0 _ _ _ _ _ _ _ _ _ _
      | exact luciferlaw01_sound.mono _ _ _ _
      | exact LeO.none _
      | refine LeO.ite ?_ ?_
      | refine LeO.bind ?_ (fun _ => ?_)
def luciferlaw01_PeelLess.T6 : Bool × List (List Nat × List Nat) := (true, [([], []), ([0], [0]), ([1], [1]), ([], []), ([3], [3]), ([4], [4]), ([2, 5], [2, 5]), ([6], [6]), ([0, 1, 2, 3, 4, 5, 6, 7], []), ([8, 7, 5, 0, 1, 2, 3, 4, 5, 6, 7], [7, 8])])
def luciferlaw01_PeelLess.B6 : List Nat := [0, 1, 3, 0, 8, 24, 63, 127, 255, 511]
theorem luciferlaw01_PeelLess.tab6 : rtab .any (opsOf Tryd.f10 6) = luciferlaw01_PeelLess.T6 := by kernel_rfl
theorem luciferlaw01_PeelLess.bits6 : waitsOk luciferlaw01_PeelLess.T6.2 luciferlaw01_PeelLess.B6 = true := by kernel_rfl
def luciferlaw01_PeelLess.T14 : Bool × List (List Nat × List Nat) := (true, [([], []), ([], []), ([1], [1]), ([], []), ([2, 3], [2, 3]), ([0, 4], [0, 4]), ([], []), ([6], [6]), ([], []), ([8], [8]), ([7, 9], [7, 9]), ([5, 10, 5], [5, 10]), ([0, 1, 2, 3, 4, 5, 6, 7, 8, 9, 10, 11], []), ([12, 11, 11, 0, 1, 2, 3, 4, 5, 6, 7, 8, 9, 10, 11], [11, 12])])
def luciferlaw01_PeelLess.B14 : List Nat := [0, 0, 2, 0, 14, 31, 0, 64, 0, 256, 960, 2047, 4095, 8191]
theorem luciferlaw01_PeelLess.tab14 : rtab .any (opsOf Tryd.f10 14) = luciferlaw01_PeelLess.T14 := by kernel_rfl
theorem luciferlaw01_PeelLess.bits14 : waitsOk luciferlaw01_PeelLess.T14.2 luciferlaw01_PeelLess.B14 = true := by kernel_rfl
def luciferlaw01_PeelLess.T16 : Bool × List (List Nat × List Nat) := (true, [([], []), ([0], [0]), ([], []), ([], []), ([3], [3]), ([], []), ([4, 5], [4, 5]), ([6], [6]), ([7], [7]), ([], []), ([9], [9]), ([8, 10], [8, 10]), ([1, 2, 0, 1, 2, 3, 4, 5, 6, 7, 8, 9, 10, 11], [1, 2]), ([12, 0, 1, 2, 3, 4, 5, 6, 7, 8, 9, 10, 11], [12]), ([13, 0, 1, 2, 3, 4, 5, 6, 7, 8, 9, 10, 11], [13]), ([14, 11, 11, 0, 1, 2, 3, 4, 5, 6, 7, 8, 9, 10, 11], [11, 14])])
def luciferlaw01_PeelLess.B16 : List Nat := [0, 1, 0, 0, 8, 0, 56, 120, 248, 0, 512, 2040, 4095, 8191, 16383, 32767]
theorem luciferlaw01_PeelLess.tab16 : rtab .any (opsOf Tryd.f10 16) = luciferlaw01_PeelLess.T16 := by kernel_rfl
theorem luciferlaw01_PeelLess.bits16 : waitsOk luciferlaw01_PeelLess.T16.2 luciferlaw01_PeelLess.B16 = true := by kernel_rfl
def luciferlaw01_PeelLess.T17 : Bool × List (List Nat × List Nat) := (true, [([], []), ([0], [0]), ([], []), ([], []), ([3], [3]), ([], []), ([4, 5], [4, 5]), ([6], [6]), ([7], [7]), ([], []), ([9], [9]), ([8, 10], [8, 10]), ([1, 2, 0, 1, 2, 3, 4, 5, 6, 7, 8, 9, 10, 11], [1, 2]), ([12, 0, 1, 2, 3, 4, 5, 6, 7, 8, 9, 10, 11], [12]), ([13, 0, 1, 2, 3, 4, 5, 6, 7, 8, 9, 10, 11], [13]), ([14, 11, 11, 0, 1, 2, 3, 4, 5, 6, 7, 8, 9, 10, 11], [11, 14])])
def luciferlaw01_PeelLess.B17 : List Nat := [0, 1, 0, 0, 8, 0, 56, 120, 248, 0, 512, 2040, 4095, 8191, 16383, 32767]
theorem luciferlaw01_PeelLess.tab17 : rtab .any (opsOf Tryd.f10 17) = luciferlaw01_PeelLess.T17 := by kernel_rfl
theorem luciferlaw01_PeelLess.bits17 : waitsOk luciferlaw01_PeelLess.T17.2 luciferlaw01_PeelLess.B17 = true := by kernel_rfl
set_option maxHeartbeats 8000000 in
set_option maxRecDepth 100000 in
theorem luciferlaw01_PeelLess.calls (k : Nat) (A0_0 : Option Addr) (c0_0 : Nat) (l0_0 : List Int) (a0_1 : Int) (A0_2 : Option Addr) (c0_2 : Nat) (l0_2 : List (S61)) (a1_0 : Int) (a1_1 : Int) (a1_2 : Int) (a1_3 : Int) (r : Bool) (w : World) (hr0_0 : Kd.C (Kd.int .i64) w A0_0 l0_0.length l0_0) (hc0_0 : l0_0.length ≤ c0_0) (hr0_2 : Kd.C k61 w A0_2 l0_2.length l0_2) (hc0_2 : l0_2.length ≤ c0_2) (hE : Go.Proofs.YtigofgdmefobaaaDoor.Peel.EndsAt w) (hT : r = true) (h : luciferlaw01_PeelLess.f k l0_0 a0_1 l0_2 a1_0 a1_1 a1_2 a1_3 = some r) :
    Calls Tryd.prog 10 #[.agg #[.slice A0_0 l0_0.length c0_0, .int .i64 a0_1, .slice A0_2 l0_2.length c0_2], .agg #[.int .i64 a1_0, .int .i64 a1_1, .int .i64 a1_2, .int .i64 a1_3]] w fun e w' => e = .returned (.bool r) ∧ Below w.heap.size w w' := by
  have hu25 := Tryd.underlying25
  have hu58 := Tryd.underlying58
  have hu39 := Tryd.underlying39
  have HE := Aside0.mk hE
  clear hE
  have HR0_0 := Aside0.mk hr0_0
  have HC0_0 := Aside0.mk hc0_0
  clear hr0_0 hc0_0
  have HR0_2 := Aside0.mk hr0_2
  have HC0_2 := Aside0.mk hc0_2
  clear hr0_2 hc0_2
  have HB := Aside0.mk (Below.refl w.heap.size w)
  have H : ((luciferlaw01_sound.f k l0_0 a0_1 l0_2).bind fun t103 => (if t103 = true then ((peel_Best.f l0_0 a0_1 l0_2).bind fun bt105 => ((peel_Hope.f l0_0 a0_1 l0_2).bind fun bt109 => ((luciferref00_Spin.f a1_3 2).bind fun t112 => ((peel_Best.f l0_0 (mn 6 (wrap64 ((wrap64 (a0_1 + 1)) + t112))) l0_2).bind fun bt113 => (if bt105.2 = 0 then (if bt109.2 = 0 then (if bt113.2 = 0 then (luciferlaw01_PeelLess.j0 k bt105.1 bt109.1 (decide ((bt113.1.length : Int) > (bt105.1.length : Int))) l0_0 a0_1 l0_2 a1_0 a1_1 a1_2 a1_3) else (luciferlaw01_PeelLess.j0 k bt105.1 bt109.1 true l0_0 a0_1 l0_2 a1_0 a1_1 a1_2 a1_3)) else (luciferlaw01_PeelLess.j0 k bt105.1 bt109.1 true l0_0 a0_1 l0_2 a1_0 a1_1 a1_2 a1_3)) else (luciferlaw01_PeelLess.j0 k bt105.1 bt109.1 true l0_0 a0_1 l0_2 a1_0 a1_1 a1_2 a1_3)))))) else ((luciferlaw01_peeled.f).bind fun t104 => (some t104)))) = some r := h
  clear h
  replace H := Option.bind_eq_some_iff.mp H
  obtain ⟨t103, A30, H⟩ := H
  replace H : (if t103 = true then ((peel_Best.f l0_0 a0_1 l0_2).bind fun bt105 => ((peel_Hope.f l0_0 a0_1 l0_2).bind fun bt109 => ((luciferref00_Spin.f a1_3 2).bind fun t112 => ((peel_Best.f l0_0 (mn 6 (wrap64 ((wrap64 (a0_1 + 1)) + t112))) l0_2).bind fun bt113 => (if bt105.2 = 0 then (if bt109.2 = 0 then (if bt113.2 = 0 then (luciferlaw01_PeelLess.j0 k bt105.1 bt109.1 (decide ((bt113.1.length : Int) > (bt105.1.length : Int))) l0_0 a0_1 l0_2 a1_0 a1_1 a1_2 a1_3) else (luciferlaw01_PeelLess.j0 k bt105.1 bt109.1 true l0_0 a0_1 l0_2 a1_0 a1_1 a1_2 a1_3)) else (luciferlaw01_PeelLess.j0 k bt105.1 bt109.1 true l0_0 a0_1 l0_2 a1_0 a1_1 a1_2 a1_3)) else (luciferlaw01_PeelLess.j0 k bt105.1 bt109.1 true l0_0 a0_1 l0_2 a1_0 a1_1 a1_2 a1_3)))))) else ((luciferlaw01_peeled.f).bind fun t104 => (some t104))) = some r := H
  have A3 := Aside0.mk A30
  clear A30
  by_cases c4 : t103 = true
  · subst c4
    have H1 : ((peel_Best.f l0_0 a0_1 l0_2).bind fun bt105 => ((peel_Hope.f l0_0 a0_1 l0_2).bind fun bt109 => ((luciferref00_Spin.f a1_3 2).bind fun t112 => ((peel_Best.f l0_0 (mn 6 (wrap64 ((wrap64 (a0_1 + 1)) + t112))) l0_2).bind fun bt113 => (if bt105.2 = 0 then (if bt109.2 = 0 then (if bt113.2 = 0 then (luciferlaw01_PeelLess.j0 k bt105.1 bt109.1 (decide ((bt113.1.length : Int) > (bt105.1.length : Int))) l0_0 a0_1 l0_2 a1_0 a1_1 a1_2 a1_3) else (luciferlaw01_PeelLess.j0 k bt105.1 bt109.1 true l0_0 a0_1 l0_2 a1_0 a1_1 a1_2 a1_3)) else (luciferlaw01_PeelLess.j0 k bt105.1 bt109.1 true l0_0 a0_1 l0_2 a1_0 a1_1 a1_2 a1_3)) else (luciferlaw01_PeelLess.j0 k bt105.1 bt109.1 true l0_0 a0_1 l0_2 a1_0 a1_1 a1_2 a1_3)))))) = some r := by rw [if_pos rfl] at H; exact H
    clear H
    have H := H1
    clear H1
    replace H := Option.bind_eq_some_iff.mp H
    obtain ⟨⟨t105, t108⟩, A50, H⟩ := H
    replace H : ((peel_Hope.f l0_0 a0_1 l0_2).bind fun bt109 => ((luciferref00_Spin.f a1_3 2).bind fun t112 => ((peel_Best.f l0_0 (mn 6 (wrap64 ((wrap64 (a0_1 + 1)) + t112))) l0_2).bind fun bt113 => (if t108 = 0 then (if bt109.2 = 0 then (if bt113.2 = 0 then (luciferlaw01_PeelLess.j0 k t105 bt109.1 (decide ((bt113.1.length : Int) > (t105.length : Int))) l0_0 a0_1 l0_2 a1_0 a1_1 a1_2 a1_3) else (luciferlaw01_PeelLess.j0 k t105 bt109.1 true l0_0 a0_1 l0_2 a1_0 a1_1 a1_2 a1_3)) else (luciferlaw01_PeelLess.j0 k t105 bt109.1 true l0_0 a0_1 l0_2 a1_0 a1_1 a1_2 a1_3)) else (luciferlaw01_PeelLess.j0 k t105 bt109.1 true l0_0 a0_1 l0_2 a1_0 a1_1 a1_2 a1_3))))) = some r := H
    have A5 := Aside0.mk A50
    clear A50
    replace H := Option.bind_eq_some_iff.mp H
    obtain ⟨⟨t109, t110⟩, A60, H⟩ := H
    replace H : ((luciferref00_Spin.f a1_3 2).bind fun t112 => ((peel_Best.f l0_0 (mn 6 (wrap64 ((wrap64 (a0_1 + 1)) + t112))) l0_2).bind fun bt113 => (if t108 = 0 then (if t110 = 0 then (if bt113.2 = 0 then (luciferlaw01_PeelLess.j0 k t105 t109 (decide ((bt113.1.length : Int) > (t105.length : Int))) l0_0 a0_1 l0_2 a1_0 a1_1 a1_2 a1_3) else (luciferlaw01_PeelLess.j0 k t105 t109 true l0_0 a0_1 l0_2 a1_0 a1_1 a1_2 a1_3)) else (luciferlaw01_PeelLess.j0 k t105 t109 true l0_0 a0_1 l0_2 a1_0 a1_1 a1_2 a1_3)) else (luciferlaw01_PeelLess.j0 k t105 t109 true l0_0 a0_1 l0_2 a1_0 a1_1 a1_2 a1_3)))) = some r := H
    have A6 := Aside0.mk A60
    clear A60
    replace H := Option.bind_eq_some_iff.mp H
    obtain ⟨t112, A70, H⟩ := H
    replace H : ((peel_Best.f l0_0 (mn 6 (wrap64 ((wrap64 (a0_1 + 1)) + t112))) l0_2).bind fun bt113 => (if t108 = 0 then (if t110 = 0 then (if bt113.2 = 0 then (luciferlaw01_PeelLess.j0 k t105 t109 (decide ((bt113.1.length : Int) > (t105.length : Int))) l0_0 a0_1 l0_2 a1_0 a1_1 a1_2 a1_3) else (luciferlaw01_PeelLess.j0 k t105 t109 true l0_0 a0_1 l0_2 a1_0 a1_1 a1_2 a1_3)) else (luciferlaw01_PeelLess.j0 k t105 t109 true l0_0 a0_1 l0_2 a1_0 a1_1 a1_2 a1_3)) else (luciferlaw01_PeelLess.j0 k t105 t109 true l0_0 a0_1 l0_2 a1_0 a1_1 a1_2 a1_3))) = some r := H
    have A7 := Aside0.mk A70
    clear A70
    obtain ⟨ji8, hji8⟩ : ∃ j_ : Int, (mn 6 (wrap64 ((wrap64 (a0_1 + 1)) + t112))) = j_ := ⟨_, rfl⟩
    replace H : ((peel_Best.f l0_0 (ji8) l0_2).bind fun bt113 => (if t108 = 0 then (if t110 = 0 then (if bt113.2 = 0 then (luciferlaw01_PeelLess.j0 k t105 t109 (decide ((bt113.1.length : Int) > (t105.length : Int))) l0_0 a0_1 l0_2 a1_0 a1_1 a1_2 a1_3) else (luciferlaw01_PeelLess.j0 k t105 t109 true l0_0 a0_1 l0_2 a1_0 a1_1 a1_2 a1_3)) else (luciferlaw01_PeelLess.j0 k t105 t109 true l0_0 a0_1 l0_2 a1_0 a1_1 a1_2 a1_3)) else (luciferlaw01_PeelLess.j0 k t105 t109 true l0_0 a0_1 l0_2 a1_0 a1_1 a1_2 a1_3))) = some r := by first | (rw [hji8] at H; exact H) | (simp only [hji8] at H ⊢; exact H)
    (try rw [hji8] at A3)
    (try rw [hji8] at A5)
    (try rw [hji8] at A6)
    (try rw [hji8] at A7)
    (try (have hji8h : ji8 ≤ 6 := by (rw [← hji8]; unfold mn; (repeat' split) <;> omega)))
    (try (have hji8g : ji8 ≤ 64 := by omega))
    have hji8_ : (if (wrap64 ((wrap64 (a0_1 + 1)) + t112)) < 6 then (wrap64 ((wrap64 (a0_1 + 1)) + t112)) else 6) = ji8 := hji8
    replace H := Option.bind_eq_some_iff.mp H
    obtain ⟨⟨t113, t116⟩, A90, H⟩ := H
    replace H : (if t108 = 0 then (if t110 = 0 then (if t116 = 0 then (luciferlaw01_PeelLess.j0 k t105 t109 (decide ((t113.length : Int) > (t105.length : Int))) l0_0 a0_1 l0_2 a1_0 a1_1 a1_2 a1_3) else (luciferlaw01_PeelLess.j0 k t105 t109 true l0_0 a0_1 l0_2 a1_0 a1_1 a1_2 a1_3)) else (luciferlaw01_PeelLess.j0 k t105 t109 true l0_0 a0_1 l0_2 a1_0 a1_1 a1_2 a1_3)) else (luciferlaw01_PeelLess.j0 k t105 t109 true l0_0 a0_1 l0_2 a1_0 a1_1 a1_2 a1_3)) = some r := H
    have A9 := Aside0.mk A90
    clear A90
    have HC10 := Aside0.mk H
    clear H
    go_enter Tryd.func10, Tryd.ntmps10
    try go_wp2_with (first | ((with_reducible refine gate_dst (N := 2) rfl ?_); refine box_event ?hg (N := 2) ?hd (cs := #[.slice A0_0 l0_0.length c0_0, .int .i64 a0_1, .slice A0_2 l0_2.length c0_2]) (t := 25) ?hr ?_; (case hd => rfl); (case hg => rfl); (case hr => first | (go_simp; done) | (go_simp; rfl)); intro gb101 hg w11 hbox hb; have n0_ := Aside0.mk (below_step (B_) hb); have n1_ := Aside0.mk (hbox); have n2_ := Aside0.mk ((by rw [hg]; exact (below_size (B_)) : w.heap.size ≤ gb101)); have n3_ := Aside0.mk ((by rw [hg]; exact (below_size (B_)) : w.heap.size ≤ gb101)); clear HB; have HB := n0_; have BK101 := n1_; have GW101 := n2_; have GE101 := n3_; clear n0_ n1_ n2_ n3_; clear hb hbox hg) | ((with_reducible refine gate_dst (N := 3) rfl ?_); refine box_event ?hg (N := 3) ?hd (cs := #[.int .i64 a1_0, .int .i64 a1_1, .int .i64 a1_2, .int .i64 a1_3]) (t := 58) ?hr ?_; (case hd => rfl); (case hg => rfl); (case hr => first | (go_simp; done) | (go_simp; rfl)); intro gb102 hg w12 hbox hb; have n0_ := Aside0.mk (blk_below (g := gb101) (o := .cells #[.slice A0_0 l0_0.length c0_0, .int .i64 a0_1, .slice A0_2 l0_2.length c0_2] 25 (0, 0)) (K_ BK101) hb); have n1_ := Aside0.mk (below_step (B_) hb); have n2_ := Aside0.mk (hbox); have n3_ := Aside0.mk ((by rw [hg]; exact (below_size (B_)) : w.heap.size ≤ gb102)); have n4_ := Aside0.mk ((by rw [hg]; exact (below_size (B_)) : w.heap.size ≤ gb102)); have n5_ := Aside0.mk ((by rw [hg]; exact Nat.ne_of_lt (blk_lt (g := gb101) (o := .cells #[.slice A0_0 l0_0.length c0_0, .int .i64 a0_1, .slice A0_2 l0_2.length c0_2] 25 (0, 0)) (K_ BK101)) : gb101 ≠ gb102)); have n6_ := Aside0.mk ((by rw [hg]; exact Nat.ne_of_gt (blk_lt (g := gb101) (o := .cells #[.slice A0_0 l0_0.length c0_0, .int .i64 a0_1, .slice A0_2 l0_2.length c0_2] 25 (0, 0)) (K_ BK101)) : gb102 ≠ gb101)); clear BK101; clear HB; have BK101 := n0_; have HB := n1_; have BK102 := n2_; have GW102 := n3_; have GE102 := n4_; have NB101_102 := n5_; have NB102_101 := n6_; clear n0_ n1_ n2_ n3_ n4_ n5_ n6_; clear hb hbox hg; have hnb13 := NB101_102.out; have hnc13 := NB102_101.out; obtain ⟨hcz14_0, hcz14_1, hcz14_2, hfz14_0, hfz14_1, hfz14_2⟩ := cz3 BK101) | ((with_reducible refine gate_callee (f := 39) rfl ?_); refine goesL_ (some 21) rfl rfl Tryd.func39 (by kernel_rfl) rfl #[.agg #[.slice A0_0 l0_0.length c0_0, .int .i64 a0_1, .slice A0_2 l0_2.length c0_2]] rfl (by (try simp only [List.map_toArray, List.map_cons, List.map_nil]); first | done | rfl | (simp only [List.length_drop, List.length_take]; rfl)) ?_; (with_reducible refine (luciferlaw01_sound.calls k _ _ l0_0 a0_1 _ _ l0_2 true _ ?side1 ?side2 ?side3 ?side4 A3.out).mono ?_); (case side1 => exact C_ HR0_0); (case side2 => exact HC0_0.out); (case side3 => exact C_ HR0_2); (case side4 => exact HC0_2.out); rintro e w15 ⟨rfl, hb⟩; refine ⟨_, rfl, ?_⟩; have n0_ := Aside0.mk (blk_below (g := gb101) (o := .cells #[.slice A0_0 l0_0.length c0_0, .int .i64 a0_1, .slice A0_2 l0_2.length c0_2] 25 (0, 0)) (K_ BK101) hb); have n1_ := Aside0.mk (blk_below (g := gb102) (o := .cells #[.int .i64 a1_0, .int .i64 a1_1, .int .i64 a1_2, .int .i64 a1_3] 58 (0, 0)) (K_ BK102) hb); have n2_ := Aside0.mk (below_step (B_) hb); clear BK101; clear BK102; clear HB; have BK101 := n0_; have BK102 := n1_; have HB := n2_; clear n0_ n1_ n2_; (try clear hb); (try clear hb2); (try clear hk); (try clear hi); obtain ⟨hcz16_0, hcz16_1, hcz16_2, hfz16_0, hfz16_1, hfz16_2⟩ := cz3 BK101) | ((with_reducible refine gate_callee (f := 30) rfl ?_); refine goesL_ (some 26) rfl rfl Tryd.func30 (by kernel_rfl) rfl #[.agg #[.slice A0_0 l0_0.length c0_0, .int .i64 a0_1, .slice A0_2 l0_2.length c0_2]] rfl (by (try simp only [List.map_toArray, List.map_cons, List.map_nil]); first | done | rfl | (simp only [List.length_drop, List.length_take]; rfl)) ?_; (with_reducible refine (peel_Best.calls _ _ l0_0 a0_1 _ _ l0_2 t105 t108 _ ?side1 ?side2 ?side3 ?side4 ?side5 A5.out).mono ?_); (case side1 => exact C_ HR0_0); (case side2 => exact HC0_0.out); (case side3 => exact C_ HR0_2); (case side4 => exact HC0_2.out); (case side5 => exact Go.Proofs.YtigofgdmefobaaaDoor.Peel.EndsAt.below HE.out (B_)); rintro e w17 ⟨v106, rfl, ho0, hb⟩; refine ⟨_, rfl, ?_⟩; have n0_ := Aside0.mk (Kd.V_lower (Kd.V_mono (ok' := fun k_ => k_ ≠ gb101 ∧ k_ ≠ gb102) ho0 (fun k_ hk_ => ⟨(Kd.freshB (g := gb101) (o := .cells #[.slice A0_0 l0_0.length c0_0, .int .i64 a0_1, .slice A0_2 l0_2.length c0_2] 25 (0, 0)) (K_ BK101) k_ hk_), (Kd.freshB (g := gb102) (o := .cells #[.int .i64 a1_0, .int .i64 a1_1, .int .i64 a1_2, .int .i64 a1_3] 58 (0, 0)) (K_ BK102) k_ hk_)⟩)) (below_size (B_))); have n1_ := Aside0.mk (blk_below (g := gb101) (o := .cells #[.slice A0_0 l0_0.length c0_0, .int .i64 a0_1, .slice A0_2 l0_2.length c0_2] 25 (0, 0)) (K_ BK101) hb); have n2_ := Aside0.mk (blk_below (g := gb102) (o := .cells #[.int .i64 a1_0, .int .i64 a1_1, .int .i64 a1_2, .int .i64 a1_3] 58 (0, 0)) (K_ BK102) hb); have n3_ := Aside0.mk (below_step (B_) hb); clear BK101; clear BK102; clear HB; have HO107 := n0_; have BK101 := n1_; have BK102 := n2_; have HB := n3_; clear n0_ n1_ n2_ n3_; (try clear hb); (try clear hb2); (try clear hk); (try clear hi); (try clear ho0); obtain ⟨hcz18_0, hcz18_1, hcz18_2, hfz18_0, hfz18_1, hfz18_2⟩ := cz3 BK101) | ((with_reducible refine gate_callee (f := 35) rfl ?_); refine goesL_ (some 31) rfl rfl Tryd.func35 (by kernel_rfl) rfl #[.agg #[.slice A0_0 l0_0.length c0_0, .int .i64 a0_1, .slice A0_2 l0_2.length c0_2]] rfl (by (try simp only [List.map_toArray, List.map_cons, List.map_nil]); first | done | rfl | (simp only [List.length_drop, List.length_take]; rfl)) ?_; (with_reducible refine (peel_Hope.calls _ _ l0_0 a0_1 _ _ l0_2 t109 t110 _ ?side1 ?side2 ?side3 ?side4 ?side5 A6.out).mono ?_); (case side1 => exact C_ HR0_0); (case side2 => exact HC0_0.out); (case side3 => exact C_ HR0_2); (case side4 => exact HC0_2.out); (case side5 => exact Go.Proofs.YtigofgdmefobaaaDoor.Peel.EndsAt.below HE.out (B_)); rintro e w19 ⟨rfl, hb⟩; refine ⟨_, rfl, ?_⟩; have n0_ := Aside0.mk (Kd.V_below (by (with_reducible repeat (first | apply Kd.V_alloc | apply Kd.V_drewN | apply Kd.V_drew)); exact HO107.out) hb); have n1_ := Aside0.mk (blk_below (g := gb101) (o := .cells #[.slice A0_0 l0_0.length c0_0, .int .i64 a0_1, .slice A0_2 l0_2.length c0_2] 25 (0, 0)) (K_ BK101) hb); have n2_ := Aside0.mk (blk_below (g := gb102) (o := .cells #[.int .i64 a1_0, .int .i64 a1_1, .int .i64 a1_2, .int .i64 a1_3] 58 (0, 0)) (K_ BK102) hb); have n3_ := Aside0.mk (below_step (B_) hb); clear HO107; clear BK101; clear BK102; clear HB; have HO107 := n0_; have BK101 := n1_; have BK102 := n2_; have HB := n3_; clear n0_ n1_ n2_ n3_; (try clear hb); (try clear hb2); (try clear hk); (try clear hi); obtain ⟨hcz20_0, hcz20_1, hcz20_2, hfz20_0, hfz20_1, hfz20_2⟩ := cz3 BK101) | ((with_reducible refine gate_dst (N := 9) rfl ?_); refine box_event ?hg (N := 9) ?hd (cs := #[.slice none 0 0, .int .i64 0, .slice none 0 0]) (t := 25) ?hr ?_; (case hd => rfl); (case hg => rfl); (case hr => first | (go_simp; done) | (go_simp; rfl)); intro gb111 hg w21 hbox hb; have n0_ := Aside0.mk (Kd.V_below (Kd.V_elderB (by (with_reducible repeat (first | apply Kd.V_alloc | apply Kd.V_drewN | apply Kd.V_drew)); exact HO107.out) gb111 (Nat.le_of_eq hg.symm)) hb); have n1_ := Aside0.mk (blk_below (g := gb101) (o := .cells #[.slice A0_0 l0_0.length c0_0, .int .i64 a0_1, .slice A0_2 l0_2.length c0_2] 25 (0, 0)) (K_ BK101) hb); have n2_ := Aside0.mk (blk_below (g := gb102) (o := .cells #[.int .i64 a1_0, .int .i64 a1_1, .int .i64 a1_2, .int .i64 a1_3] 58 (0, 0)) (K_ BK102) hb); have n3_ := Aside0.mk (below_step (B_) hb); have n4_ := Aside0.mk (hbox); have n5_ := Aside0.mk ((by rw [hg]; exact (below_size (B_)) : w.heap.size ≤ gb111)); have n6_ := Aside0.mk ((by rw [hg]; exact (below_size (B_)) : w.heap.size ≤ gb111)); have n7_ := Aside0.mk ((by rw [hg]; exact Nat.ne_of_lt (blk_lt (g := gb101) (o := .cells #[.slice A0_0 l0_0.length c0_0, .int .i64 a0_1, .slice A0_2 l0_2.length c0_2] 25 (0, 0)) (K_ BK101)) : gb101 ≠ gb111)); have n8_ := Aside0.mk ((by rw [hg]; exact Nat.ne_of_gt (blk_lt (g := gb101) (o := .cells #[.slice A0_0 l0_0.length c0_0, .int .i64 a0_1, .slice A0_2 l0_2.length c0_2] 25 (0, 0)) (K_ BK101)) : gb111 ≠ gb101)); have n9_ := Aside0.mk ((by rw [hg]; exact Nat.ne_of_lt (blk_lt (g := gb102) (o := .cells #[.int .i64 a1_0, .int .i64 a1_1, .int .i64 a1_2, .int .i64 a1_3] 58 (0, 0)) (K_ BK102)) : gb102 ≠ gb111)); have n10_ := Aside0.mk ((by rw [hg]; exact Nat.ne_of_gt (blk_lt (g := gb102) (o := .cells #[.int .i64 a1_0, .int .i64 a1_1, .int .i64 a1_2, .int .i64 a1_3] 58 (0, 0)) (K_ BK102)) : gb111 ≠ gb102)); clear HO107; clear BK101; clear BK102; clear HB; have HO107 := n0_; have BK101 := n1_; have BK102 := n2_; have HB := n3_; have BK111 := n4_; have GW111 := n5_; have GE111 := n6_; have NB101_111 := n7_; have NB111_101 := n8_; have NB102_111 := n9_; have NB111_102 := n10_; clear n0_ n1_ n2_ n3_ n4_ n5_ n6_ n7_ n8_ n9_ n10_; clear hb hbox hg; have hnb22 := NB111_101.out; have hnc22 := NB101_111.out; have hnb23 := NB111_102.out; have hnc23 := NB102_111.out; obtain ⟨hcz24_0, hcz24_1, hcz24_2, hfz24_0, hfz24_1, hfz24_2⟩ := cz3 BK111))
    have n0_ : Aside0 (Kd.V (Kd.int .i64) 3 (((w21.setCell ⟨gb111, 0, none⟩ (.slice A0_0 l0_0.length c0_0)).setCell ⟨gb111, 1, none⟩ (.int .i64 a0_1)).setCell ⟨gb111, 2, none⟩ (.slice A0_2 l0_2.length c0_2)) w.heap.size (fun k_ => k_ ≠ gb101 ∧ k_ ≠ gb102 ∧ k_ ≠ gb111) v106 t105) := ⟨by (with_reducible repeat (first | apply Kd.V_alloc | apply Kd.V_drewN | apply Kd.V_drew)); exact Kd.V_mono (Kd.V_far (p := ⟨gb111, 2, none⟩) (Kd.V_far (p := ⟨gb111, 1, none⟩) (Kd.V_far (p := ⟨gb111, 0, none⟩) (Kd.V_mono HO107.out (fun k_ hk => (⟨hk, hk.2⟩ : _ ∧ k_ ≠ gb111))) (fun _ hk => hk.2) (.slice A0_0 l0_0.length c0_0)) (fun _ hk => hk.2) (.int .i64 a0_1)) (fun _ hk => hk.2) (.slice A0_2 l0_2.length c0_2)) (fun _ hk => ⟨hk.1.1.1, ⟨hk.1.1.2, hk.1.2⟩⟩)⟩
    have n1_ : Aside0 ((((w21.setCell ⟨gb111, 0, none⟩ (.slice A0_0 l0_0.length c0_0)).setCell ⟨gb111, 1, none⟩ (.int .i64 a0_1)).setCell ⟨gb111, 2, none⟩ (.slice A0_2 l0_2.length c0_2)).heap[gb101]? = some (.cells #[.slice A0_0 l0_0.length c0_0, .int .i64 a0_1, .slice A0_2 l0_2.length c0_2] 25 (0, 0))) := ⟨by (with_reducible repeat (first | refine blk_drewN ?_ _ | refine blk_drew ?_ | refine blk_alloc ?_ _)); refine blk_far ?_ NB101_111.out _; (with_reducible repeat (first | refine blk_drewN ?_ _ | refine blk_drew ?_ | refine blk_alloc ?_ _)); refine blk_far ?_ NB101_111.out _; (with_reducible repeat (first | refine blk_drewN ?_ _ | refine blk_drew ?_ | refine blk_alloc ?_ _)); refine blk_far ?_ NB101_111.out _; (with_reducible repeat (first | refine blk_drewN ?_ _ | refine blk_drew ?_ | refine blk_alloc ?_ _)); exact BK101.out⟩
    have n2_ : Aside0 ((((w21.setCell ⟨gb111, 0, none⟩ (.slice A0_0 l0_0.length c0_0)).setCell ⟨gb111, 1, none⟩ (.int .i64 a0_1)).setCell ⟨gb111, 2, none⟩ (.slice A0_2 l0_2.length c0_2)).heap[gb102]? = some (.cells #[.int .i64 a1_0, .int .i64 a1_1, .int .i64 a1_2, .int .i64 a1_3] 58 (0, 0))) := ⟨by (with_reducible repeat (first | refine blk_drewN ?_ _ | refine blk_drew ?_ | refine blk_alloc ?_ _)); refine blk_far ?_ NB102_111.out _; (with_reducible repeat (first | refine blk_drewN ?_ _ | refine blk_drew ?_ | refine blk_alloc ?_ _)); refine blk_far ?_ NB102_111.out _; (with_reducible repeat (first | refine blk_drewN ?_ _ | refine blk_drew ?_ | refine blk_alloc ?_ _)); refine blk_far ?_ NB102_111.out _; (with_reducible repeat (first | refine blk_drewN ?_ _ | refine blk_drew ?_ | refine blk_alloc ?_ _)); exact BK102.out⟩
    have n3_ : Aside0 ((((w21.setCell ⟨gb111, 0, none⟩ (.slice A0_0 l0_0.length c0_0)).setCell ⟨gb111, 1, none⟩ (.int .i64 a0_1)).setCell ⟨gb111, 2, none⟩ (.slice A0_2 l0_2.length c0_2)).heap[gb111]? = some (.cells #[.slice A0_0 l0_0.length c0_0, .int .i64 a0_1, .slice A0_2 l0_2.length c0_2] 25 (0, 0))) := ⟨by (with_reducible repeat (first | refine blk_drewN ?_ _ | refine blk_drew ?_ | refine blk_alloc ?_ _)); refine blk_put (cs := #[.slice A0_0 l0_0.length c0_0, .int .i64 a0_1, .slice none 0 0]) ?_ 2 _ rfl; (with_reducible repeat (first | refine blk_drewN ?_ _ | refine blk_drew ?_ | refine blk_alloc ?_ _)); refine blk_put (cs := #[.slice A0_0 l0_0.length c0_0, .int .i64 0, .slice none 0 0]) ?_ 1 _ rfl; (with_reducible repeat (first | refine blk_drewN ?_ _ | refine blk_drew ?_ | refine blk_alloc ?_ _)); refine blk_put (cs := #[.slice none 0 0, .int .i64 0, .slice none 0 0]) ?_ 0 _ rfl; (with_reducible repeat (first | refine blk_drewN ?_ _ | refine blk_drew ?_ | refine blk_alloc ?_ _)); exact BK111.out⟩
    have n4_ : Aside0 (Below w.heap.size w (((w21.setCell ⟨gb111, 0, none⟩ (.slice A0_0 l0_0.length c0_0)).setCell ⟨gb111, 1, none⟩ (.int .i64 a0_1)).setCell ⟨gb111, 2, none⟩ (.slice A0_2 l0_2.length c0_2))) := ⟨B_⟩
    (try clear HO107)
    (try clear BK101)
    (try clear BK102)
    (try clear BK111)
    (try clear HB)
    generalize (((w21.setCell ⟨gb111, 0, none⟩ (.slice A0_0 l0_0.length c0_0)).setCell ⟨gb111, 1, none⟩ (.int .i64 a0_1)).setCell ⟨gb111, 2, none⟩ (.slice A0_2 l0_2.length c0_2)) = w25 at n0_ n1_ n2_ n3_ n4_ ⊢
    have HO107 := n0_
    have BK101 := n1_
    have BK102 := n2_
    have BK111 := n3_
    have HB := n4_
    clear n0_ n1_ n2_ n3_ n4_
    have n0_ := Aside0.mk (Kd.V_drew HO107.out)
    have n1_ := Aside0.mk (blk_drew BK101.out)
    have n2_ := Aside0.mk (blk_drew BK102.out)
    have n3_ := Aside0.mk (blk_drew BK111.out)
    have n4_ := Aside0.mk (below_drew1 HB.out)
    clear HO107
    clear BK101
    clear BK102
    clear BK111
    clear HB
    have HO107 := n0_
    have BK101 := n1_
    have BK102 := n2_
    have BK111 := n3_
    have HB := n4_
    clear n0_ n1_ n2_ n3_ n4_
    refine start_ (n := 10) (S := fun w' => w'.cell? ⟨gb101, 0, none⟩ = some (.slice A0_0 l0_0.length c0_0) ∧ w'.cell? ⟨gb101, 1, none⟩ = some (.int .i64 a0_1) ∧ w'.cell? ⟨gb101, 2, none⟩ = some (.slice A0_2 l0_2.length c0_2) ∧ w'.cell? ⟨gb102, 0, none⟩ = some (.int .i64 a1_0) ∧ w'.cell? ⟨gb102, 1, none⟩ = some (.int .i64 a1_1) ∧ w'.cell? ⟨gb102, 2, none⟩ = some (.int .i64 a1_2) ∧ w'.cell? ⟨gb102, 3, none⟩ = some (.int .i64 a1_3)) (ds := []) #[false, false, false, false, false, false, false, false, false, false] (by kernel_rfl) rfl rfl ⟨(blk_cell BK101.out 0).trans rfl, (blk_cell BK101.out 1).trans rfl, (blk_cell BK101.out 2).trans rfl, (blk_cell BK102.out 0).trans rfl, (blk_cell BK102.out 1).trans rfl, (blk_cell BK102.out 2).trans rfl, (blk_cell BK102.out 3).trans rfl⟩ (fun hHeld => ?_); refine with_tabW luciferlaw01_PeelLess.tab6 luciferlaw01_PeelLess.bits6 (fun HT_ HW_ => ?_)
    generalize w25.drew = w26 at HO107 BK101 BK102 BK111 HB hHeld ⊢
    refine pure_ (i := 0) (N := some 35) (v := ?_) (a' := ?_) #[true, false, false, false, false, false, false, false, false, false] rfl rfl (any_of HT_.out (by kernel_rfl)) (fun _ _ _ h => h) (Or.inl ⟨by rfl, ?_⟩) ?_ ?_
    rotate_left
    · intro w'
      go_simp
      with_reducible rfl
    rotate_left
    · simp only [Act.put, List.setIfInBounds_toArray, List.set_cons_zero, List.set_cons_succ, i64_w, i32_w]
      rfl
    refine pure_ (i := 3) (N := some 38) (v := ?_) (a' := ?_) #[true, false, false, true, false, false, false, false, false, false] rfl rfl (any_of HT_.out (by kernel_rfl)) (fun _ _ _ h => h) (Or.inl ⟨by rfl, ?_⟩) ?_ ?_
    rotate_left
    · intro w'
      go_simp
      with_reducible rfl
    rotate_left
    · simp only [Act.put, List.setIfInBounds_toArray, List.set_cons_zero, List.set_cons_succ, i64_w, i32_w]
      rfl
    refine take_ (i := 1) (N := some 36) (v := ?_) (a' := ?_) #[true, true, false, true, false, false, false, false, false, false] rfl rfl (take_ofW HT_.out HW_.out (by kernel_rfl)) (fun _ _ _ h => h) (Or.inl ⟨by rfl, ?_⟩) hHeld ?_ ?_
    rotate_left
    · rintro w' ⟨s0, s1, s2, s3, s4, s5, s6⟩
      go_simp
      with_reducible rfl
    rotate_left
    · simp only [Act.put, List.setIfInBounds_toArray, List.set_cons_zero, List.set_cons_succ, i64_w, i32_w]
      rfl
    refine pure_ (i := 2) (N := some 37) (v := ?_) (a' := ?_) #[true, true, true, true, false, false, false, false, false, false] rfl rfl (any_of HT_.out (by kernel_rfl)) (fun _ _ _ h => h) (Or.inl ⟨by rfl, ?_⟩) ?_ ?_
    rotate_left
    · intro w'
      go_simp
      with_reducible rfl
    rotate_left
    · simp only [Act.put, List.setIfInBounds_toArray, List.set_cons_zero, List.set_cons_succ, i64_w, i32_w]
      rfl
    refine take_ (i := 4) (N := some 39) (v := ?_) (a' := ?_) #[true, true, true, true, true, false, false, false, false, false] rfl rfl (take_ofW HT_.out HW_.out (by kernel_rfl)) (fun _ _ _ h => h) (Or.inl ⟨by rfl, ?_⟩) hHeld ?_ ?_
    rotate_left
    · rintro w' ⟨s0, s1, s2, s3, s4, s5, s6⟩
      go_simp
      with_reducible rfl
    rotate_left
    · simp only [Act.put, List.setIfInBounds_toArray, List.set_cons_zero, List.set_cons_succ, i64_w, i32_w]
      rfl
    refine one_ (i := 5) (N := some 40) #[true, true, true, true, true, true, false, false, false, false] rfl rfl (one_of HT_.out (by kernel_rfl)) (by decide) (fun K hK => ?_)
    refine goes_ Tryd.func49 (by kernel_rfl) rfl #[.int .i64 a1_3, .int .i64 2] (by rfl) rfl rfl (by (try simp only [List.map_toArray, List.map_cons, List.map_nil]); first | done | rfl | (simp only [List.length_drop, List.length_take]; rfl)) ?_
    with_reducible refine (luciferref00_Spin.calls a1_3 2 t112 _ A7.out).mono ?_
    rintro e w' ⟨rfl, ⟨nd, rfl⟩⟩
    refine ⟨_, rfl, ?_⟩
    refine hK.out _ _ ⟨(blk_cell BK101.out 0).trans rfl, (blk_cell BK101.out 1).trans rfl, (blk_cell BK101.out 2).trans rfl, (blk_cell BK102.out 0).trans rfl, (blk_cell BK102.out 1).trans rfl, (blk_cell BK102.out 2).trans rfl, (blk_cell BK102.out 3).trans rfl⟩ (fun hHeld => ?_)
    clear hK K
    refine norm_ (a' := ?_) ?_ ?_
    rotate_left
    · show Act.put _ (some 40) _ = _
      simp only [Act.put, List.setIfInBounds_toArray, List.set_cons_zero, List.set_cons_succ, i64_w, i32_w]
      rfl
    refine pure_ (i := 6) (N := some 41) (v := ?_) (a' := ?_) #[true, true, true, true, true, true, true, false, false, false] rfl rfl (any_of HT_.out (by kernel_rfl)) (fun _ _ _ h => h) (Or.inl ⟨by rfl, ?_⟩) ?_ ?_
    rotate_left
    · intro w'
      go_simp
      with_reducible rfl
    rotate_left
    · simp only [Act.put, List.setIfInBounds_toArray, List.set_cons_zero, List.set_cons_succ, i64_w, i32_w]
      rfl
    refine pure_ (i := 7) (N := some 42) (v := ?_) (a' := ?_) #[true, true, true, true, true, true, true, true, false, false] rfl rfl (any_of HT_.out (by kernel_rfl)) (fun _ _ _ h => h) (Or.inl ⟨by rfl, ?_⟩) ?_ ?_
    rotate_left
    · intro w'
      go_simp
      with_reducible rfl
    rotate_left
    · simp only [Act.put, List.setIfInBounds_toArray, List.set_cons_zero, List.set_cons_succ, i64_w, i32_w]
      rfl
    refine pure_ (i := 8) (N := some 43) (v := ?_) (a' := ?_) #[true, true, true, true, true, true, true, true, true, false] rfl rfl (any_of HT_.out (by kernel_rfl)) (fun _ _ _ h => h) (Or.inl ⟨by rfl, ?_⟩) ?_ ?_
    rotate_left
    · intro w'
      go_simp
      with_reducible rfl
    rotate_left
    · simp only [Act.put, List.setIfInBounds_toArray, List.set_cons_zero, List.set_cons_succ, i64_w, i32_w]
      rfl
    refine one_ (i := 9) (N := none) #[true, true, true, true, true, true, true, true, true, true] rfl rfl (one_of HT_.out (by kernel_rfl)) (by decide) (fun K hK => ?_)
    have hs27 : w26.cell? ⟨gb111, 1, none⟩ = some (.int .i64 a0_1) := (blk_cell BK111.out 1).trans rfl
    have hfs27 := blk_frozen BK111.out 1
    have hns27_0 := NB101_111.out
    have hns27_1 := NB102_111.out
    have hms27_0 := NB111_101.out
    have hms27_1 := NB111_102.out
    refine skip_ (w1 := ?_) (by rfl) rfl ?_ ?_
    rotate_left
    · go_simp
      rfl
    refine hK.out _ _ ⟨((cell_far (p := ⟨gb111, _, none⟩) NB101_111.out _).trans (hHeld.1)), ((cell_far (p := ⟨gb111, _, none⟩) NB101_111.out _).trans (hHeld.2.1)), ((cell_far (p := ⟨gb111, _, none⟩) NB101_111.out _).trans (hHeld.2.2.1)), ((cell_far (p := ⟨gb111, _, none⟩) NB102_111.out _).trans (hHeld.2.2.2.1)), ((cell_far (p := ⟨gb111, _, none⟩) NB102_111.out _).trans (hHeld.2.2.2.2.1)), ((cell_far (p := ⟨gb111, _, none⟩) NB102_111.out _).trans (hHeld.2.2.2.2.2.1)), ((cell_far (p := ⟨gb111, _, none⟩) NB102_111.out _).trans (hHeld.2.2.2.2.2.2))⟩ (fun hHeld => ?_)
    clear hK K
    refine done_ (done_of HT_.out (by kernel_rfl)) ?_
    obtain ⟨hcz28_0, hcz28_1, hcz28_2, hfz28_0, hfz28_1, hfz28_2⟩ := cz3 BK111
    go_upto_region 8 with (first | ((with_reducible refine gate_callee (f := 30) rfl ?_); refine goesL_ (some 46) rfl rfl Tryd.func30 (by kernel_rfl) rfl #[.agg #[.slice A0_0 l0_0.length c0_0, .int .i64 ji8, .slice A0_2 l0_2.length c0_2]] rfl (by (try simp only [List.map_toArray, List.map_cons, List.map_nil]); first | done | (simp only [hji8]; rfl) | rfl | (simp only [List.length_drop, List.length_take]; rfl)) ?_; (with_reducible refine (peel_Best.calls _ _ l0_0 ji8 _ _ l0_2 t113 t116 _ ?side1 ?side2 ?side3 ?side4 ?side5 A9.out).mono ?_); (case side1 => exact Kd.C_below HR0_0.out (B_)); (case side2 => exact HC0_0.out); (case side3 => exact Kd.C_below HR0_2.out (B_)); (case side4 => exact HC0_2.out); (case side5 => exact Go.Proofs.YtigofgdmefobaaaDoor.Peel.EndsAt.below HE.out (B_)); rintro e w29 ⟨v114, rfl, ho0, hb⟩; refine ⟨_, rfl, ?_⟩; have n0_ := Aside0.mk (Kd.V_below (by (with_reducible repeat (first | apply Kd.V_alloc | apply Kd.V_drewN | apply Kd.V_drew)); exact (Kd.V_mono (e := 3) (base := w.heap.size) (Kd.V_far (p := ⟨gb111, 1, none⟩) (Kd.V_mono HO107.out (fun k_ hk => (⟨hk, hk.2.2⟩ : _ ∧ k_ ≠ gb111))) (fun _ hk => hk.2) (.int .i64 ji8)) (fun _ h_ => h_.1))) hb); have n1_ := Aside0.mk (Kd.V_lower (Kd.V_mono (ok' := fun k_ => k_ ≠ gb101 ∧ k_ ≠ gb102 ∧ k_ ≠ gb111) ho0 (fun k_ hk_ => ⟨(Kd.freshB (g := gb101) (o := .cells #[.slice A0_0 l0_0.length c0_0, .int .i64 a0_1, .slice A0_2 l0_2.length c0_2] 25 (0, 0)) (by (with_reducible repeat (first | refine blk_drewN ?_ _ | refine blk_drew ?_ | refine blk_alloc ?_ _)); refine blk_far ?_ NB101_111.out _; (with_reducible repeat (first | refine blk_drewN ?_ _ | refine blk_drew ?_ | refine blk_alloc ?_ _)); exact BK101.out) k_ hk_), (Kd.freshB (g := gb102) (o := .cells #[.int .i64 a1_0, .int .i64 a1_1, .int .i64 a1_2, .int .i64 a1_3] 58 (0, 0)) (by (with_reducible repeat (first | refine blk_drewN ?_ _ | refine blk_drew ?_ | refine blk_alloc ?_ _)); refine blk_far ?_ NB102_111.out _; (with_reducible repeat (first | refine blk_drewN ?_ _ | refine blk_drew ?_ | refine blk_alloc ?_ _)); exact BK102.out) k_ hk_), (Kd.freshB (g := gb111) (o := .cells #[.slice A0_0 l0_0.length c0_0, .int .i64 ji8, .slice A0_2 l0_2.length c0_2] 25 (0, 0)) (by (with_reducible repeat (first | refine blk_drewN ?_ _ | refine blk_drew ?_ | refine blk_alloc ?_ _)); refine blk_put (cs := #[.slice A0_0 l0_0.length c0_0, .int .i64 a0_1, .slice A0_2 l0_2.length c0_2]) ?_ 1 _ rfl; (with_reducible repeat (first | refine blk_drewN ?_ _ | refine blk_drew ?_ | refine blk_alloc ?_ _)); exact BK111.out) k_ hk_)⟩)) (below_size (B_))); have n2_ := Aside0.mk (blk_below (g := gb101) (o := .cells #[.slice A0_0 l0_0.length c0_0, .int .i64 a0_1, .slice A0_2 l0_2.length c0_2] 25 (0, 0)) (by (with_reducible repeat (first | refine blk_drewN ?_ _ | refine blk_drew ?_ | refine blk_alloc ?_ _)); refine blk_far ?_ NB101_111.out _; (with_reducible repeat (first | refine blk_drewN ?_ _ | refine blk_drew ?_ | refine blk_alloc ?_ _)); exact BK101.out) hb); have n3_ := Aside0.mk (blk_below (g := gb102) (o := .cells #[.int .i64 a1_0, .int .i64 a1_1, .int .i64 a1_2, .int .i64 a1_3] 58 (0, 0)) (by (with_reducible repeat (first | refine blk_drewN ?_ _ | refine blk_drew ?_ | refine blk_alloc ?_ _)); refine blk_far ?_ NB102_111.out _; (with_reducible repeat (first | refine blk_drewN ?_ _ | refine blk_drew ?_ | refine blk_alloc ?_ _)); exact BK102.out) hb); have n4_ := Aside0.mk (blk_below (g := gb111) (o := .cells #[.slice A0_0 l0_0.length c0_0, .int .i64 ji8, .slice A0_2 l0_2.length c0_2] 25 (0, 0)) (by (with_reducible repeat (first | refine blk_drewN ?_ _ | refine blk_drew ?_ | refine blk_alloc ?_ _)); refine blk_put (cs := #[.slice A0_0 l0_0.length c0_0, .int .i64 a0_1, .slice A0_2 l0_2.length c0_2]) ?_ 1 _ rfl; (with_reducible repeat (first | refine blk_drewN ?_ _ | refine blk_drew ?_ | refine blk_alloc ?_ _)); exact BK111.out) hb); have n5_ := Aside0.mk (below_step (B_) hb); clear HO107; clear BK101; clear BK102; clear BK111; clear HB; have HO107 := n0_; have HO115 := n1_; have BK101 := n2_; have BK102 := n3_; have BK111 := n4_; have HB := n5_; clear n0_ n1_ n2_ n3_ n4_ n5_; (try clear hb); (try clear hb2); (try clear hk); (try clear hi); (try clear ho0)))
    (try simp only [Act.put, List.setIfInBounds_toArray, List.set_cons_zero, List.set_cons_succ])
    go_cut [65] (fun v65 wc => ∃ (kq : Nat) (x65_9 : Bool), v65 = .bool x65_9 ∧ Aside0 (luciferlaw01_PeelLess.j0 kq t105 t109 x65_9 l0_0 a0_1 l0_2 a1_0 a1_1 a1_2 a1_3 = some r) ∧ Aside0 (kq ≤ k) ∧ Aside0 (Kd.V (Kd.int .i64) 3 wc w.heap.size (fun k_ => k_ ≠ gb101 ∧ k_ ≠ gb102 ∧ k_ ≠ gb111) v106 t105) ∧ Aside0 (wc.heap[gb101]? = some (.cells #[(.slice A0_0 l0_0.length c0_0), .int .i64 a0_1, (.slice A0_2 l0_2.length c0_2)] 25 (0, 0))) ∧ Aside0 (wc.heap[gb102]? = some (.cells #[.int .i64 a1_0, .int .i64 a1_1, .int .i64 a1_2, .int .i64 a1_3] 58 (0, 0))) ∧ Aside0 (wc.heap[gb111]? = some (.cells #[(.slice A0_0 l0_0.length c0_0), .int .i64 ji8, (.slice A0_2 l0_2.length c0_2)] 25 (0, 0))) ∧ Aside0 (Below w.heap.size w wc))
    case first =>
      have H := HC10.out
      clear HC10
      by_cases c30 : t108 = 0
      · rw [if_pos c30] at H
        have c30b0 : (t108 == 0) = true := beq_iff_eq.mpr c30
        have c30b1 : (t108 != 0) = false := bne_eq_false_iff_eq.mpr c30
        clear c30
        (first | rw [c30b0] | (simp only [i64_w, i32_w]; rw [c30b0]) | skip)
        by_cases c31 : t110 = 0
        · rw [if_pos c31] at H
          have c31b0 : (t110 == 0) = true := beq_iff_eq.mpr c31
          have c31b1 : (t110 != 0) = false := bne_eq_false_iff_eq.mpr c31
          clear c31
          by_cases c32 : t116 = 0
          · rw [if_pos c32] at H
            have c32b0 : (t116 == 0) = true := beq_iff_eq.mpr c32
            have c32b1 : (t116 != 0) = false := bne_eq_false_iff_eq.mpr c32
            clear c32
            have H' := Aside0.mk H
            clear H
            obtain ⟨Ao33, co33, eo33⟩ := Kd.V_slice HO115.out
            subst eo33
            obtain ⟨Ao34, co34, eo34⟩ := Kd.V_slice HO107.out
            subst eo34
            go_wp2
            go_meet
            case rel => exact ⟨_, (decide ((t113.length : Int) > (t105.length : Int))), S_, H', ⟨by first | omega | exact Nat.le_refl _⟩, ⟨by (with_reducible repeat (first | apply Kd.V_alloc | apply Kd.V_drewN | apply Kd.V_drew)); exact HO107.out⟩, ⟨K_ BK101⟩, ⟨K_ BK102⟩, ⟨K_ BK111⟩, ⟨B_⟩⟩
          · rw [if_neg c32] at H
            have c32b0 : (t116 == 0) = false := beq_eq_false_iff_ne.mpr c32
            have c32b1 : (t116 != 0) = true := bne_iff_ne.mpr c32
            have H' := Aside0.mk H
            clear H
            go_wp2
            go_meet
            case rel => exact ⟨_, (true), S_, H', ⟨by first | omega | exact Nat.le_refl _⟩, ⟨by (with_reducible repeat (first | apply Kd.V_alloc | apply Kd.V_drewN | apply Kd.V_drew)); exact HO107.out⟩, ⟨K_ BK101⟩, ⟨K_ BK102⟩, ⟨K_ BK111⟩, ⟨B_⟩⟩
        · rw [if_neg c31] at H
          have c31b0 : (t110 == 0) = false := beq_eq_false_iff_ne.mpr c31
          have c31b1 : (t110 != 0) = true := bne_iff_ne.mpr c31
          have H' := Aside0.mk H
          clear H
          go_wp2
          go_meet
          case rel => exact ⟨_, (true), S_, H', ⟨by first | omega | exact Nat.le_refl _⟩, ⟨by (with_reducible repeat (first | apply Kd.V_alloc | apply Kd.V_drewN | apply Kd.V_drew)); exact HO107.out⟩, ⟨K_ BK101⟩, ⟨K_ BK102⟩, ⟨K_ BK111⟩, ⟨B_⟩⟩
      · rw [if_neg c30] at H
        have c30b0 : (t108 == 0) = false := beq_eq_false_iff_ne.mpr c30
        have c30b1 : (t108 != 0) = true := bne_iff_ne.mpr c30
        (first | rw [c30b0] | (simp only [i64_w, i32_w]; rw [c30b0]) | skip)
        have H' := Aside0.mk H
        clear H
        go_wp2
        go_meet
        case rel => exact ⟨_, (true), S_, H', ⟨by first | omega | exact Nat.le_refl _⟩, ⟨by (with_reducible repeat (first | apply Kd.V_alloc | apply Kd.V_drewN | apply Kd.V_drew)); exact HO107.out⟩, ⟨K_ BK101⟩, ⟨K_ BK102⟩, ⟨K_ BK111⟩, ⟨B_⟩⟩
    case rest =>
      clear HC10
      try clear c1; try clear c2; try clear p2; try clear c3; try clear c4; try clear p6; try clear c10; try clear c13; try clear c22; try clear c23; try clear c30; try clear c30b0; try clear c30b1; try clear c31; try clear c31b0; try clear c31b1; try clear c32; try clear c32b0; try clear c32b1; try clear hcz14_0; try clear hcz14_1; try clear hcz14_2; try clear hcz16_0; try clear hcz16_1; try clear hcz16_2; try clear hcz18_0; try clear hcz18_1; try clear hcz18_2; try clear hcz20_0; try clear hcz20_1; try clear hcz20_2; try clear hcz24_0; try clear hcz24_1; try clear hcz24_2; try clear hcz28_0; try clear hcz28_1; try clear hcz28_2; try clear hfz14_0; try clear hfz14_1; try clear hfz14_2; try clear hfz16_0; try clear hfz16_1; try clear hfz16_2; try clear hfz18_0; try clear hfz18_1; try clear hfz18_2; try clear hfz20_0; try clear hfz20_1; try clear hfz20_2; try clear hfz24_0; try clear hfz24_1; try clear hfz24_2; try clear hfz28_0; try clear hfz28_1; try clear hfz28_2
      obtain ⟨kq, x65_9, rfl, HA, HJ9, HO_5, BK101, BK102, BK111, HB⟩ := hcut
      cases kq with
      | zero => exact absurd HA.out (by simp [luciferlaw01_PeelLess.j0])
      | succ kj9 =>
        have H := HA.out
        clear HA
        simp only [luciferlaw01_PeelLess.j0] at H
        by_cases c35 : x65_9 = true
        · subst c35
          have H1 : (some false) = some r := by rw [if_pos rfl] at H; exact H
          clear H
          have H := H1
          clear H1
          exact absurd (Option.some.inj H) (by rw [hT]; decide)
        · replace c35 := Bool.eq_false_iff.mpr c35
          subst c35
          have H1 : (if (l0_2.length : Int) = 0 then ((luciferlaw01_peeled.f).bind fun t117 => (some t117)) else ((luciferref00_Spin.f a1_0 (l0_2.length : Int)).bind fun t118 => ((some (([] : List (S61)) : List (S61))).bind fun y121 => (if 0 ≤ t118 then (if t118 ≤ (l0_2.length : Int) then ((some (l0_2.take (t118 : Int).toNat : List (S61))).bind fun y124 => (if y121.length + y124.length < 4398046511104 then ((some (y121 ++ y124 : List (S61))).bind fun y128 => (if 0 ≤ (wrap64 (t118 + 1)) then (if (wrap64 (t118 + 1)) ≤ (l0_2.length : Int) then ((some (l0_2.drop ((wrap64 (t118 + 1)) : Int).toNat : List (S61))).bind fun y131 => (if y128.length + y131.length < 4398046511104 then ((some (([] : List (S61)) : List (S61))).bind fun y138 => (if y138.length + l0_2.length < 4398046511104 then ((some (y138 ++ l0_2 : List (S61))).bind fun y141 => (if t118 < (l0_2.length : Int) then ((luciferref00_Drawn.f ((rd_T61 l0_2 t118).f0.f0) ((rd_T61 l0_2 t118).f0.f1) a1_1).bind fun t145 => (if t118 < (y141.length : Int) then ((some (y141.set (t118 : Int).toNat (⟨(⟨t145, (rd_T61 y141 t118).f0.f1⟩ : S39), (⟨(rd_T61 y141 t118).f1.f0, (rd_T61 y141 t118).f1.f1⟩ : S39)⟩ : S61) : List (S61))).bind fun y146 => ((luciferref00_Drawn.f ((rd_T61 l0_2 t118).f1.f0) ((rd_T61 l0_2 t118).f1.f1) a1_2).bind fun t148 => ((some (y146.set (t118 : Int).toNat (⟨(⟨(rd_T61 y146 t118).f0.f0, (rd_T61 y146 t118).f0.f1⟩ : S39), (⟨(rd_T61 y146 t118).f1.f0, t148⟩ : S39)⟩ : S61) : List (S61))).bind fun y149 => ((peel_Best.f l0_0 a0_1 (y128 ++ y131)).bind fun bt150 => ((peel_Best.f l0_0 a0_1 y149).bind fun bt154 => ((peel_Hope.f l0_0 a0_1 y149).bind fun bt158 => (if bt150.2 = 0 then (if bt154.2 = 0 then (if bt158.2 = 0 then (if (bt150.1.length : Int) ≥ (t105.length : Int) then (if (bt154.1.length : Int) ≥ (t105.length : Int) then (if bt158.1 ≤ t109 then ((luciferlaw01_peeled.f).bind fun t160 => (some t160)) else (some false)) else (some false)) else (some false)) else (some false)) else (some false)) else (some false)))))))) else (none))) else (none))) else (none))) else (none))) else (none)) else (none))) else (none))) else (none)) else (none))))) = some r := by rw [if_neg (show ¬ (false = true) by decide)] at H; exact H
          clear H
          have H := H1
          clear H1
          by_cases c36 : (l0_2.length : Int) = 0
          · rw [if_pos c36] at H
            have c36b0 : ((l0_2.length : Int) == 0) = true := beq_iff_eq.mpr c36
            have c36b1 : ((l0_2.length : Int) != 0) = false := bne_eq_false_iff_eq.mpr c36
            clear c36
            replace H := Option.bind_eq_some_iff.mp H
            obtain ⟨t117, A370, H⟩ := H
            replace H : (some t117) = some r := H
            have A37 := Aside0.mk A370
            clear A370
            obtain rfl := Option.some.inj H
            have hnb38 := NB101_102.out
            have hnc38 := NB102_101.out
            have hnb39 := NB101_111.out
            have hnc39 := NB111_101.out
            obtain ⟨hcz40_0, hcz40_1, hcz40_2, hfz40_0, hfz40_1, hfz40_2⟩ := cz3 BK101
            go_wp2_with (first | ((with_reducible refine gate_callee (f := 23) rfl ?_); refine goesL_ (some 70) rfl rfl Tryd.func23 (by kernel_rfl) rfl #[] rfl (by (try simp only [List.map_toArray, List.map_cons, List.map_nil]); first | done | rfl | (simp only [List.length_drop, List.length_take]; rfl)) ?_; (with_reducible refine (luciferlaw01_peeled.calls  t117 _ ?side1 A37.out).mono ?_); (case side1 => exact Go.Proofs.YtigofgdmefobaaaDoor.Peel.EndsAt.below HE.out (B_)); rintro e w41 ⟨rfl, hb⟩; refine ⟨_, rfl, ?_⟩; have n0_ := Aside0.mk (Kd.V_below (by (with_reducible repeat (first | apply Kd.V_alloc | apply Kd.V_drewN | apply Kd.V_drew)); exact HO_5.out) hb); have n1_ := Aside0.mk (blk_below (g := gb101) (o := .cells #[.slice A0_0 l0_0.length c0_0, .int .i64 a0_1, .slice A0_2 l0_2.length c0_2] 25 (0, 0)) (K_ BK101) hb); have n2_ := Aside0.mk (blk_below (g := gb102) (o := .cells #[.int .i64 a1_0, .int .i64 a1_1, .int .i64 a1_2, .int .i64 a1_3] 58 (0, 0)) (K_ BK102) hb); have n3_ := Aside0.mk (blk_below (g := gb111) (o := .cells #[.slice A0_0 l0_0.length c0_0, .int .i64 ji8, .slice A0_2 l0_2.length c0_2] 25 (0, 0)) (K_ BK111) hb); have n4_ := Aside0.mk (below_step (B_) hb); clear HO_5; clear BK101; clear BK102; clear BK111; clear HB; have HO_5 := n0_; have BK101 := n1_; have BK102 := n2_; have BK111 := n3_; have HB := n4_; clear n0_ n1_ n2_ n3_ n4_; (try clear hb); (try clear hb2); (try clear hk); (try clear hi)))
            go_ret
            exact ⟨by first | rfl | (simp [errW_none, errW_some] <;> rfl) | (simp only [← hji8]; first | rfl | (simp [errW_none, errW_some] <;> rfl)) | (simp [*, errW_none, errW_some] <;> rfl), B_⟩
          · rw [if_neg c36] at H
            have c36b0 : ((l0_2.length : Int) == 0) = false := beq_eq_false_iff_ne.mpr c36
            have c36b1 : ((l0_2.length : Int) != 0) = true := bne_iff_ne.mpr c36
            have c36b2 : ¬ (l0_2 = []) := fun h_ => c36 (by rw [h_]; rfl)
            replace H := Option.bind_eq_some_iff.mp H
            obtain ⟨t118, A420, H⟩ := H
            replace H : ((some (([] : List (S61)) : List (S61))).bind fun y121 => (if 0 ≤ t118 then (if t118 ≤ (l0_2.length : Int) then ((some (l0_2.take (t118 : Int).toNat : List (S61))).bind fun y124 => (if y121.length + y124.length < 4398046511104 then ((some (y121 ++ y124 : List (S61))).bind fun y128 => (if 0 ≤ (wrap64 (t118 + 1)) then (if (wrap64 (t118 + 1)) ≤ (l0_2.length : Int) then ((some (l0_2.drop ((wrap64 (t118 + 1)) : Int).toNat : List (S61))).bind fun y131 => (if y128.length + y131.length < 4398046511104 then ((some (([] : List (S61)) : List (S61))).bind fun y138 => (if y138.length + l0_2.length < 4398046511104 then ((some (y138 ++ l0_2 : List (S61))).bind fun y141 => (if t118 < (l0_2.length : Int) then ((luciferref00_Drawn.f ((rd_T61 l0_2 t118).f0.f0) ((rd_T61 l0_2 t118).f0.f1) a1_1).bind fun t145 => (if t118 < (y141.length : Int) then ((some (y141.set (t118 : Int).toNat (⟨(⟨t145, (rd_T61 y141 t118).f0.f1⟩ : S39), (⟨(rd_T61 y141 t118).f1.f0, (rd_T61 y141 t118).f1.f1⟩ : S39)⟩ : S61) : List (S61))).bind fun y146 => ((luciferref00_Drawn.f ((rd_T61 l0_2 t118).f1.f0) ((rd_T61 l0_2 t118).f1.f1) a1_2).bind fun t148 => ((some (y146.set (t118 : Int).toNat (⟨(⟨(rd_T61 y146 t118).f0.f0, (rd_T61 y146 t118).f0.f1⟩ : S39), (⟨(rd_T61 y146 t118).f1.f0, t148⟩ : S39)⟩ : S61) : List (S61))).bind fun y149 => ((peel_Best.f l0_0 a0_1 (y128 ++ y131)).bind fun bt150 => ((peel_Best.f l0_0 a0_1 y149).bind fun bt154 => ((peel_Hope.f l0_0 a0_1 y149).bind fun bt158 => (if bt150.2 = 0 then (if bt154.2 = 0 then (if bt158.2 = 0 then (if (bt150.1.length : Int) ≥ (t105.length : Int) then (if (bt154.1.length : Int) ≥ (t105.length : Int) then (if bt158.1 ≤ t109 then ((luciferlaw01_peeled.f).bind fun t160 => (some t160)) else (some false)) else (some false)) else (some false)) else (some false)) else (some false)) else (some false)))))))) else (none))) else (none))) else (none))) else (none))) else (none)) else (none))) else (none))) else (none)) else (none))) = some r := H
            have A42 := Aside0.mk A420
            clear A420
            obtain ⟨y121, hy121⟩ : ∃ y_ : List (S61), y_ = (([] : List (S61))) := ⟨_, rfl⟩
            replace H : (if 0 ≤ t118 then (if t118 ≤ (l0_2.length : Int) then ((some (l0_2.take (t118 : Int).toNat : List (S61))).bind fun y124 => (if y121.length + y124.length < 4398046511104 then ((some (y121 ++ y124 : List (S61))).bind fun y128 => (if 0 ≤ (wrap64 (t118 + 1)) then (if (wrap64 (t118 + 1)) ≤ (l0_2.length : Int) then ((some (l0_2.drop ((wrap64 (t118 + 1)) : Int).toNat : List (S61))).bind fun y131 => (if y128.length + y131.length < 4398046511104 then ((some (([] : List (S61)) : List (S61))).bind fun y138 => (if y138.length + l0_2.length < 4398046511104 then ((some (y138 ++ l0_2 : List (S61))).bind fun y141 => (if t118 < (l0_2.length : Int) then ((luciferref00_Drawn.f ((rd_T61 l0_2 t118).f0.f0) ((rd_T61 l0_2 t118).f0.f1) a1_1).bind fun t145 => (if t118 < (y141.length : Int) then ((some (y141.set (t118 : Int).toNat (⟨(⟨t145, (rd_T61 y141 t118).f0.f1⟩ : S39), (⟨(rd_T61 y141 t118).f1.f0, (rd_T61 y141 t118).f1.f1⟩ : S39)⟩ : S61) : List (S61))).bind fun y146 => ((luciferref00_Drawn.f ((rd_T61 l0_2 t118).f1.f0) ((rd_T61 l0_2 t118).f1.f1) a1_2).bind fun t148 => ((some (y146.set (t118 : Int).toNat (⟨(⟨(rd_T61 y146 t118).f0.f0, (rd_T61 y146 t118).f0.f1⟩ : S39), (⟨(rd_T61 y146 t118).f1.f0, t148⟩ : S39)⟩ : S61) : List (S61))).bind fun y149 => ((peel_Best.f l0_0 a0_1 (y128 ++ y131)).bind fun bt150 => ((peel_Best.f l0_0 a0_1 y149).bind fun bt154 => ((peel_Hope.f l0_0 a0_1 y149).bind fun bt158 => (if bt150.2 = 0 then (if bt154.2 = 0 then (if bt158.2 = 0 then (if (bt150.1.length : Int) ≥ (t105.length : Int) then (if (bt154.1.length : Int) ≥ (t105.length : Int) then (if bt158.1 ≤ t109 then ((luciferlaw01_peeled.f).bind fun t160 => (some t160)) else (some false)) else (some false)) else (some false)) else (some false)) else (some false)) else (some false)))))))) else (none))) else (none))) else (none))) else (none))) else (none)) else (none))) else (none))) else (none)) else (none)) = some r := by first | (rw [hy121]; with_reducible exact H) | (have H2_ := (Option.bind_some _ _).symm.trans H; rw [hy121]; with_reducible exact H2_) | (have H2_ := (Option.bind_some _ _).symm.trans H; with_reducible exact H2_) | with_reducible exact H | (rw [hy121]; exact H) | exact H
            have Ny121 := Aside0.mk hy121
            clear hy121
            by_cases c43 : 0 ≤ t118
            · rw [if_pos c43] at H
              have c43b0 := eq_true c43
              have c43b1 : decide (0 ≤ t118) = true := decide_eq_true c43
              clear c43
              by_cases c44 : t118 ≤ (l0_2.length : Int)
              · rw [if_pos c44] at H
                have c44b0 := eq_true c44
                have c44b1 : decide (t118 ≤ (l0_2.length : Int)) = true := decide_eq_true c44
                clear c44
                obtain ⟨y124, hy124⟩ : ∃ y_ : List (S61), y_ = (l0_2.take (t118 : Int).toNat) := ⟨_, rfl⟩
                replace H : (if y121.length + y124.length < 4398046511104 then ((some (y121 ++ y124 : List (S61))).bind fun y128 => (if 0 ≤ (wrap64 (t118 + 1)) then (if (wrap64 (t118 + 1)) ≤ (l0_2.length : Int) then ((some (l0_2.drop ((wrap64 (t118 + 1)) : Int).toNat : List (S61))).bind fun y131 => (if y128.length + y131.length < 4398046511104 then ((some (([] : List (S61)) : List (S61))).bind fun y138 => (if y138.length + l0_2.length < 4398046511104 then ((some (y138 ++ l0_2 : List (S61))).bind fun y141 => (if t118 < (l0_2.length : Int) then ((luciferref00_Drawn.f ((rd_T61 l0_2 t118).f0.f0) ((rd_T61 l0_2 t118).f0.f1) a1_1).bind fun t145 => (if t118 < (y141.length : Int) then ((some (y141.set (t118 : Int).toNat (⟨(⟨t145, (rd_T61 y141 t118).f0.f1⟩ : S39), (⟨(rd_T61 y141 t118).f1.f0, (rd_T61 y141 t118).f1.f1⟩ : S39)⟩ : S61) : List (S61))).bind fun y146 => ((luciferref00_Drawn.f ((rd_T61 l0_2 t118).f1.f0) ((rd_T61 l0_2 t118).f1.f1) a1_2).bind fun t148 => ((some (y146.set (t118 : Int).toNat (⟨(⟨(rd_T61 y146 t118).f0.f0, (rd_T61 y146 t118).f0.f1⟩ : S39), (⟨(rd_T61 y146 t118).f1.f0, t148⟩ : S39)⟩ : S61) : List (S61))).bind fun y149 => ((peel_Best.f l0_0 a0_1 (y128 ++ y131)).bind fun bt150 => ((peel_Best.f l0_0 a0_1 y149).bind fun bt154 => ((peel_Hope.f l0_0 a0_1 y149).bind fun bt158 => (if bt150.2 = 0 then (if bt154.2 = 0 then (if bt158.2 = 0 then (if (bt150.1.length : Int) ≥ (t105.length : Int) then (if (bt154.1.length : Int) ≥ (t105.length : Int) then (if bt158.1 ≤ t109 then ((luciferlaw01_peeled.f).bind fun t160 => (some t160)) else (some false)) else (some false)) else (some false)) else (some false)) else (some false)) else (some false)))))))) else (none))) else (none))) else (none))) else (none))) else (none)) else (none))) else (none)) = some r := by first | (rw [hy124]; with_reducible exact H) | (have H2_ := (Option.bind_some _ _).symm.trans H; rw [hy124]; with_reducible exact H2_) | (have H2_ := (Option.bind_some _ _).symm.trans H; with_reducible exact H2_) | with_reducible exact H | (rw [hy124]; exact H) | exact H
                have Ny124 := Aside0.mk hy124
                clear hy124
                by_cases c45 : y121.length + y124.length < 4398046511104
                · rw [if_pos c45] at H
                  have LMc45 := Aside0.mk c45
                  clear c45
                  obtain ⟨y128, hy128⟩ : ∃ y_ : List (S61), y_ = (y121 ++ y124) := ⟨_, rfl⟩
                  replace H : (if 0 ≤ (wrap64 (t118 + 1)) then (if (wrap64 (t118 + 1)) ≤ (l0_2.length : Int) then ((some (l0_2.drop ((wrap64 (t118 + 1)) : Int).toNat : List (S61))).bind fun y131 => (if y128.length + y131.length < 4398046511104 then ((some (([] : List (S61)) : List (S61))).bind fun y138 => (if y138.length + l0_2.length < 4398046511104 then ((some (y138 ++ l0_2 : List (S61))).bind fun y141 => (if t118 < (l0_2.length : Int) then ((luciferref00_Drawn.f ((rd_T61 l0_2 t118).f0.f0) ((rd_T61 l0_2 t118).f0.f1) a1_1).bind fun t145 => (if t118 < (y141.length : Int) then ((some (y141.set (t118 : Int).toNat (⟨(⟨t145, (rd_T61 y141 t118).f0.f1⟩ : S39), (⟨(rd_T61 y141 t118).f1.f0, (rd_T61 y141 t118).f1.f1⟩ : S39)⟩ : S61) : List (S61))).bind fun y146 => ((luciferref00_Drawn.f ((rd_T61 l0_2 t118).f1.f0) ((rd_T61 l0_2 t118).f1.f1) a1_2).bind fun t148 => ((some (y146.set (t118 : Int).toNat (⟨(⟨(rd_T61 y146 t118).f0.f0, (rd_T61 y146 t118).f0.f1⟩ : S39), (⟨(rd_T61 y146 t118).f1.f0, t148⟩ : S39)⟩ : S61) : List (S61))).bind fun y149 => ((peel_Best.f l0_0 a0_1 (y128 ++ y131)).bind fun bt150 => ((peel_Best.f l0_0 a0_1 y149).bind fun bt154 => ((peel_Hope.f l0_0 a0_1 y149).bind fun bt158 => (if bt150.2 = 0 then (if bt154.2 = 0 then (if bt158.2 = 0 then (if (bt150.1.length : Int) ≥ (t105.length : Int) then (if (bt154.1.length : Int) ≥ (t105.length : Int) then (if bt158.1 ≤ t109 then ((luciferlaw01_peeled.f).bind fun t160 => (some t160)) else (some false)) else (some false)) else (some false)) else (some false)) else (some false)) else (some false)))))))) else (none))) else (none))) else (none))) else (none))) else (none)) else (none)) = some r := by first | (rw [hy128]; with_reducible exact H) | (have H2_ := (Option.bind_some _ _).symm.trans H; rw [hy128]; with_reducible exact H2_) | (have H2_ := (Option.bind_some _ _).symm.trans H; with_reducible exact H2_) | with_reducible exact H | (rw [hy128]; exact H) | exact H
                  have Ny128 := Aside0.mk hy128
                  clear hy128
                  obtain ⟨ji46, hji46⟩ : ∃ j_ : Int, (wrap64 (t118 + 1)) = j_ := ⟨_, rfl⟩
                  replace H : (if 0 ≤ (ji46) then (if (ji46) ≤ (l0_2.length : Int) then ((some (l0_2.drop ((ji46) : Int).toNat : List (S61))).bind fun y131 => (if y128.length + y131.length < 4398046511104 then ((some (([] : List (S61)) : List (S61))).bind fun y138 => (if y138.length + l0_2.length < 4398046511104 then ((some (y138 ++ l0_2 : List (S61))).bind fun y141 => (if t118 < (l0_2.length : Int) then ((luciferref00_Drawn.f ((rd_T61 l0_2 t118).f0.f0) ((rd_T61 l0_2 t118).f0.f1) a1_1).bind fun t145 => (if t118 < (y141.length : Int) then ((some (y141.set (t118 : Int).toNat (⟨(⟨t145, (rd_T61 y141 t118).f0.f1⟩ : S39), (⟨(rd_T61 y141 t118).f1.f0, (rd_T61 y141 t118).f1.f1⟩ : S39)⟩ : S61) : List (S61))).bind fun y146 => ((luciferref00_Drawn.f ((rd_T61 l0_2 t118).f1.f0) ((rd_T61 l0_2 t118).f1.f1) a1_2).bind fun t148 => ((some (y146.set (t118 : Int).toNat (⟨(⟨(rd_T61 y146 t118).f0.f0, (rd_T61 y146 t118).f0.f1⟩ : S39), (⟨(rd_T61 y146 t118).f1.f0, t148⟩ : S39)⟩ : S61) : List (S61))).bind fun y149 => ((peel_Best.f l0_0 a0_1 (y128 ++ y131)).bind fun bt150 => ((peel_Best.f l0_0 a0_1 y149).bind fun bt154 => ((peel_Hope.f l0_0 a0_1 y149).bind fun bt158 => (if bt150.2 = 0 then (if bt154.2 = 0 then (if bt158.2 = 0 then (if (bt150.1.length : Int) ≥ (t105.length : Int) then (if (bt154.1.length : Int) ≥ (t105.length : Int) then (if bt158.1 ≤ t109 then ((luciferlaw01_peeled.f).bind fun t160 => (some t160)) else (some false)) else (some false)) else (some false)) else (some false)) else (some false)) else (some false)))))))) else (none))) else (none))) else (none))) else (none))) else (none)) else (none)) = some r := by first | (rw [hji46] at H; exact H) | (simp only [hji46] at H ⊢; exact H)
                  (try rw [hji46] at A42)
                  have hji46w : (IntKind.i64.wrap (t118 + 1)) = ji46 := (i64_w _).trans hji46
                  by_cases c47 : 0 ≤ (ji46)
                  · rw [if_pos c47] at H
                    have c47b0 := eq_true c47
                    have c47b1 : decide (0 ≤ (ji46)) = true := decide_eq_true c47
                    clear c47
                    by_cases c48 : (ji46) ≤ (l0_2.length : Int)
                    · rw [if_pos c48] at H
                      have c48b0 := eq_true c48
                      have c48b1 : decide ((ji46) ≤ (l0_2.length : Int)) = true := decide_eq_true c48
                      clear c48
                      obtain ⟨y131, hy131⟩ : ∃ y_ : List (S61), y_ = (l0_2.drop ((ji46) : Int).toNat) := ⟨_, rfl⟩
                      replace H : (if y128.length + y131.length < 4398046511104 then ((some (([] : List (S61)) : List (S61))).bind fun y138 => (if y138.length + l0_2.length < 4398046511104 then ((some (y138 ++ l0_2 : List (S61))).bind fun y141 => (if t118 < (l0_2.length : Int) then ((luciferref00_Drawn.f ((rd_T61 l0_2 t118).f0.f0) ((rd_T61 l0_2 t118).f0.f1) a1_1).bind fun t145 => (if t118 < (y141.length : Int) then ((some (y141.set (t118 : Int).toNat (⟨(⟨t145, (rd_T61 y141 t118).f0.f1⟩ : S39), (⟨(rd_T61 y141 t118).f1.f0, (rd_T61 y141 t118).f1.f1⟩ : S39)⟩ : S61) : List (S61))).bind fun y146 => ((luciferref00_Drawn.f ((rd_T61 l0_2 t118).f1.f0) ((rd_T61 l0_2 t118).f1.f1) a1_2).bind fun t148 => ((some (y146.set (t118 : Int).toNat (⟨(⟨(rd_T61 y146 t118).f0.f0, (rd_T61 y146 t118).f0.f1⟩ : S39), (⟨(rd_T61 y146 t118).f1.f0, t148⟩ : S39)⟩ : S61) : List (S61))).bind fun y149 => ((peel_Best.f l0_0 a0_1 (y128 ++ y131)).bind fun bt150 => ((peel_Best.f l0_0 a0_1 y149).bind fun bt154 => ((peel_Hope.f l0_0 a0_1 y149).bind fun bt158 => (if bt150.2 = 0 then (if bt154.2 = 0 then (if bt158.2 = 0 then (if (bt150.1.length : Int) ≥ (t105.length : Int) then (if (bt154.1.length : Int) ≥ (t105.length : Int) then (if bt158.1 ≤ t109 then ((luciferlaw01_peeled.f).bind fun t160 => (some t160)) else (some false)) else (some false)) else (some false)) else (some false)) else (some false)) else (some false)))))))) else (none))) else (none))) else (none))) else (none)) = some r := by first | (rw [hy131]; with_reducible exact H) | (have H2_ := (Option.bind_some _ _).symm.trans H; rw [hy131]; with_reducible exact H2_) | (have H2_ := (Option.bind_some _ _).symm.trans H; with_reducible exact H2_) | with_reducible exact H | (rw [hy131]; exact H) | exact H
                      have Ny131 := Aside0.mk hy131
                      clear hy131
                      by_cases c49 : y128.length + y131.length < 4398046511104
                      · rw [if_pos c49] at H
                        have LMc49 := Aside0.mk c49
                        clear c49
                        obtain ⟨y135, hy135⟩ : ∃ y_ : List (S61), y_ = (y128 ++ y131) := ⟨_, rfl⟩
                        replace H : ((some (([] : List (S61)) : List (S61))).bind fun y138 => (if y138.length + l0_2.length < 4398046511104 then ((some (y138 ++ l0_2 : List (S61))).bind fun y141 => (if t118 < (l0_2.length : Int) then ((luciferref00_Drawn.f ((rd_T61 l0_2 t118).f0.f0) ((rd_T61 l0_2 t118).f0.f1) a1_1).bind fun t145 => (if t118 < (y141.length : Int) then ((some (y141.set (t118 : Int).toNat (⟨(⟨t145, (rd_T61 y141 t118).f0.f1⟩ : S39), (⟨(rd_T61 y141 t118).f1.f0, (rd_T61 y141 t118).f1.f1⟩ : S39)⟩ : S61) : List (S61))).bind fun y146 => ((luciferref00_Drawn.f ((rd_T61 l0_2 t118).f1.f0) ((rd_T61 l0_2 t118).f1.f1) a1_2).bind fun t148 => ((some (y146.set (t118 : Int).toNat (⟨(⟨(rd_T61 y146 t118).f0.f0, (rd_T61 y146 t118).f0.f1⟩ : S39), (⟨(rd_T61 y146 t118).f1.f0, t148⟩ : S39)⟩ : S61) : List (S61))).bind fun y149 => ((peel_Best.f l0_0 a0_1 y135).bind fun bt150 => ((peel_Best.f l0_0 a0_1 y149).bind fun bt154 => ((peel_Hope.f l0_0 a0_1 y149).bind fun bt158 => (if bt150.2 = 0 then (if bt154.2 = 0 then (if bt158.2 = 0 then (if (bt150.1.length : Int) ≥ (t105.length : Int) then (if (bt154.1.length : Int) ≥ (t105.length : Int) then (if bt158.1 ≤ t109 then ((luciferlaw01_peeled.f).bind fun t160 => (some t160)) else (some false)) else (some false)) else (some false)) else (some false)) else (some false)) else (some false)))))))) else (none))) else (none))) else (none))) = some r := by first | (rw [hy135]; with_reducible exact H) | (have H2_ := (Option.bind_some _ _).symm.trans H; rw [hy135]; with_reducible exact H2_) | (have H2_ := (Option.bind_some _ _).symm.trans H; with_reducible exact H2_) | with_reducible exact H | (rw [hy135]; exact H) | exact H
                        have Ny135 := Aside0.mk hy135
                        clear hy135
                        obtain ⟨y138, hy138⟩ : ∃ y_ : List (S61), y_ = (([] : List (S61))) := ⟨_, rfl⟩
                        replace H : (if y138.length + l0_2.length < 4398046511104 then ((some (y138 ++ l0_2 : List (S61))).bind fun y141 => (if t118 < (l0_2.length : Int) then ((luciferref00_Drawn.f ((rd_T61 l0_2 t118).f0.f0) ((rd_T61 l0_2 t118).f0.f1) a1_1).bind fun t145 => (if t118 < (y141.length : Int) then ((some (y141.set (t118 : Int).toNat (⟨(⟨t145, (rd_T61 y141 t118).f0.f1⟩ : S39), (⟨(rd_T61 y141 t118).f1.f0, (rd_T61 y141 t118).f1.f1⟩ : S39)⟩ : S61) : List (S61))).bind fun y146 => ((luciferref00_Drawn.f ((rd_T61 l0_2 t118).f1.f0) ((rd_T61 l0_2 t118).f1.f1) a1_2).bind fun t148 => ((some (y146.set (t118 : Int).toNat (⟨(⟨(rd_T61 y146 t118).f0.f0, (rd_T61 y146 t118).f0.f1⟩ : S39), (⟨(rd_T61 y146 t118).f1.f0, t148⟩ : S39)⟩ : S61) : List (S61))).bind fun y149 => ((peel_Best.f l0_0 a0_1 y135).bind fun bt150 => ((peel_Best.f l0_0 a0_1 y149).bind fun bt154 => ((peel_Hope.f l0_0 a0_1 y149).bind fun bt158 => (if bt150.2 = 0 then (if bt154.2 = 0 then (if bt158.2 = 0 then (if (bt150.1.length : Int) ≥ (t105.length : Int) then (if (bt154.1.length : Int) ≥ (t105.length : Int) then (if bt158.1 ≤ t109 then ((luciferlaw01_peeled.f).bind fun t160 => (some t160)) else (some false)) else (some false)) else (some false)) else (some false)) else (some false)) else (some false)))))))) else (none))) else (none))) else (none)) = some r := by first | (rw [hy138]; with_reducible exact H) | (have H2_ := (Option.bind_some _ _).symm.trans H; rw [hy138]; with_reducible exact H2_) | (have H2_ := (Option.bind_some _ _).symm.trans H; with_reducible exact H2_) | with_reducible exact H | (rw [hy138]; exact H) | exact H
                        have Ny138 := Aside0.mk hy138
                        clear hy138
                        by_cases c50 : y138.length + l0_2.length < 4398046511104
                        · rw [if_pos c50] at H
                          have LMc50 := Aside0.mk c50
                          clear c50
                          obtain ⟨y141, hy141⟩ : ∃ y_ : List (S61), y_ = (y138 ++ l0_2) := ⟨_, rfl⟩
                          replace H : (if t118 < (l0_2.length : Int) then ((luciferref00_Drawn.f ((rd_T61 l0_2 t118).f0.f0) ((rd_T61 l0_2 t118).f0.f1) a1_1).bind fun t145 => (if t118 < (y141.length : Int) then ((some (y141.set (t118 : Int).toNat (⟨(⟨t145, (rd_T61 y141 t118).f0.f1⟩ : S39), (⟨(rd_T61 y141 t118).f1.f0, (rd_T61 y141 t118).f1.f1⟩ : S39)⟩ : S61) : List (S61))).bind fun y146 => ((luciferref00_Drawn.f ((rd_T61 l0_2 t118).f1.f0) ((rd_T61 l0_2 t118).f1.f1) a1_2).bind fun t148 => ((some (y146.set (t118 : Int).toNat (⟨(⟨(rd_T61 y146 t118).f0.f0, (rd_T61 y146 t118).f0.f1⟩ : S39), (⟨(rd_T61 y146 t118).f1.f0, t148⟩ : S39)⟩ : S61) : List (S61))).bind fun y149 => ((peel_Best.f l0_0 a0_1 y135).bind fun bt150 => ((peel_Best.f l0_0 a0_1 y149).bind fun bt154 => ((peel_Hope.f l0_0 a0_1 y149).bind fun bt158 => (if bt150.2 = 0 then (if bt154.2 = 0 then (if bt158.2 = 0 then (if (bt150.1.length : Int) ≥ (t105.length : Int) then (if (bt154.1.length : Int) ≥ (t105.length : Int) then (if bt158.1 ≤ t109 then ((luciferlaw01_peeled.f).bind fun t160 => (some t160)) else (some false)) else (some false)) else (some false)) else (some false)) else (some false)) else (some false)))))))) else (none))) else (none)) = some r := by first | (rw [hy141]; with_reducible exact H) | (have H2_ := (Option.bind_some _ _).symm.trans H; rw [hy141]; with_reducible exact H2_) | (have H2_ := (Option.bind_some _ _).symm.trans H; with_reducible exact H2_) | with_reducible exact H | (rw [hy141]; exact H) | exact H
                          have Ny141 := Aside0.mk hy141
                          clear hy141
                          by_cases c51 : t118 < (l0_2.length : Int)
                          · rw [if_pos c51] at H
                            have c51b0 : decide (t118 < (l0_2.length : Int)) = true := decide_eq_true c51
                            clear c51
                            replace H := Option.bind_eq_some_iff.mp H
                            obtain ⟨t145, A520, H⟩ := H
                            replace H : (if t118 < (y141.length : Int) then ((some (y141.set (t118 : Int).toNat (⟨(⟨t145, (rd_T61 y141 t118).f0.f1⟩ : S39), (⟨(rd_T61 y141 t118).f1.f0, (rd_T61 y141 t118).f1.f1⟩ : S39)⟩ : S61) : List (S61))).bind fun y146 => ((luciferref00_Drawn.f ((rd_T61 l0_2 t118).f1.f0) ((rd_T61 l0_2 t118).f1.f1) a1_2).bind fun t148 => ((some (y146.set (t118 : Int).toNat (⟨(⟨(rd_T61 y146 t118).f0.f0, (rd_T61 y146 t118).f0.f1⟩ : S39), (⟨(rd_T61 y146 t118).f1.f0, t148⟩ : S39)⟩ : S61) : List (S61))).bind fun y149 => ((peel_Best.f l0_0 a0_1 y135).bind fun bt150 => ((peel_Best.f l0_0 a0_1 y149).bind fun bt154 => ((peel_Hope.f l0_0 a0_1 y149).bind fun bt158 => (if bt150.2 = 0 then (if bt154.2 = 0 then (if bt158.2 = 0 then (if (bt150.1.length : Int) ≥ (t105.length : Int) then (if (bt154.1.length : Int) ≥ (t105.length : Int) then (if bt158.1 ≤ t109 then ((luciferlaw01_peeled.f).bind fun t160 => (some t160)) else (some false)) else (some false)) else (some false)) else (some false)) else (some false)) else (some false)))))))) else (none)) = some r := H
                            have A52 := Aside0.mk A520
                            clear A520
                            by_cases c53 : t118 < (y141.length : Int)
                            · rw [if_pos c53] at H
                              have c53b0 : decide (t118 < (y141.length : Int)) = true := decide_eq_true c53
                              clear c53
                              obtain ⟨y146, hy146⟩ : ∃ y_ : List (S61), y_ = (y141.set (t118 : Int).toNat (⟨(⟨t145, (rd_T61 y141 t118).f0.f1⟩ : S39), (⟨(rd_T61 y141 t118).f1.f0, (rd_T61 y141 t118).f1.f1⟩ : S39)⟩ : S61)) := ⟨_, rfl⟩
                              replace H : ((luciferref00_Drawn.f ((rd_T61 l0_2 t118).f1.f0) ((rd_T61 l0_2 t118).f1.f1) a1_2).bind fun t148 => ((some (y146.set (t118 : Int).toNat (⟨(⟨(rd_T61 y146 t118).f0.f0, (rd_T61 y146 t118).f0.f1⟩ : S39), (⟨(rd_T61 y146 t118).f1.f0, t148⟩ : S39)⟩ : S61) : List (S61))).bind fun y149 => ((peel_Best.f l0_0 a0_1 y135).bind fun bt150 => ((peel_Best.f l0_0 a0_1 y149).bind fun bt154 => ((peel_Hope.f l0_0 a0_1 y149).bind fun bt158 => (if bt150.2 = 0 then (if bt154.2 = 0 then (if bt158.2 = 0 then (if (bt150.1.length : Int) ≥ (t105.length : Int) then (if (bt154.1.length : Int) ≥ (t105.length : Int) then (if bt158.1 ≤ t109 then ((luciferlaw01_peeled.f).bind fun t160 => (some t160)) else (some false)) else (some false)) else (some false)) else (some false)) else (some false)) else (some false))))))) = some r := by first | (rw [hy146]; with_reducible exact H) | (have H2_ := (Option.bind_some _ _).symm.trans H; rw [hy146]; with_reducible exact H2_) | (have H2_ := (Option.bind_some _ _).symm.trans H; with_reducible exact H2_) | with_reducible exact H | (rw [hy146]; exact H) | exact H
                              have Ny146 := Aside0.mk hy146
                              clear hy146
                              replace H := Option.bind_eq_some_iff.mp H
                              obtain ⟨t148, A550, H⟩ := H
                              replace H : ((some (y146.set (t118 : Int).toNat (⟨(⟨(rd_T61 y146 t118).f0.f0, (rd_T61 y146 t118).f0.f1⟩ : S39), (⟨(rd_T61 y146 t118).f1.f0, t148⟩ : S39)⟩ : S61) : List (S61))).bind fun y149 => ((peel_Best.f l0_0 a0_1 y135).bind fun bt150 => ((peel_Best.f l0_0 a0_1 y149).bind fun bt154 => ((peel_Hope.f l0_0 a0_1 y149).bind fun bt158 => (if bt150.2 = 0 then (if bt154.2 = 0 then (if bt158.2 = 0 then (if (bt150.1.length : Int) ≥ (t105.length : Int) then (if (bt154.1.length : Int) ≥ (t105.length : Int) then (if bt158.1 ≤ t109 then ((luciferlaw01_peeled.f).bind fun t160 => (some t160)) else (some false)) else (some false)) else (some false)) else (some false)) else (some false)) else (some false)))))) = some r := H
                              have A55 := Aside0.mk A550
                              clear A550
                              obtain ⟨y149, hy149⟩ : ∃ y_ : List (S61), y_ = (y146.set (t118 : Int).toNat (⟨(⟨(rd_T61 y146 t118).f0.f0, (rd_T61 y146 t118).f0.f1⟩ : S39), (⟨(rd_T61 y146 t118).f1.f0, t148⟩ : S39)⟩ : S61)) := ⟨_, rfl⟩
                              replace H : ((peel_Best.f l0_0 a0_1 y135).bind fun bt150 => ((peel_Best.f l0_0 a0_1 y149).bind fun bt154 => ((peel_Hope.f l0_0 a0_1 y149).bind fun bt158 => (if bt150.2 = 0 then (if bt154.2 = 0 then (if bt158.2 = 0 then (if (bt150.1.length : Int) ≥ (t105.length : Int) then (if (bt154.1.length : Int) ≥ (t105.length : Int) then (if bt158.1 ≤ t109 then ((luciferlaw01_peeled.f).bind fun t160 => (some t160)) else (some false)) else (some false)) else (some false)) else (some false)) else (some false)) else (some false))))) = some r := by first | (rw [hy149]; with_reducible exact H) | (have H2_ := (Option.bind_some _ _).symm.trans H; rw [hy149]; with_reducible exact H2_) | (have H2_ := (Option.bind_some _ _).symm.trans H; with_reducible exact H2_) | with_reducible exact H | (rw [hy149]; exact H) | exact H
                              have Ny149 := Aside0.mk hy149
                              clear hy149
                              replace H := Option.bind_eq_some_iff.mp H
                              obtain ⟨⟨t150, t153⟩, A570, H⟩ := H
                              replace H : ((peel_Best.f l0_0 a0_1 y149).bind fun bt154 => ((peel_Hope.f l0_0 a0_1 y149).bind fun bt158 => (if t153 = 0 then (if bt154.2 = 0 then (if bt158.2 = 0 then (if (t150.length : Int) ≥ (t105.length : Int) then (if (bt154.1.length : Int) ≥ (t105.length : Int) then (if bt158.1 ≤ t109 then ((luciferlaw01_peeled.f).bind fun t160 => (some t160)) else (some false)) else (some false)) else (some false)) else (some false)) else (some false)) else (some false)))) = some r := H
                              have A57 := Aside0.mk A570
                              clear A570
                              replace H := Option.bind_eq_some_iff.mp H
                              obtain ⟨⟨t154, t157⟩, A580, H⟩ := H
                              replace H : ((peel_Hope.f l0_0 a0_1 y149).bind fun bt158 => (if t153 = 0 then (if t157 = 0 then (if bt158.2 = 0 then (if (t150.length : Int) ≥ (t105.length : Int) then (if (t154.length : Int) ≥ (t105.length : Int) then (if bt158.1 ≤ t109 then ((luciferlaw01_peeled.f).bind fun t160 => (some t160)) else (some false)) else (some false)) else (some false)) else (some false)) else (some false)) else (some false))) = some r := H
                              have A58 := Aside0.mk A580
                              clear A580
                              replace H := Option.bind_eq_some_iff.mp H
                              obtain ⟨⟨t158, t159⟩, A590, H⟩ := H
                              replace H : (if t153 = 0 then (if t157 = 0 then (if t159 = 0 then (if (t150.length : Int) ≥ (t105.length : Int) then (if (t154.length : Int) ≥ (t105.length : Int) then (if t158 ≤ t109 then ((luciferlaw01_peeled.f).bind fun t160 => (some t160)) else (some false)) else (some false)) else (some false)) else (some false)) else (some false)) else (some false)) = some r := H
                              have A59 := Aside0.mk A590
                              clear A590
                              by_cases c60 : t153 = 0
                              · rw [if_pos c60] at H
                                have c60b0 : (t153 == 0) = true := beq_iff_eq.mpr c60
                                have c60b1 : (t153 != 0) = false := bne_eq_false_iff_eq.mpr c60
                                clear c60
                                by_cases c61 : t157 = 0
                                · rw [if_pos c61] at H
                                  have c61b0 : (t157 == 0) = true := beq_iff_eq.mpr c61
                                  have c61b1 : (t157 != 0) = false := bne_eq_false_iff_eq.mpr c61
                                  clear c61
                                  by_cases c62 : t159 = 0
                                  · rw [if_pos c62] at H
                                    have c62b0 : (t159 == 0) = true := beq_iff_eq.mpr c62
                                    have c62b1 : (t159 != 0) = false := bne_eq_false_iff_eq.mpr c62
                                    clear c62
                                    by_cases c63 : (t150.length : Int) ≥ (t105.length : Int)
                                    · rw [if_pos c63] at H
                                      have c63b0 : decide ((t105.length : Int) ≤ (t150.length : Int)) = true := decide_eq_true c63
                                      have c63b1 : decide (t105.length ≤ t150.length) = true := decide_eq_true (Int.ofNat_le.mp c63)
                                      clear c63
                                      by_cases c64 : (t154.length : Int) ≥ (t105.length : Int)
                                      · rw [if_pos c64] at H
                                        have c64b0 : decide ((t105.length : Int) ≤ (t154.length : Int)) = true := decide_eq_true c64
                                        have c64b1 : decide (t105.length ≤ t154.length) = true := decide_eq_true (Int.ofNat_le.mp c64)
                                        clear c64
                                        by_cases c65 : t158 ≤ t109
                                        · rw [if_pos c65] at H
                                          have c65b0 : decide (t158 ≤ t109) = true := decide_eq_true c65
                                          clear c65
                                          replace H := Option.bind_eq_some_iff.mp H
                                          obtain ⟨t160, A660, H⟩ := H
                                          replace H : (some t160) = some r := H
                                          have A66 := Aside0.mk A660
                                          clear A660
                                          obtain rfl := Option.some.inj H
                                          have hnb67 := NB101_102.out
                                          have hnc67 := NB102_101.out
                                          have hnb68 := NB101_111.out
                                          have hnc68 := NB111_101.out
                                          obtain ⟨hcz69_0, hcz69_1, hcz69_2, hfz69_0, hfz69_1, hfz69_2⟩ := cz3 BK101
                                          have hnb70 := NB102_111.out
                                          have hnc70 := NB111_102.out
                                          obtain ⟨hcz71_0, hcz71_1, hcz71_2, hcz71_3, hfz71_0, hfz71_1, hfz71_2, hfz71_3⟩ := cz4 BK102
                                          try go_wp2_with (first | ((with_reducible refine gate_callee (f := 49) rfl ?_); refine goesL_ (some 76) rfl rfl Tryd.func49 (by kernel_rfl) rfl #[.int .i64 a1_0, .int .i64 (l0_2.length : Int)] rfl (by (try simp only [List.map_toArray, List.map_cons, List.map_nil]); first | done | rfl | (simp only [List.length_drop, List.length_take]; rfl)) ?_; (with_reducible refine (luciferref00_Spin.calls a1_0 (l0_2.length : Int) t118 _ A42.out).mono ?_); rintro e w' ⟨rfl, ⟨nd, rfl⟩⟩; refine ⟨_, rfl, ?_⟩; (try (rw [drewN_self wc]; generalize hq_ : World.drewN wc _ = wc; have n0_ : Aside0 (Kd.V (Kd.int .i64) 3 wc w.heap.size (fun k_ => k_ ≠ gb101 ∧ k_ ≠ gb102 ∧ k_ ≠ gb111) v106 t105) := ⟨by rw [← hq_]; exact (by (with_reducible repeat (first | apply Kd.V_alloc | apply Kd.V_drewN | apply Kd.V_drew)); exact HO_5.out)⟩; have n1_ : Aside0 (wc.heap[gb101]? = some (.cells #[.slice A0_0 l0_0.length c0_0, .int .i64 a0_1, .slice A0_2 l0_2.length c0_2] 25 (0, 0))) := ⟨by rw [← hq_]; exact (K_ BK101)⟩; have n2_ : Aside0 (wc.heap[gb102]? = some (.cells #[.int .i64 a1_0, .int .i64 a1_1, .int .i64 a1_2, .int .i64 a1_3] 58 (0, 0))) := ⟨by rw [← hq_]; exact (K_ BK102)⟩; have n3_ : Aside0 (wc.heap[gb111]? = some (.cells #[.slice A0_0 l0_0.length c0_0, .int .i64 ji8, .slice A0_2 l0_2.length c0_2] 25 (0, 0))) := ⟨by rw [← hq_]; exact (K_ BK111)⟩; have n4_ : Aside0 (Below w.heap.size w wc) := ⟨by rw [← hq_]; exact (B_)⟩; clear HO_5 BK101 BK102 BK111 HB hq_; have HO_5 := n0_; have BK101 := n1_; have BK102 := n2_; have BK111 := n3_; have HB := n4_; clear n0_ n1_ n2_ n3_ n4_))))
                                          have n0_ := Aside0.mk (Kd.V_drew HO_5.out)
                                          have n1_ := Aside0.mk (blk_drew BK101.out)
                                          have n2_ := Aside0.mk (blk_drew BK102.out)
                                          have n3_ := Aside0.mk (blk_drew BK111.out)
                                          have n4_ := Aside0.mk (below_drew1 HB.out)
                                          clear HO_5
                                          clear BK101
                                          clear BK102
                                          clear BK111
                                          clear HB
                                          have HO_5 := n0_
                                          have BK101 := n1_
                                          have BK102 := n2_
                                          have BK111 := n3_
                                          have HB := n4_
                                          clear n0_ n1_ n2_ n3_ n4_
                                          refine start_ (n := 6) (S := fun w' => w'.cell? ⟨gb101, 0, none⟩ = some (.slice A0_0 l0_0.length c0_0) ∧ w'.cell? ⟨gb101, 1, none⟩ = some (.int .i64 a0_1) ∧ w'.cell? ⟨gb101, 2, none⟩ = some (.slice A0_2 l0_2.length c0_2)) (ds := []) #[false, false, false, false, false, false] (by kernel_rfl) rfl rfl ⟨(blk_cell BK101.out 0).trans rfl, (blk_cell BK101.out 1).trans rfl, (blk_cell BK101.out 2).trans rfl⟩ (fun hHeld => ?_)
                                          generalize wc.drew = w72 at HO_5 BK101 BK102 BK111 HB hHeld ⊢
                                          refine take_ (i := 0) (N := some 77) (v := ?_) (a' := ?_) #[true, false, false, false, false, false] rfl rfl (by kernel_rfl) (fun _ _ _ h => h) (Or.inl ⟨by rfl, ?_⟩) hHeld ?_ ?_
                                          rotate_left
                                          · rintro w' ⟨s0, s1, s2⟩
                                            go_simp
                                            with_reducible rfl
                                          rotate_left
                                          · simp only [Act.put, List.setIfInBounds_toArray, List.set_cons_zero, List.set_cons_succ, i64_w, i32_w]
                                            rfl
                                          refine take_ (i := 1) (N := some 78) (v := ?_) (a' := ?_) #[true, true, false, false, false, false] rfl rfl (by kernel_rfl) (fun _ _ _ h => h) (Or.inl ⟨by rfl, ?_⟩) hHeld ?_ ?_
                                          rotate_left
                                          · rintro w' ⟨s0, s1, s2⟩
                                            go_simp
                                            with_reducible rfl
                                          rotate_left
                                          · simp only [Act.put, List.setIfInBounds_toArray, List.set_cons_zero, List.set_cons_succ, i64_w, i32_w]
                                            rfl
                                          refine join_ (σ := Nat × Nat) 2 #[true, true, true, true, false, false] (fun s_ => [(13, .pointer (some ⟨s_.1, 0, none⟩)), (14, .pointer (some ⟨s_.2, 0, none⟩))]) (fun s_ w' => (w'.cell? ⟨gb101, 0, none⟩ = some (.slice A0_0 l0_0.length c0_0) ∧ w'.cell? ⟨gb101, 1, none⟩ = some (.int .i64 a0_1) ∧ w'.cell? ⟨gb101, 2, none⟩ = some (.slice A0_2 l0_2.length c0_2)) ∧ (Kd.V (Kd.int .i64) 3 w' w.heap.size (fun k_ => k_ ≠ gb101 ∧ k_ ≠ gb102 ∧ k_ ≠ gb111 ∧ k_ ≠ s_.1 ∧ k_ ≠ s_.2) v106 t105) ∧ (w'.heap[gb101]? = some (.cells #[.slice A0_0 l0_0.length c0_0, .int .i64 a0_1, .slice A0_2 l0_2.length c0_2] 25 (0, 0))) ∧ (w'.heap[gb102]? = some (.cells #[.int .i64 a1_0, .int .i64 a1_1, .int .i64 a1_2, .int .i64 a1_3] 58 (0, 0))) ∧ (w'.heap[gb111]? = some (.cells #[.slice A0_0 l0_0.length c0_0, .int .i64 ji8, .slice A0_2 l0_2.length c0_2] 25 (0, 0))) ∧ (w'.heap[s_.1]? = some (.cells #[.slice none 0 0, .int .i64 0, .slice none 0 0] 25 (0, 0))) ∧ (w'.heap[s_.2]? = some (.cells #[.slice none 0 0, .int .i64 0, .slice none 0 0] 25 (0, 0))) ∧ (w.heap.size ≤ s_.1) ∧ (w.heap.size ≤ s_.1) ∧ (gb101 ≠ s_.1) ∧ (s_.1 ≠ gb101) ∧ (gb102 ≠ s_.1) ∧ (s_.1 ≠ gb102) ∧ (gb111 ≠ s_.1) ∧ (s_.1 ≠ gb111) ∧ (s_.2 ≠ s_.1) ∧ (s_.1 ≠ s_.2) ∧ (w.heap.size ≤ s_.2) ∧ (w.heap.size ≤ s_.2) ∧ (gb101 ≠ s_.2) ∧ (s_.2 ≠ gb101) ∧ (gb102 ≠ s_.2) ∧ (s_.2 ≠ gb102) ∧ (gb111 ≠ s_.2) ∧ (s_.2 ≠ gb111) ∧ (Below w.heap.size w w')) ?_ ?_
                                          rotate_left
                                          · intro hCont
                                            refine two_ (i := 2) (j := 3) (Ni := some 13) (Nj := some 14) #[true, true, true, false, false, false] #[true, true, false, true, false, false] rfl rfl rfl rfl (by kernel_rfl) (by decide) (by decide) (fun K hK => ?_) (fun K hK => ?_)
                                            · skip
                                              refine box_step ?hg (N := 13) ?hd (cs := #[.slice none 0 0, .int .i64 0, .slice none 0 0]) (t := 25) ?hr ?_; (case hd => rfl); (case hg => rfl); (case hr => first | (go_simp; done) | (go_simp; rfl))
                                              intro gb119 hg w73 hbox hb
                                              have n0_ := Aside0.mk (Kd.V_below (Kd.V_elderB (by (with_reducible repeat (first | apply Kd.V_alloc | apply Kd.V_drewN | apply Kd.V_drew)); exact HO_5.out) gb119 (Nat.le_of_eq hg.symm)) hb)
                                              have n1_ := Aside0.mk (blk_below (g := gb101) (o := .cells #[.slice A0_0 l0_0.length c0_0, .int .i64 a0_1, .slice A0_2 l0_2.length c0_2] 25 (0, 0)) (K_ BK101) hb)
                                              have n2_ := Aside0.mk (blk_below (g := gb102) (o := .cells #[.int .i64 a1_0, .int .i64 a1_1, .int .i64 a1_2, .int .i64 a1_3] 58 (0, 0)) (K_ BK102) hb)
                                              have n3_ := Aside0.mk (blk_below (g := gb111) (o := .cells #[.slice A0_0 l0_0.length c0_0, .int .i64 ji8, .slice A0_2 l0_2.length c0_2] 25 (0, 0)) (K_ BK111) hb)
                                              have n4_ := Aside0.mk (below_step (B_) hb)
                                              have n5_ := Aside0.mk (hbox)
                                              have n6_ := Aside0.mk ((by rw [hg]; exact (below_size (B_)) : w.heap.size ≤ gb119))
                                              have n7_ := Aside0.mk ((by rw [hg]; exact (below_size (B_)) : w.heap.size ≤ gb119))
                                              have n8_ := Aside0.mk ((by rw [hg]; exact Nat.ne_of_lt (blk_lt (g := gb101) (o := .cells #[.slice A0_0 l0_0.length c0_0, .int .i64 a0_1, .slice A0_2 l0_2.length c0_2] 25 (0, 0)) (K_ BK101)) : gb101 ≠ gb119))
                                              have n9_ := Aside0.mk ((by rw [hg]; exact Nat.ne_of_gt (blk_lt (g := gb101) (o := .cells #[.slice A0_0 l0_0.length c0_0, .int .i64 a0_1, .slice A0_2 l0_2.length c0_2] 25 (0, 0)) (K_ BK101)) : gb119 ≠ gb101))
                                              have n10_ := Aside0.mk ((by rw [hg]; exact Nat.ne_of_lt (blk_lt (g := gb102) (o := .cells #[.int .i64 a1_0, .int .i64 a1_1, .int .i64 a1_2, .int .i64 a1_3] 58 (0, 0)) (K_ BK102)) : gb102 ≠ gb119))
                                              have n11_ := Aside0.mk ((by rw [hg]; exact Nat.ne_of_gt (blk_lt (g := gb102) (o := .cells #[.int .i64 a1_0, .int .i64 a1_1, .int .i64 a1_2, .int .i64 a1_3] 58 (0, 0)) (K_ BK102)) : gb119 ≠ gb102))
                                              have n12_ := Aside0.mk ((by rw [hg]; exact Nat.ne_of_lt (blk_lt (g := gb111) (o := .cells #[.slice A0_0 l0_0.length c0_0, .int .i64 ji8, .slice A0_2 l0_2.length c0_2] 25 (0, 0)) (K_ BK111)) : gb111 ≠ gb119))
                                              have n13_ := Aside0.mk ((by rw [hg]; exact Nat.ne_of_gt (blk_lt (g := gb111) (o := .cells #[.slice A0_0 l0_0.length c0_0, .int .i64 ji8, .slice A0_2 l0_2.length c0_2] 25 (0, 0)) (K_ BK111)) : gb119 ≠ gb111))
                                              clear HO_5
                                              clear BK101
                                              clear BK102
                                              clear BK111
                                              clear HB
                                              have HO_5 := n0_
                                              have BK101 := n1_
                                              have BK102 := n2_
                                              have BK111 := n3_
                                              have HB := n4_
                                              have BK119 := n5_
                                              have GW119 := n6_
                                              have GE119 := n7_
                                              have NB101_119 := n8_
                                              have NB119_101 := n9_
                                              have NB102_119 := n10_
                                              have NB119_102 := n11_
                                              have NB111_119 := n12_
                                              have NB119_111 := n13_
                                              clear n0_ n1_ n2_ n3_ n4_ n5_ n6_ n7_ n8_ n9_ n10_ n11_ n12_ n13_
                                              clear hb hbox hg
                                              refine hK.out _ _ ⟨(blk_cell BK101.out 0).trans rfl, (blk_cell BK101.out 1).trans rfl, (blk_cell BK101.out 2).trans rfl⟩ (fun hHeld => ?_)
                                              clear hK K
                                              refine norm_ (a' := ?_) ?_ ?_
                                              rotate_left
                                              · show Act.put _ (some 13) _ = _
                                                simp only [Act.put, List.setIfInBounds_toArray, List.set_cons_zero, List.set_cons_succ, i64_w, i32_w]
                                                rfl
                                              refine one_ (i := 3) (N := some 14) #[true, true, true, true, false, false] rfl rfl (by kernel_rfl) (by decide) (fun K hK => ?_)
                                              refine box_step ?hg (N := 14) ?hd (cs := #[.slice none 0 0, .int .i64 0, .slice none 0 0]) (t := 25) ?hr ?_; (case hd => rfl); (case hg => rfl); (case hr => first | (go_simp; done) | (go_simp; rfl))
                                              intro gb120 hg w74 hbox hb
                                              have n0_ := Aside0.mk (Kd.V_below (Kd.V_elderB (by (with_reducible repeat (first | apply Kd.V_alloc | apply Kd.V_drewN | apply Kd.V_drew)); exact HO_5.out) gb120 (Nat.le_of_eq hg.symm)) hb)
                                              have n1_ := Aside0.mk (blk_below (g := gb101) (o := .cells #[.slice A0_0 l0_0.length c0_0, .int .i64 a0_1, .slice A0_2 l0_2.length c0_2] 25 (0, 0)) (K_ BK101) hb)
                                              have n2_ := Aside0.mk (blk_below (g := gb102) (o := .cells #[.int .i64 a1_0, .int .i64 a1_1, .int .i64 a1_2, .int .i64 a1_3] 58 (0, 0)) (K_ BK102) hb)
                                              have n3_ := Aside0.mk (blk_below (g := gb111) (o := .cells #[.slice A0_0 l0_0.length c0_0, .int .i64 ji8, .slice A0_2 l0_2.length c0_2] 25 (0, 0)) (K_ BK111) hb)
                                              have n4_ := Aside0.mk (blk_below (g := gb119) (o := .cells #[.slice none 0 0, .int .i64 0, .slice none 0 0] 25 (0, 0)) (K_ BK119) hb)
                                              have n5_ := Aside0.mk (below_step (B_) hb)
                                              have n6_ := Aside0.mk (hbox)
                                              have n7_ := Aside0.mk ((by rw [hg]; exact (below_size (B_)) : w.heap.size ≤ gb120))
                                              have n8_ := Aside0.mk ((by rw [hg]; exact (below_size (B_)) : w.heap.size ≤ gb120))
                                              have n9_ := Aside0.mk ((by rw [hg]; exact Nat.ne_of_lt (blk_lt (g := gb101) (o := .cells #[.slice A0_0 l0_0.length c0_0, .int .i64 a0_1, .slice A0_2 l0_2.length c0_2] 25 (0, 0)) (K_ BK101)) : gb101 ≠ gb120))
                                              have n10_ := Aside0.mk ((by rw [hg]; exact Nat.ne_of_gt (blk_lt (g := gb101) (o := .cells #[.slice A0_0 l0_0.length c0_0, .int .i64 a0_1, .slice A0_2 l0_2.length c0_2] 25 (0, 0)) (K_ BK101)) : gb120 ≠ gb101))
                                              have n11_ := Aside0.mk ((by rw [hg]; exact Nat.ne_of_lt (blk_lt (g := gb102) (o := .cells #[.int .i64 a1_0, .int .i64 a1_1, .int .i64 a1_2, .int .i64 a1_3] 58 (0, 0)) (K_ BK102)) : gb102 ≠ gb120))
                                              have n12_ := Aside0.mk ((by rw [hg]; exact Nat.ne_of_gt (blk_lt (g := gb102) (o := .cells #[.int .i64 a1_0, .int .i64 a1_1, .int .i64 a1_2, .int .i64 a1_3] 58 (0, 0)) (K_ BK102)) : gb120 ≠ gb102))
                                              have n13_ := Aside0.mk ((by rw [hg]; exact Nat.ne_of_lt (blk_lt (g := gb111) (o := .cells #[.slice A0_0 l0_0.length c0_0, .int .i64 ji8, .slice A0_2 l0_2.length c0_2] 25 (0, 0)) (K_ BK111)) : gb111 ≠ gb120))
                                              have n14_ := Aside0.mk ((by rw [hg]; exact Nat.ne_of_gt (blk_lt (g := gb111) (o := .cells #[.slice A0_0 l0_0.length c0_0, .int .i64 ji8, .slice A0_2 l0_2.length c0_2] 25 (0, 0)) (K_ BK111)) : gb120 ≠ gb111))
                                              have n15_ := Aside0.mk ((by rw [hg]; exact Nat.ne_of_lt (blk_lt (g := gb119) (o := .cells #[.slice none 0 0, .int .i64 0, .slice none 0 0] 25 (0, 0)) (K_ BK119)) : gb119 ≠ gb120))
                                              have n16_ := Aside0.mk ((by rw [hg]; exact Nat.ne_of_gt (blk_lt (g := gb119) (o := .cells #[.slice none 0 0, .int .i64 0, .slice none 0 0] 25 (0, 0)) (K_ BK119)) : gb120 ≠ gb119))
                                              clear HO_5
                                              clear BK101
                                              clear BK102
                                              clear BK111
                                              clear BK119
                                              clear HB
                                              have HO_5 := n0_
                                              have BK101 := n1_
                                              have BK102 := n2_
                                              have BK111 := n3_
                                              have BK119 := n4_
                                              have HB := n5_
                                              have BK120 := n6_
                                              have GW120 := n7_
                                              have GE120 := n8_
                                              have NB101_120 := n9_
                                              have NB120_101 := n10_
                                              have NB102_120 := n11_
                                              have NB120_102 := n12_
                                              have NB111_120 := n13_
                                              have NB120_111 := n14_
                                              have NB119_120 := n15_
                                              have NB120_119 := n16_
                                              clear n0_ n1_ n2_ n3_ n4_ n5_ n6_ n7_ n8_ n9_ n10_ n11_ n12_ n13_ n14_ n15_ n16_
                                              clear hb hbox hg
                                              refine hK.out _ _ ⟨(blk_cell BK101.out 0).trans rfl, (blk_cell BK101.out 1).trans rfl, (blk_cell BK101.out 2).trans rfl⟩ (fun hHeld => ?_)
                                              clear hK K
                                              refine norm_ (a' := ?_) ?_ ?_
                                              rotate_left
                                              · show Act.put _ (some 14) _ = _
                                                simp only [Act.put, List.setIfInBounds_toArray, List.set_cons_zero, List.set_cons_succ, i64_w, i32_w]
                                                rfl
                                              exact norm_ (by simp only [putAll, Act.put, List.setIfInBounds_toArray, List.set_cons_zero, List.set_cons_succ]) (hCont (gb119, gb120) _ ⟨hHeld, (by (with_reducible repeat (first | apply Kd.V_alloc | apply Kd.V_drewN | apply Kd.V_drew)); exact Kd.V_mono HO_5.out (fun _ hk => ⟨hk.1.1.1, ⟨hk.1.1.2.1, ⟨hk.1.1.2.2, ⟨hk.1.2, hk.2⟩⟩⟩⟩)), (K_ BK101), (K_ BK102), (K_ BK111), (K_ BK119), (K_ BK120), GW119.out, GE119.out, NB101_119.out, NB119_101.out, NB102_119.out, NB119_102.out, NB111_119.out, NB119_111.out, NB120_119.out, NB119_120.out, GW120.out, GE120.out, NB101_120.out, NB120_101.out, NB102_120.out, NB120_102.out, NB111_120.out, NB120_111.out, (B_)⟩)
                                            · skip
                                              refine box_step ?hg (N := 14) ?hd (cs := #[.slice none 0 0, .int .i64 0, .slice none 0 0]) (t := 25) ?hr ?_; (case hd => rfl); (case hg => rfl); (case hr => first | (go_simp; done) | (go_simp; rfl))
                                              intro gb120 hg w73 hbox hb
                                              have n0_ := Aside0.mk (Kd.V_below (Kd.V_elderB (by (with_reducible repeat (first | apply Kd.V_alloc | apply Kd.V_drewN | apply Kd.V_drew)); exact HO_5.out) gb120 (Nat.le_of_eq hg.symm)) hb)
                                              have n1_ := Aside0.mk (blk_below (g := gb101) (o := .cells #[.slice A0_0 l0_0.length c0_0, .int .i64 a0_1, .slice A0_2 l0_2.length c0_2] 25 (0, 0)) (K_ BK101) hb)
                                              have n2_ := Aside0.mk (blk_below (g := gb102) (o := .cells #[.int .i64 a1_0, .int .i64 a1_1, .int .i64 a1_2, .int .i64 a1_3] 58 (0, 0)) (K_ BK102) hb)
                                              have n3_ := Aside0.mk (blk_below (g := gb111) (o := .cells #[.slice A0_0 l0_0.length c0_0, .int .i64 ji8, .slice A0_2 l0_2.length c0_2] 25 (0, 0)) (K_ BK111) hb)
                                              have n4_ := Aside0.mk (below_step (B_) hb)
                                              have n5_ := Aside0.mk (hbox)
                                              have n6_ := Aside0.mk ((by rw [hg]; exact (below_size (B_)) : w.heap.size ≤ gb120))
                                              have n7_ := Aside0.mk ((by rw [hg]; exact (below_size (B_)) : w.heap.size ≤ gb120))
                                              have n8_ := Aside0.mk ((by rw [hg]; exact Nat.ne_of_lt (blk_lt (g := gb101) (o := .cells #[.slice A0_0 l0_0.length c0_0, .int .i64 a0_1, .slice A0_2 l0_2.length c0_2] 25 (0, 0)) (K_ BK101)) : gb101 ≠ gb120))
                                              have n9_ := Aside0.mk ((by rw [hg]; exact Nat.ne_of_gt (blk_lt (g := gb101) (o := .cells #[.slice A0_0 l0_0.length c0_0, .int .i64 a0_1, .slice A0_2 l0_2.length c0_2] 25 (0, 0)) (K_ BK101)) : gb120 ≠ gb101))
                                              have n10_ := Aside0.mk ((by rw [hg]; exact Nat.ne_of_lt (blk_lt (g := gb102) (o := .cells #[.int .i64 a1_0, .int .i64 a1_1, .int .i64 a1_2, .int .i64 a1_3] 58 (0, 0)) (K_ BK102)) : gb102 ≠ gb120))
                                              have n11_ := Aside0.mk ((by rw [hg]; exact Nat.ne_of_gt (blk_lt (g := gb102) (o := .cells #[.int .i64 a1_0, .int .i64 a1_1, .int .i64 a1_2, .int .i64 a1_3] 58 (0, 0)) (K_ BK102)) : gb120 ≠ gb102))
                                              have n12_ := Aside0.mk ((by rw [hg]; exact Nat.ne_of_lt (blk_lt (g := gb111) (o := .cells #[.slice A0_0 l0_0.length c0_0, .int .i64 ji8, .slice A0_2 l0_2.length c0_2] 25 (0, 0)) (K_ BK111)) : gb111 ≠ gb120))
                                              have n13_ := Aside0.mk ((by rw [hg]; exact Nat.ne_of_gt (blk_lt (g := gb111) (o := .cells #[.slice A0_0 l0_0.length c0_0, .int .i64 ji8, .slice A0_2 l0_2.length c0_2] 25 (0, 0)) (K_ BK111)) : gb120 ≠ gb111))
                                              clear HO_5
                                              clear BK101
                                              clear BK102
                                              clear BK111
                                              clear HB
                                              have HO_5 := n0_
                                              have BK101 := n1_
                                              have BK102 := n2_
                                              have BK111 := n3_
                                              have HB := n4_
                                              have BK120 := n5_
                                              have GW120 := n6_
                                              have GE120 := n7_
                                              have NB101_120 := n8_
                                              have NB120_101 := n9_
                                              have NB102_120 := n10_
                                              have NB120_102 := n11_
                                              have NB111_120 := n12_
                                              have NB120_111 := n13_
                                              clear n0_ n1_ n2_ n3_ n4_ n5_ n6_ n7_ n8_ n9_ n10_ n11_ n12_ n13_
                                              clear hb hbox hg
                                              refine hK.out _ _ ⟨(blk_cell BK101.out 0).trans rfl, (blk_cell BK101.out 1).trans rfl, (blk_cell BK101.out 2).trans rfl⟩ (fun hHeld => ?_)
                                              clear hK K
                                              refine norm_ (a' := ?_) ?_ ?_
                                              rotate_left
                                              · show Act.put _ (some 14) _ = _
                                                simp only [Act.put, List.setIfInBounds_toArray, List.set_cons_zero, List.set_cons_succ, i64_w, i32_w]
                                                rfl
                                              refine one_ (i := 2) (N := some 13) #[true, true, true, true, false, false] rfl rfl (by kernel_rfl) (by decide) (fun K hK => ?_)
                                              refine box_step ?hg (N := 13) ?hd (cs := #[.slice none 0 0, .int .i64 0, .slice none 0 0]) (t := 25) ?hr ?_; (case hd => rfl); (case hg => rfl); (case hr => first | (go_simp; done) | (go_simp; rfl))
                                              intro gb119 hg w74 hbox hb
                                              have n0_ := Aside0.mk (Kd.V_below (Kd.V_elderB (by (with_reducible repeat (first | apply Kd.V_alloc | apply Kd.V_drewN | apply Kd.V_drew)); exact HO_5.out) gb119 (Nat.le_of_eq hg.symm)) hb)
                                              have n1_ := Aside0.mk (blk_below (g := gb101) (o := .cells #[.slice A0_0 l0_0.length c0_0, .int .i64 a0_1, .slice A0_2 l0_2.length c0_2] 25 (0, 0)) (K_ BK101) hb)
                                              have n2_ := Aside0.mk (blk_below (g := gb102) (o := .cells #[.int .i64 a1_0, .int .i64 a1_1, .int .i64 a1_2, .int .i64 a1_3] 58 (0, 0)) (K_ BK102) hb)
                                              have n3_ := Aside0.mk (blk_below (g := gb111) (o := .cells #[.slice A0_0 l0_0.length c0_0, .int .i64 ji8, .slice A0_2 l0_2.length c0_2] 25 (0, 0)) (K_ BK111) hb)
                                              have n4_ := Aside0.mk (blk_below (g := gb120) (o := .cells #[.slice none 0 0, .int .i64 0, .slice none 0 0] 25 (0, 0)) (K_ BK120) hb)
                                              have n5_ := Aside0.mk (below_step (B_) hb)
                                              have n6_ := Aside0.mk (hbox)
                                              have n7_ := Aside0.mk ((by rw [hg]; exact (below_size (B_)) : w.heap.size ≤ gb119))
                                              have n8_ := Aside0.mk ((by rw [hg]; exact (below_size (B_)) : w.heap.size ≤ gb119))
                                              have n9_ := Aside0.mk ((by rw [hg]; exact Nat.ne_of_lt (blk_lt (g := gb101) (o := .cells #[.slice A0_0 l0_0.length c0_0, .int .i64 a0_1, .slice A0_2 l0_2.length c0_2] 25 (0, 0)) (K_ BK101)) : gb101 ≠ gb119))
                                              have n10_ := Aside0.mk ((by rw [hg]; exact Nat.ne_of_gt (blk_lt (g := gb101) (o := .cells #[.slice A0_0 l0_0.length c0_0, .int .i64 a0_1, .slice A0_2 l0_2.length c0_2] 25 (0, 0)) (K_ BK101)) : gb119 ≠ gb101))
                                              have n11_ := Aside0.mk ((by rw [hg]; exact Nat.ne_of_lt (blk_lt (g := gb102) (o := .cells #[.int .i64 a1_0, .int .i64 a1_1, .int .i64 a1_2, .int .i64 a1_3] 58 (0, 0)) (K_ BK102)) : gb102 ≠ gb119))
                                              have n12_ := Aside0.mk ((by rw [hg]; exact Nat.ne_of_gt (blk_lt (g := gb102) (o := .cells #[.int .i64 a1_0, .int .i64 a1_1, .int .i64 a1_2, .int .i64 a1_3] 58 (0, 0)) (K_ BK102)) : gb119 ≠ gb102))
                                              have n13_ := Aside0.mk ((by rw [hg]; exact Nat.ne_of_lt (blk_lt (g := gb111) (o := .cells #[.slice A0_0 l0_0.length c0_0, .int .i64 ji8, .slice A0_2 l0_2.length c0_2] 25 (0, 0)) (K_ BK111)) : gb111 ≠ gb119))
                                              have n14_ := Aside0.mk ((by rw [hg]; exact Nat.ne_of_gt (blk_lt (g := gb111) (o := .cells #[.slice A0_0 l0_0.length c0_0, .int .i64 ji8, .slice A0_2 l0_2.length c0_2] 25 (0, 0)) (K_ BK111)) : gb119 ≠ gb111))
                                              have n15_ := Aside0.mk ((by rw [hg]; exact Nat.ne_of_lt (blk_lt (g := gb120) (o := .cells #[.slice none 0 0, .int .i64 0, .slice none 0 0] 25 (0, 0)) (K_ BK120)) : gb120 ≠ gb119))
                                              have n16_ := Aside0.mk ((by rw [hg]; exact Nat.ne_of_gt (blk_lt (g := gb120) (o := .cells #[.slice none 0 0, .int .i64 0, .slice none 0 0] 25 (0, 0)) (K_ BK120)) : gb119 ≠ gb120))
                                              clear HO_5
                                              clear BK101
                                              clear BK102
                                              clear BK111
                                              clear BK120
                                              clear HB
                                              have HO_5 := n0_
                                              have BK101 := n1_
                                              have BK102 := n2_
                                              have BK111 := n3_
                                              have BK120 := n4_
                                              have HB := n5_
                                              have BK119 := n6_
                                              have GW119 := n7_
                                              have GE119 := n8_
                                              have NB101_119 := n9_
                                              have NB119_101 := n10_
                                              have NB102_119 := n11_
                                              have NB119_102 := n12_
                                              have NB111_119 := n13_
                                              have NB119_111 := n14_
                                              have NB120_119 := n15_
                                              have NB119_120 := n16_
                                              clear n0_ n1_ n2_ n3_ n4_ n5_ n6_ n7_ n8_ n9_ n10_ n11_ n12_ n13_ n14_ n15_ n16_
                                              clear hb hbox hg
                                              refine hK.out _ _ ⟨(blk_cell BK101.out 0).trans rfl, (blk_cell BK101.out 1).trans rfl, (blk_cell BK101.out 2).trans rfl⟩ (fun hHeld => ?_)
                                              clear hK K
                                              refine norm_ (a' := ?_) ?_ ?_
                                              rotate_left
                                              · show Act.put _ (some 13) _ = _
                                                simp only [Act.put, List.setIfInBounds_toArray, List.set_cons_zero, List.set_cons_succ, i64_w, i32_w]
                                                rfl
                                              exact norm_ (by simp only [putAll, Act.put, List.setIfInBounds_toArray, List.set_cons_zero, List.set_cons_succ]) (hCont (gb119, gb120) _ ⟨hHeld, (by (with_reducible repeat (first | apply Kd.V_alloc | apply Kd.V_drewN | apply Kd.V_drew)); exact Kd.V_mono HO_5.out (fun _ hk => ⟨hk.1.1.1, ⟨hk.1.1.2.1, ⟨hk.1.1.2.2, ⟨hk.2, hk.1.2⟩⟩⟩⟩)), (K_ BK101), (K_ BK102), (K_ BK111), (K_ BK119), (K_ BK120), GW119.out, GE119.out, NB101_119.out, NB119_101.out, NB102_119.out, NB119_102.out, NB111_119.out, NB119_111.out, NB120_119.out, NB119_120.out, GW120.out, GE120.out, NB101_120.out, NB120_101.out, NB102_120.out, NB120_102.out, NB111_120.out, NB120_111.out, (B_)⟩)
                                          rintro ⟨gb119, gb120⟩ w75 ⟨hS_, h0_, h1_, h2_, h3_, h4_, h5_, h6_, h7_, h8_, h9_, h10_, h11_, h12_, h13_, h14_, h15_, h16_, h17_, h18_, h19_, h20_, h21_, h22_, h23_, h24_⟩
                                          have n0_ : Aside0 (Kd.V (Kd.int .i64) 3 w75 w.heap.size (fun k_ => k_ ≠ gb101 ∧ k_ ≠ gb102 ∧ k_ ≠ gb111 ∧ k_ ≠ gb119 ∧ k_ ≠ gb120) v106 t105) := ⟨h0_⟩
                                          have n1_ : Aside0 (w75.heap[gb101]? = some (.cells #[.slice A0_0 l0_0.length c0_0, .int .i64 a0_1, .slice A0_2 l0_2.length c0_2] 25 (0, 0))) := ⟨h1_⟩
                                          have n2_ : Aside0 (w75.heap[gb102]? = some (.cells #[.int .i64 a1_0, .int .i64 a1_1, .int .i64 a1_2, .int .i64 a1_3] 58 (0, 0))) := ⟨h2_⟩
                                          have n3_ : Aside0 (w75.heap[gb111]? = some (.cells #[.slice A0_0 l0_0.length c0_0, .int .i64 ji8, .slice A0_2 l0_2.length c0_2] 25 (0, 0))) := ⟨h3_⟩
                                          have n4_ : Aside0 (w75.heap[gb119]? = some (.cells #[.slice none 0 0, .int .i64 0, .slice none 0 0] 25 (0, 0))) := ⟨h4_⟩
                                          have n5_ : Aside0 (w75.heap[gb120]? = some (.cells #[.slice none 0 0, .int .i64 0, .slice none 0 0] 25 (0, 0))) := ⟨h5_⟩
                                          have n6_ : Aside0 (w.heap.size ≤ gb119) := ⟨h6_⟩
                                          have n7_ : Aside0 (w.heap.size ≤ gb119) := ⟨h7_⟩
                                          have n8_ : Aside0 (gb101 ≠ gb119) := ⟨h8_⟩
                                          have n9_ : Aside0 (gb119 ≠ gb101) := ⟨h9_⟩
                                          have n10_ : Aside0 (gb102 ≠ gb119) := ⟨h10_⟩
                                          have n11_ : Aside0 (gb119 ≠ gb102) := ⟨h11_⟩
                                          have n12_ : Aside0 (gb111 ≠ gb119) := ⟨h12_⟩
                                          have n13_ : Aside0 (gb119 ≠ gb111) := ⟨h13_⟩
                                          have n14_ : Aside0 (gb120 ≠ gb119) := ⟨h14_⟩
                                          have n15_ : Aside0 (gb119 ≠ gb120) := ⟨h15_⟩
                                          have n16_ : Aside0 (w.heap.size ≤ gb120) := ⟨h16_⟩
                                          have n17_ : Aside0 (w.heap.size ≤ gb120) := ⟨h17_⟩
                                          have n18_ : Aside0 (gb101 ≠ gb120) := ⟨h18_⟩
                                          have n19_ : Aside0 (gb120 ≠ gb101) := ⟨h19_⟩
                                          have n20_ : Aside0 (gb102 ≠ gb120) := ⟨h20_⟩
                                          have n21_ : Aside0 (gb120 ≠ gb102) := ⟨h21_⟩
                                          have n22_ : Aside0 (gb111 ≠ gb120) := ⟨h22_⟩
                                          have n23_ : Aside0 (gb120 ≠ gb111) := ⟨h23_⟩
                                          have n24_ : Aside0 (Below w.heap.size w w75) := ⟨h24_⟩
                                          clear HO_5
                                          clear BK101
                                          clear BK102
                                          clear BK111
                                          clear HB
                                          clear h0_ h1_ h2_ h3_ h4_ h5_ h6_ h7_ h8_ h9_ h10_ h11_ h12_ h13_ h14_ h15_ h16_ h17_ h18_ h19_ h20_ h21_ h22_ h23_ h24_
                                          have HO_5 := n0_
                                          have BK101 := n1_
                                          have BK102 := n2_
                                          have BK111 := n3_
                                          have BK119 := n4_
                                          have BK120 := n5_
                                          have GW119 := n6_
                                          have GE119 := n7_
                                          have NB101_119 := n8_
                                          have NB119_101 := n9_
                                          have NB102_119 := n10_
                                          have NB119_102 := n11_
                                          have NB111_119 := n12_
                                          have NB119_111 := n13_
                                          have NB120_119 := n14_
                                          have NB119_120 := n15_
                                          have GW120 := n16_
                                          have GE120 := n17_
                                          have NB101_120 := n18_
                                          have NB120_101 := n19_
                                          have NB102_120 := n20_
                                          have NB120_102 := n21_
                                          have NB111_120 := n22_
                                          have NB120_111 := n23_
                                          have HB := n24_
                                          clear n0_ n1_ n2_ n3_ n4_ n5_ n6_ n7_ n8_ n9_ n10_ n11_ n12_ n13_ n14_ n15_ n16_ n17_ n18_ n19_ n20_ n21_ n22_ n23_ n24_
                                          have hHeld : w75.cell? ⟨gb101, 0, none⟩ = some (.slice A0_0 l0_0.length c0_0) ∧ w75.cell? ⟨gb101, 1, none⟩ = some (.int .i64 a0_1) ∧ w75.cell? ⟨gb101, 2, none⟩ = some (.slice A0_2 l0_2.length c0_2) := hS_
                                          refine norm_ (a' := ?_) ?_ ?_
                                          rotate_left
                                          · simp only [putAll, Act.put, List.setIfInBounds_toArray, List.set_cons_zero, List.set_cons_succ]
                                            rfl
                                          refine one_ (i := 4) (N := none) #[true, true, true, true, true, false] rfl rfl (by kernel_rfl) (by decide) (fun K hK => ?_)
                                          have hs76 : w75.cell? ⟨gb119, 0, none⟩ = some (.slice none 0 0) := (blk_cell BK119.out 0).trans rfl
                                          have hfs76 := blk_frozen BK119.out 0
                                          have hns76_0 := NB101_119.out
                                          have hns76_1 := NB102_119.out
                                          have hns76_2 := NB111_119.out
                                          have hns76_4 := NB120_119.out
                                          have hms76_0 := NB119_101.out
                                          have hms76_1 := NB119_102.out
                                          have hms76_2 := NB119_111.out
                                          have hms76_4 := NB119_120.out
                                          have hs77 : w75.cell? ⟨gb119, 1, none⟩ = some (.int .i64 0) := (blk_cell BK119.out 1).trans rfl
                                          have hfs77 := blk_frozen BK119.out 1
                                          have hns77_0 := NB101_119.out
                                          have hns77_1 := NB102_119.out
                                          have hns77_2 := NB111_119.out
                                          have hns77_4 := NB120_119.out
                                          have hms77_0 := NB119_101.out
                                          have hms77_1 := NB119_102.out
                                          have hms77_2 := NB119_111.out
                                          have hms77_4 := NB119_120.out
                                          have hs78 : w75.cell? ⟨gb119, 2, none⟩ = some (.slice none 0 0) := (blk_cell BK119.out 2).trans rfl
                                          have hfs78 := blk_frozen BK119.out 2
                                          have hns78_0 := NB101_119.out
                                          have hns78_1 := NB102_119.out
                                          have hns78_2 := NB111_119.out
                                          have hns78_4 := NB120_119.out
                                          have hms78_0 := NB119_101.out
                                          have hms78_1 := NB119_102.out
                                          have hms78_2 := NB119_111.out
                                          have hms78_4 := NB119_120.out
                                          refine skip_ (w1 := ?_) (by rfl) rfl ?_ ?_
                                          rotate_left
                                          · go_simp
                                            rfl
                                          refine hK.out _ _ ⟨((cell_far (p := ⟨gb119, _, none⟩) NB101_119.out _).trans (((cell_far (p := ⟨gb119, _, none⟩) NB101_119.out _).trans (((cell_far (p := ⟨gb119, _, none⟩) NB101_119.out _).trans (hHeld.1)))))), ((cell_far (p := ⟨gb119, _, none⟩) NB101_119.out _).trans (((cell_far (p := ⟨gb119, _, none⟩) NB101_119.out _).trans (((cell_far (p := ⟨gb119, _, none⟩) NB101_119.out _).trans (hHeld.2.1)))))), ((cell_far (p := ⟨gb119, _, none⟩) NB101_119.out _).trans (((cell_far (p := ⟨gb119, _, none⟩) NB101_119.out _).trans (((cell_far (p := ⟨gb119, _, none⟩) NB101_119.out _).trans (hHeld.2.2))))))⟩ (fun hHeld => ?_)
                                          clear hK K
                                          refine one_ (i := 5) (N := none) #[true, true, true, true, true, true] rfl rfl (by kernel_rfl) (by decide) (fun K hK => ?_)
                                          have hs79 : w75.cell? ⟨gb120, 0, none⟩ = some (.slice none 0 0) := (blk_cell BK120.out 0).trans rfl
                                          have hfs79 := blk_frozen BK120.out 0
                                          have hns79_0 := NB101_120.out
                                          have hns79_1 := NB102_120.out
                                          have hns79_2 := NB111_120.out
                                          have hns79_3 := NB119_120.out
                                          have hms79_0 := NB120_101.out
                                          have hms79_1 := NB120_102.out
                                          have hms79_2 := NB120_111.out
                                          have hms79_3 := NB120_119.out
                                          have hs80 : w75.cell? ⟨gb120, 1, none⟩ = some (.int .i64 0) := (blk_cell BK120.out 1).trans rfl
                                          have hfs80 := blk_frozen BK120.out 1
                                          have hns80_0 := NB101_120.out
                                          have hns80_1 := NB102_120.out
                                          have hns80_2 := NB111_120.out
                                          have hns80_3 := NB119_120.out
                                          have hms80_0 := NB120_101.out
                                          have hms80_1 := NB120_102.out
                                          have hms80_2 := NB120_111.out
                                          have hms80_3 := NB120_119.out
                                          have hs81 : w75.cell? ⟨gb120, 2, none⟩ = some (.slice none 0 0) := (blk_cell BK120.out 2).trans rfl
                                          have hfs81 := blk_frozen BK120.out 2
                                          have hns81_0 := NB101_120.out
                                          have hns81_1 := NB102_120.out
                                          have hns81_2 := NB111_120.out
                                          have hns81_3 := NB119_120.out
                                          have hms81_0 := NB120_101.out
                                          have hms81_1 := NB120_102.out
                                          have hms81_2 := NB120_111.out
                                          have hms81_3 := NB120_119.out
                                          refine skip_ (w1 := ?_) (by rfl) rfl ?_ ?_
                                          rotate_left
                                          · go_simp
                                            rfl
                                          refine hK.out _ _ ⟨((cell_far (p := ⟨gb120, _, none⟩) NB101_120.out _).trans (((cell_far (p := ⟨gb120, _, none⟩) NB101_120.out _).trans (((cell_far (p := ⟨gb120, _, none⟩) NB101_120.out _).trans (hHeld.1)))))), ((cell_far (p := ⟨gb120, _, none⟩) NB101_120.out _).trans (((cell_far (p := ⟨gb120, _, none⟩) NB101_120.out _).trans (((cell_far (p := ⟨gb120, _, none⟩) NB101_120.out _).trans (hHeld.2.1)))))), ((cell_far (p := ⟨gb120, _, none⟩) NB101_120.out _).trans (((cell_far (p := ⟨gb120, _, none⟩) NB101_120.out _).trans (((cell_far (p := ⟨gb120, _, none⟩) NB101_120.out _).trans (hHeld.2.2))))))⟩ (fun hHeld => ?_)
                                          clear hK K
                                          refine done_ (by kernel_rfl) ?_
                                          try go_wp2
                                          have n0_ : Aside0 (Kd.V (Kd.int .i64) 3 ((((((w75.setCell ⟨gb119, 0, none⟩ (.slice A0_0 l0_0.length c0_0)).setCell ⟨gb119, 1, none⟩ (.int .i64 a0_1)).setCell ⟨gb119, 2, none⟩ (.slice A0_2 l0_2.length c0_2)).setCell ⟨gb120, 0, none⟩ (.slice A0_0 l0_0.length c0_0)).setCell ⟨gb120, 1, none⟩ (.int .i64 a0_1)).setCell ⟨gb120, 2, none⟩ (.slice A0_2 l0_2.length c0_2)) w.heap.size (fun k_ => k_ ≠ gb101 ∧ k_ ≠ gb102 ∧ k_ ≠ gb111 ∧ k_ ≠ gb119 ∧ k_ ≠ gb120) v106 t105) := ⟨by (with_reducible repeat (first | apply Kd.V_alloc | apply Kd.V_drewN | apply Kd.V_drew)); exact Kd.V_mono (Kd.V_far (p := ⟨gb120, 2, none⟩) (Kd.V_far (p := ⟨gb120, 1, none⟩) (Kd.V_far (p := ⟨gb120, 0, none⟩) (Kd.V_far (p := ⟨gb119, 2, none⟩) (Kd.V_far (p := ⟨gb119, 1, none⟩) (Kd.V_far (p := ⟨gb119, 0, none⟩) (Kd.V_mono (Kd.V_mono HO_5.out (fun k_ hk => (⟨hk, hk.2.2.2.1⟩ : _ ∧ k_ ≠ gb119))) (fun k_ hk => (⟨hk, hk.1.2.2.2.2⟩ : _ ∧ k_ ≠ gb120))) (fun _ hk => hk.1.2) (.slice A0_0 l0_0.length c0_0)) (fun _ hk => hk.1.2) (.int .i64 a0_1)) (fun _ hk => hk.1.2) (.slice A0_2 l0_2.length c0_2)) (fun _ hk => hk.2) (.slice A0_0 l0_0.length c0_0)) (fun _ hk => hk.2) (.int .i64 a0_1)) (fun _ hk => hk.2) (.slice A0_2 l0_2.length c0_2)) (fun _ hk => ⟨hk.1.1.1, ⟨hk.1.1.2.1, ⟨hk.1.1.2.2.1, ⟨hk.1.1.2.2.2.1, hk.1.1.2.2.2.2⟩⟩⟩⟩)⟩
                                          have n1_ : Aside0 (((((((w75.setCell ⟨gb119, 0, none⟩ (.slice A0_0 l0_0.length c0_0)).setCell ⟨gb119, 1, none⟩ (.int .i64 a0_1)).setCell ⟨gb119, 2, none⟩ (.slice A0_2 l0_2.length c0_2)).setCell ⟨gb120, 0, none⟩ (.slice A0_0 l0_0.length c0_0)).setCell ⟨gb120, 1, none⟩ (.int .i64 a0_1)).setCell ⟨gb120, 2, none⟩ (.slice A0_2 l0_2.length c0_2)).heap[gb101]? = some (.cells #[.slice A0_0 l0_0.length c0_0, .int .i64 a0_1, .slice A0_2 l0_2.length c0_2] 25 (0, 0))) := ⟨by (with_reducible repeat (first | refine blk_drewN ?_ _ | refine blk_drew ?_ | refine blk_alloc ?_ _)); refine blk_far ?_ NB101_120.out _; (with_reducible repeat (first | refine blk_drewN ?_ _ | refine blk_drew ?_ | refine blk_alloc ?_ _)); refine blk_far ?_ NB101_120.out _; (with_reducible repeat (first | refine blk_drewN ?_ _ | refine blk_drew ?_ | refine blk_alloc ?_ _)); refine blk_far ?_ NB101_120.out _; (with_reducible repeat (first | refine blk_drewN ?_ _ | refine blk_drew ?_ | refine blk_alloc ?_ _)); refine blk_far ?_ NB101_119.out _; (with_reducible repeat (first | refine blk_drewN ?_ _ | refine blk_drew ?_ | refine blk_alloc ?_ _)); refine blk_far ?_ NB101_119.out _; (with_reducible repeat (first | refine blk_drewN ?_ _ | refine blk_drew ?_ | refine blk_alloc ?_ _)); refine blk_far ?_ NB101_119.out _; (with_reducible repeat (first | refine blk_drewN ?_ _ | refine blk_drew ?_ | refine blk_alloc ?_ _)); exact BK101.out⟩
                                          have n2_ : Aside0 (((((((w75.setCell ⟨gb119, 0, none⟩ (.slice A0_0 l0_0.length c0_0)).setCell ⟨gb119, 1, none⟩ (.int .i64 a0_1)).setCell ⟨gb119, 2, none⟩ (.slice A0_2 l0_2.length c0_2)).setCell ⟨gb120, 0, none⟩ (.slice A0_0 l0_0.length c0_0)).setCell ⟨gb120, 1, none⟩ (.int .i64 a0_1)).setCell ⟨gb120, 2, none⟩ (.slice A0_2 l0_2.length c0_2)).heap[gb102]? = some (.cells #[.int .i64 a1_0, .int .i64 a1_1, .int .i64 a1_2, .int .i64 a1_3] 58 (0, 0))) := ⟨by (with_reducible repeat (first | refine blk_drewN ?_ _ | refine blk_drew ?_ | refine blk_alloc ?_ _)); refine blk_far ?_ NB102_120.out _; (with_reducible repeat (first | refine blk_drewN ?_ _ | refine blk_drew ?_ | refine blk_alloc ?_ _)); refine blk_far ?_ NB102_120.out _; (with_reducible repeat (first | refine blk_drewN ?_ _ | refine blk_drew ?_ | refine blk_alloc ?_ _)); refine blk_far ?_ NB102_120.out _; (with_reducible repeat (first | refine blk_drewN ?_ _ | refine blk_drew ?_ | refine blk_alloc ?_ _)); refine blk_far ?_ NB102_119.out _; (with_reducible repeat (first | refine blk_drewN ?_ _ | refine blk_drew ?_ | refine blk_alloc ?_ _)); refine blk_far ?_ NB102_119.out _; (with_reducible repeat (first | refine blk_drewN ?_ _ | refine blk_drew ?_ | refine blk_alloc ?_ _)); refine blk_far ?_ NB102_119.out _; (with_reducible repeat (first | refine blk_drewN ?_ _ | refine blk_drew ?_ | refine blk_alloc ?_ _)); exact BK102.out⟩
                                          have n3_ : Aside0 (((((((w75.setCell ⟨gb119, 0, none⟩ (.slice A0_0 l0_0.length c0_0)).setCell ⟨gb119, 1, none⟩ (.int .i64 a0_1)).setCell ⟨gb119, 2, none⟩ (.slice A0_2 l0_2.length c0_2)).setCell ⟨gb120, 0, none⟩ (.slice A0_0 l0_0.length c0_0)).setCell ⟨gb120, 1, none⟩ (.int .i64 a0_1)).setCell ⟨gb120, 2, none⟩ (.slice A0_2 l0_2.length c0_2)).heap[gb111]? = some (.cells #[.slice A0_0 l0_0.length c0_0, .int .i64 ji8, .slice A0_2 l0_2.length c0_2] 25 (0, 0))) := ⟨by (with_reducible repeat (first | refine blk_drewN ?_ _ | refine blk_drew ?_ | refine blk_alloc ?_ _)); refine blk_far ?_ NB111_120.out _; (with_reducible repeat (first | refine blk_drewN ?_ _ | refine blk_drew ?_ | refine blk_alloc ?_ _)); refine blk_far ?_ NB111_120.out _; (with_reducible repeat (first | refine blk_drewN ?_ _ | refine blk_drew ?_ | refine blk_alloc ?_ _)); refine blk_far ?_ NB111_120.out _; (with_reducible repeat (first | refine blk_drewN ?_ _ | refine blk_drew ?_ | refine blk_alloc ?_ _)); refine blk_far ?_ NB111_119.out _; (with_reducible repeat (first | refine blk_drewN ?_ _ | refine blk_drew ?_ | refine blk_alloc ?_ _)); refine blk_far ?_ NB111_119.out _; (with_reducible repeat (first | refine blk_drewN ?_ _ | refine blk_drew ?_ | refine blk_alloc ?_ _)); refine blk_far ?_ NB111_119.out _; (with_reducible repeat (first | refine blk_drewN ?_ _ | refine blk_drew ?_ | refine blk_alloc ?_ _)); exact BK111.out⟩
                                          have n4_ : Aside0 (((((((w75.setCell ⟨gb119, 0, none⟩ (.slice A0_0 l0_0.length c0_0)).setCell ⟨gb119, 1, none⟩ (.int .i64 a0_1)).setCell ⟨gb119, 2, none⟩ (.slice A0_2 l0_2.length c0_2)).setCell ⟨gb120, 0, none⟩ (.slice A0_0 l0_0.length c0_0)).setCell ⟨gb120, 1, none⟩ (.int .i64 a0_1)).setCell ⟨gb120, 2, none⟩ (.slice A0_2 l0_2.length c0_2)).heap[gb119]? = some (.cells #[.slice A0_0 l0_0.length c0_0, .int .i64 a0_1, .slice A0_2 l0_2.length c0_2] 25 (0, 0))) := ⟨by (with_reducible repeat (first | refine blk_drewN ?_ _ | refine blk_drew ?_ | refine blk_alloc ?_ _)); refine blk_far ?_ NB119_120.out _; (with_reducible repeat (first | refine blk_drewN ?_ _ | refine blk_drew ?_ | refine blk_alloc ?_ _)); refine blk_far ?_ NB119_120.out _; (with_reducible repeat (first | refine blk_drewN ?_ _ | refine blk_drew ?_ | refine blk_alloc ?_ _)); refine blk_far ?_ NB119_120.out _; (with_reducible repeat (first | refine blk_drewN ?_ _ | refine blk_drew ?_ | refine blk_alloc ?_ _)); refine blk_put (cs := #[.slice A0_0 l0_0.length c0_0, .int .i64 a0_1, .slice none 0 0]) ?_ 2 _ rfl; (with_reducible repeat (first | refine blk_drewN ?_ _ | refine blk_drew ?_ | refine blk_alloc ?_ _)); refine blk_put (cs := #[.slice A0_0 l0_0.length c0_0, .int .i64 0, .slice none 0 0]) ?_ 1 _ rfl; (with_reducible repeat (first | refine blk_drewN ?_ _ | refine blk_drew ?_ | refine blk_alloc ?_ _)); refine blk_put (cs := #[.slice none 0 0, .int .i64 0, .slice none 0 0]) ?_ 0 _ rfl; (with_reducible repeat (first | refine blk_drewN ?_ _ | refine blk_drew ?_ | refine blk_alloc ?_ _)); exact BK119.out⟩
                                          have n5_ : Aside0 (((((((w75.setCell ⟨gb119, 0, none⟩ (.slice A0_0 l0_0.length c0_0)).setCell ⟨gb119, 1, none⟩ (.int .i64 a0_1)).setCell ⟨gb119, 2, none⟩ (.slice A0_2 l0_2.length c0_2)).setCell ⟨gb120, 0, none⟩ (.slice A0_0 l0_0.length c0_0)).setCell ⟨gb120, 1, none⟩ (.int .i64 a0_1)).setCell ⟨gb120, 2, none⟩ (.slice A0_2 l0_2.length c0_2)).heap[gb120]? = some (.cells #[.slice A0_0 l0_0.length c0_0, .int .i64 a0_1, .slice A0_2 l0_2.length c0_2] 25 (0, 0))) := ⟨by (with_reducible repeat (first | refine blk_drewN ?_ _ | refine blk_drew ?_ | refine blk_alloc ?_ _)); refine blk_put (cs := #[.slice A0_0 l0_0.length c0_0, .int .i64 a0_1, .slice none 0 0]) ?_ 2 _ rfl; (with_reducible repeat (first | refine blk_drewN ?_ _ | refine blk_drew ?_ | refine blk_alloc ?_ _)); refine blk_put (cs := #[.slice A0_0 l0_0.length c0_0, .int .i64 0, .slice none 0 0]) ?_ 1 _ rfl; (with_reducible repeat (first | refine blk_drewN ?_ _ | refine blk_drew ?_ | refine blk_alloc ?_ _)); refine blk_put (cs := #[.slice none 0 0, .int .i64 0, .slice none 0 0]) ?_ 0 _ rfl; (with_reducible repeat (first | refine blk_drewN ?_ _ | refine blk_drew ?_ | refine blk_alloc ?_ _)); refine blk_far ?_ NB120_119.out _; (with_reducible repeat (first | refine blk_drewN ?_ _ | refine blk_drew ?_ | refine blk_alloc ?_ _)); refine blk_far ?_ NB120_119.out _; (with_reducible repeat (first | refine blk_drewN ?_ _ | refine blk_drew ?_ | refine blk_alloc ?_ _)); refine blk_far ?_ NB120_119.out _; (with_reducible repeat (first | refine blk_drewN ?_ _ | refine blk_drew ?_ | refine blk_alloc ?_ _)); exact BK120.out⟩
                                          have n6_ : Aside0 (Below w.heap.size w ((((((w75.setCell ⟨gb119, 0, none⟩ (.slice A0_0 l0_0.length c0_0)).setCell ⟨gb119, 1, none⟩ (.int .i64 a0_1)).setCell ⟨gb119, 2, none⟩ (.slice A0_2 l0_2.length c0_2)).setCell ⟨gb120, 0, none⟩ (.slice A0_0 l0_0.length c0_0)).setCell ⟨gb120, 1, none⟩ (.int .i64 a0_1)).setCell ⟨gb120, 2, none⟩ (.slice A0_2 l0_2.length c0_2))) := ⟨B_⟩
                                          (try clear HO_5)
                                          (try clear BK101)
                                          (try clear BK102)
                                          (try clear BK111)
                                          (try clear BK119)
                                          (try clear BK120)
                                          (try clear HB)
                                          generalize ((((((w75.setCell ⟨gb119, 0, none⟩ (.slice A0_0 l0_0.length c0_0)).setCell ⟨gb119, 1, none⟩ (.int .i64 a0_1)).setCell ⟨gb119, 2, none⟩ (.slice A0_2 l0_2.length c0_2)).setCell ⟨gb120, 0, none⟩ (.slice A0_0 l0_0.length c0_0)).setCell ⟨gb120, 1, none⟩ (.int .i64 a0_1)).setCell ⟨gb120, 2, none⟩ (.slice A0_2 l0_2.length c0_2)) = w82 at n0_ n1_ n2_ n3_ n4_ n5_ n6_ ⊢
                                          have HO_5 := n0_
                                          have BK101 := n1_
                                          have BK102 := n2_
                                          have BK111 := n3_
                                          have BK119 := n4_
                                          have BK120 := n5_
                                          have HB := n6_
                                          clear n0_ n1_ n2_ n3_ n4_ n5_ n6_
                                          have n0_ := Aside0.mk (Kd.V_drew HO_5.out)
                                          have n1_ := Aside0.mk (blk_drew BK101.out)
                                          have n2_ := Aside0.mk (blk_drew BK102.out)
                                          have n3_ := Aside0.mk (blk_drew BK111.out)
                                          have n4_ := Aside0.mk (blk_drew BK119.out)
                                          have n5_ := Aside0.mk (blk_drew BK120.out)
                                          have n6_ := Aside0.mk (below_drew1 HB.out)
                                          clear HO_5
                                          clear BK101
                                          clear BK102
                                          clear BK111
                                          clear BK119
                                          clear BK120
                                          clear HB
                                          have HO_5 := n0_
                                          have BK101 := n1_
                                          have BK102 := n2_
                                          have BK111 := n3_
                                          have BK119 := n4_
                                          have BK120 := n5_
                                          have HB := n6_
                                          clear n0_ n1_ n2_ n3_ n4_ n5_ n6_
                                          have q84 : (t118 : Int) ≤ ((l0_2.length : Int) : Int) := of_decide_eq_true D_
                                          obtain ⟨i084, hi084, _, hsz84, _⟩ := info_parts info61
                                          have hroom84 : l0_2.length ≤ c0_2 := HC0_2.out
                                          have hC84 : Kd.C k61 _ A0_2 l0_2.length l0_2 := HR0_2.out
                                          have hcut84 := cut_to (P := Tryd.prog) 23 61 .i64 Tryd.underlying23 hi084 A0_2 l0_2.length c0_2 t118 (of_decide_eq_true D_) q84 hroom84
                                          have hr84 := Kd.C_take (m := (t118 : Int).toNat) hC84 (by omega)
                                          have hy84 : y124.length = (t118 : Int).toNat := (by rw [Ny124.out, List.length_take]; omega)
                                          rw [← Ny124.out] at hr84
                                          rw [← hy84] at hcut84
                                          have HR127 := Aside0.mk hr84
                                          have HC127 := Aside0.mk (show y124.length ≤ c0_2 from by omega)
                                          clear hr84 hC84 hroom84 hi084 hsz84
                                          have KY84 := Aside0.mk hy84
                                          clear hy84
                                          replace q84 := eq_true q84
                                          have q85 : ((ji46) : Int) ≤ ((l0_2.length : Int) : Int) := of_decide_eq_true D_
                                          obtain ⟨i085, hi085, _, hsz85, _⟩ := info_parts info61
                                          have hroom85 : l0_2.length ≤ c0_2 := HC0_2.out
                                          have hC85 : Kd.C k61 _ A0_2 l0_2.length l0_2 := HR0_2.out
                                          have q085 : (0 : Int) ≤ ((ji46) : Int) := of_decide_eq_true D_
                                          have hcut85 := cut_from (P := Tryd.prog) 23 61 .i64 Tryd.underlying23 hi085 4 hsz85 A0_2 l0_2.length c0_2 (ji46) q085 q85
                                          have hr85 := Kd.C_drop (m := ((ji46) : Int).toNat) (c := c0_2) hC85 (by omega) hroom85
                                          obtain ⟨A85, hA85⟩ : ∃ A1, A1 = (if c0_2 = ((ji46) : Int).toNat then A0_2 else (A0_2 : Option Addr).map (·.add (((ji46) : Int).toNat * 4))) := ⟨_, rfl⟩
                                          obtain ⟨c85, hc85⟩ : ∃ c1, c1 = c0_2 - ((ji46) : Int).toNat := ⟨_, rfl⟩
                                          have hy85 : y131.length = l0_2.length - ((ji46) : Int).toNat := (by rw [Ny131.out, List.length_drop] <;> omega)
                                          rw [show (l0_2).drop ((ji46) : Int).toNat = y131 from Ny131.out.symm] at hr85
                                          replace hr85 : Kd.C k61 _ A85 y131.length y131 := (by rw [hA85]; exact hr85)
                                          rw [← hy85, ← hA85, ← hc85] at hcut85
                                          have HR134 := Aside0.mk hr85
                                          have HC134 := Aside0.mk (show y131.length ≤ c85 from by rw [hy85, hc85]; exact Nat.sub_le_sub_right hroom85 _)
                                          clear hr85 hC85 hroom85 hi085 hsz85 hc85
                                          have KY85 := Aside0.mk hy85
                                          have KA85 := Aside0.mk hA85
                                          clear hy85 hA85
                                          replace q85 := eq_true q85
                                          refine start_ (n := 14) (S := fun w' => w'.cell? ⟨gb101, 0, none⟩ = some (.slice A0_0 l0_0.length c0_0) ∧ w'.cell? ⟨gb101, 1, none⟩ = some (.int .i64 a0_1) ∧ w'.cell? ⟨gb101, 2, none⟩ = some (.slice A0_2 l0_2.length c0_2)) (ds := []) #[false, false, false, false, false, false, false, false, false, false, false, false, false, false] (by kernel_rfl) rfl rfl ⟨(blk_cell BK101.out 0).trans rfl, (blk_cell BK101.out 1).trans rfl, (blk_cell BK101.out 2).trans rfl⟩ (fun hHeld => ?_); refine with_tabW luciferlaw01_PeelLess.tab14 luciferlaw01_PeelLess.bits14 (fun HT_ HW_ => ?_)
                                          generalize w82.drew = w83 at HO_5 BK101 BK102 BK111 BK119 BK120 HB HR127 HR134 hHeld ⊢
                                          refine pure_ (i := 1) (N := some 80) (v := ?_) (a' := ?_) #[false, true, false, false, false, false, false, false, false, false, false, false, false, false] rfl rfl (any_of HT_.out (by kernel_rfl)) (fun _ _ _ h => h) (Or.inl ⟨by rfl, ?_⟩) ?_ ?_
                                          rotate_left
                                          · intro w'
                                            go_simp
                                            with_reducible rfl
                                          rotate_left
                                          · simp only [Act.put, List.setIfInBounds_toArray, List.set_cons_zero, List.set_cons_succ, i64_w, i32_w]
                                            rfl
                                          refine pure_ (i := 3) (N := some 82) (v := ?_) (a' := ?_) #[false, true, false, true, false, false, false, false, false, false, false, false, false, false] rfl rfl (any_of HT_.out (by kernel_rfl)) (fun _ _ _ h => h) (Or.inl ⟨by rfl, ?_⟩) ?_ ?_
                                          rotate_left
                                          · intro w'
                                            go_simp
                                            with_reducible rfl
                                          rotate_left
                                          · simp only [Act.put, List.setIfInBounds_toArray, List.set_cons_zero, List.set_cons_succ, i64_w, i32_w]
                                            rfl
                                          refine pure_ (i := 6) (N := some 85) (v := ?_) (a' := ?_) #[false, true, false, true, false, false, true, false, false, false, false, false, false, false] rfl rfl (any_of HT_.out (by kernel_rfl)) (fun _ _ _ h => h) (Or.inl ⟨by rfl, ?_⟩) ?_ ?_
                                          rotate_left
                                          · intro w'
                                            go_simp
                                            with_reducible rfl
                                          rotate_left
                                          · simp only [Act.put, List.setIfInBounds_toArray, List.set_cons_zero, List.set_cons_succ, i64_w, i32_w]
                                            rfl
                                          refine pure_ (i := 8) (N := some 87) (v := ?_) (a' := ?_) #[false, true, false, true, false, false, true, false, true, false, false, false, false, false] rfl rfl (any_of HT_.out (by kernel_rfl)) (fun _ _ _ h => h) (Or.inl ⟨by rfl, ?_⟩) ?_ ?_
                                          rotate_left
                                          · intro w'
                                            go_simp
                                            with_reducible rfl
                                          rotate_left
                                          · simp only [Act.put, List.setIfInBounds_toArray, List.set_cons_zero, List.set_cons_succ, i64_w, i32_w]
                                            rfl
                                          refine pure_ (i := 9) (N := some 88) (v := ?_) (a' := ?_) #[false, true, false, true, false, false, true, false, true, true, false, false, false, false] rfl rfl (any_of HT_.out (by kernel_rfl)) (fun _ _ _ h => h) (Or.inl ⟨by rfl, ?_⟩) ?_ ?_
                                          rotate_left
                                          · intro w'
                                            go_simp
                                            with_reducible rfl
                                          rotate_left
                                          · simp only [Act.put, List.setIfInBounds_toArray, List.set_cons_zero, List.set_cons_succ, i64_w, i32_w]
                                            rfl
                                          refine take_ (i := 2) (N := some 81) (v := ?_) (a' := ?_) #[false, true, true, true, false, false, true, false, true, true, false, false, false, false] rfl rfl (take_ofW HT_.out HW_.out (by kernel_rfl)) (fun _ _ _ h => h) (Or.inl ⟨by rfl, ?_⟩) hHeld ?_ ?_
                                          rotate_left
                                          · rintro w' ⟨s0, s1, s2⟩
                                            go_simp
                                            with_reducible rfl
                                          rotate_left
                                          · simp only [Act.put, List.setIfInBounds_toArray, List.set_cons_zero, List.set_cons_succ, i64_w, i32_w]
                                            rfl
                                          refine pure_ (i := 4) (N := some 83) (v := ?_) (a' := ?_) #[false, true, true, true, true, false, true, false, true, true, false, false, false, false] rfl rfl (any_of HT_.out (by kernel_rfl)) (fun _ _ _ h => h) (Or.inl ⟨by rfl, ?_⟩) ?_ ?_
                                          rotate_left
                                          · intro w'
                                            go_simp
                                            with_reducible rfl
                                          rotate_left
                                          · simp only [Act.put, List.setIfInBounds_toArray, List.set_cons_zero, List.set_cons_succ, i64_w, i32_w]
                                            rfl
                                          refine take_ (i := 7) (N := some 86) (v := ?_) (a' := ?_) #[false, true, true, true, true, false, true, true, true, true, false, false, false, false] rfl rfl (take_ofW HT_.out HW_.out (by kernel_rfl)) (fun _ _ _ h => h) (Or.inl ⟨by rfl, ?_⟩) hHeld ?_ ?_
                                          rotate_left
                                          · rintro w' ⟨s0, s1, s2⟩
                                            go_simp
                                            with_reducible rfl
                                          rotate_left
                                          · simp only [Act.put, List.setIfInBounds_toArray, List.set_cons_zero, List.set_cons_succ, i64_w, i32_w]
                                            rfl
                                          refine pure_ (i := 10) (N := some 89) (v := ?_) (a' := ?_) #[false, true, true, true, true, false, true, true, true, true, true, false, false, false] rfl rfl (any_of HT_.out (by kernel_rfl)) (fun _ _ _ h => h) (Or.inl ⟨by rfl, ?_⟩) ?_ ?_
                                          rotate_left
                                          · intro w'
                                            go_simp
                                            with_reducible rfl
                                          rotate_left
                                          · simp only [Act.put, List.setIfInBounds_toArray, List.set_cons_zero, List.set_cons_succ, i64_w, i32_w]
                                            rfl
                                          refine one_ (i := 0) (N := some 79) #[true, true, true, true, true, false, true, true, true, true, true, false, false, false] rfl rfl (one_of HT_.out (by kernel_rfl)) (by decide) (fun K hK => ?_)
                                          refine Kd.R_lit_step k61 _ 61 ?hg (N := 79) ?hd (xs := ([] : List (S61))) (inner := []) (ok := fun _ => True) (okp := fun _ => True) ?hr ?hp (fun _ hk => hk) trivial (Below.refl _ _) (Nat.le_refl _) (by simp) ?_; (case hd => rfl); (case hg => rfl); (case hr => first | (go_simp; done) | (go_simp; rfl)); (case hp => exact (Reps.none _ _))
                                          intro v122 w86 ho87 hb hg_ hnew_
                                          clear hg_ hnew_
                                          (first | rw [← Ny121.out] at ho87 | (simp only [Int.reduceToNat] at ho87; rw [← Ny121.out] at ho87))
                                          have n0_ := Aside0.mk (Kd.V_elder' (by (with_reducible repeat (first | apply Kd.V_alloc | apply Kd.V_drewN | apply Kd.V_drew)); exact HO_5.out) (Kd.R_base ho87) hb)
                                          have n1_ := Aside0.mk (Kd.R_lower ho87 (below_size (B_)))
                                          have n2_ := Aside0.mk (blk_below (g := gb101) (o := .cells #[.slice A0_0 l0_0.length c0_0, .int .i64 a0_1, .slice A0_2 l0_2.length c0_2] 25 (0, 0)) (K_ BK101) hb)
                                          have n3_ := Aside0.mk (blk_below (g := gb102) (o := .cells #[.int .i64 a1_0, .int .i64 a1_1, .int .i64 a1_2, .int .i64 a1_3] 58 (0, 0)) (K_ BK102) hb)
                                          have n4_ := Aside0.mk (blk_below (g := gb111) (o := .cells #[.slice A0_0 l0_0.length c0_0, .int .i64 ji8, .slice A0_2 l0_2.length c0_2] 25 (0, 0)) (K_ BK111) hb)
                                          have n5_ := Aside0.mk (blk_below (g := gb119) (o := .cells #[.slice A0_0 l0_0.length c0_0, .int .i64 a0_1, .slice A0_2 l0_2.length c0_2] 25 (0, 0)) (K_ BK119) hb)
                                          have n6_ := Aside0.mk (blk_below (g := gb120) (o := .cells #[.slice A0_0 l0_0.length c0_0, .int .i64 a0_1, .slice A0_2 l0_2.length c0_2] 25 (0, 0)) (K_ BK120) hb)
                                          have n7_ := Aside0.mk (below_step (B_) hb)
                                          clear HO_5
                                          clear BK101
                                          clear BK102
                                          clear BK111
                                          clear BK119
                                          clear BK120
                                          clear HB
                                          have HO_5 := n0_
                                          have HO123 := n1_
                                          have BK101 := n2_
                                          have BK102 := n3_
                                          have BK111 := n4_
                                          have BK119 := n5_
                                          have BK120 := n6_
                                          have HB := n7_
                                          clear n0_ n1_ n2_ n3_ n4_ n5_ n6_ n7_
                                          clear hb ho87
                                          refine hK.out _ _ ⟨(blk_cell BK101.out 0).trans rfl, (blk_cell BK101.out 1).trans rfl, (blk_cell BK101.out 2).trans rfl⟩ (fun hHeld => ?_)
                                          clear hK K
                                          refine norm_ (a' := ?_) ?_ ?_
                                          rotate_left
                                          · show Act.put _ (some 79) _ = _
                                            simp only [Act.put, List.setIfInBounds_toArray, List.set_cons_zero, List.set_cons_succ, i64_w, i32_w]
                                            rfl
                                          refine one_ (i := 5) (N := some 84) #[true, true, true, true, true, true, true, true, true, true, true, false, false, false] rfl rfl (one_of HT_.out (by kernel_rfl)) (by decide) (fun K hK => ?_)
                                          refine Kd.R_append_rows_step k61 (w0 := w) w.heap.size (by rfl) (.tmp 79) (.tmp 83) 23 61 (.agg #[(.int .i64 0), (.int .i64 0), (.int .i64 0), (.int .i64 0)]) 32 rfl Tryd.underlying23 info61 rfl (by decide) (by omega) v122 y121 y124 _ _ _ (fun _ => True) (fun _ => False) rfl rfl ?aO ?aR (fun _ _ h => h) (fun _ h => h.elim) ?aF ?aB ?aS ?aL ?_
                                          (case aR => exact C_ HR127)
                                          (case aB => exact (B_))
                                          (case aF => exact (fun _ _ => trivial))
                                          (case aO => exact (R_ HO123))
                                          (case aS => exact (below_size (B_)))
                                          (case aL => have := LMc45.out; omega)
                                          intro v129 w88 ho hb hg hat
                                          rw [← Ny128.out] at ho
                                          have n0_ := Aside0.mk (Kd.V_afterv (ok := (fun k_ => k_ ≠ gb101 ∧ k_ ≠ gb102 ∧ k_ ≠ gb111 ∧ k_ ≠ gb119 ∧ k_ ≠ gb120)) (by (with_reducible repeat (first | apply Kd.V_alloc | apply Kd.V_drewN | apply Kd.V_drew)); exact HO_5.out) hg hat)
                                          have n1_ := Aside0.mk (blk_grown (g := gb101) (o := .cells #[.slice A0_0 l0_0.length c0_0, .int .i64 a0_1, .slice A0_2 l0_2.length c0_2] 25 (0, 0)) (K_ BK101) hg (Kd.R_ne HO123.out BK101.out (by decide)))
                                          have n2_ := Aside0.mk (blk_grown (g := gb102) (o := .cells #[.int .i64 a1_0, .int .i64 a1_1, .int .i64 a1_2, .int .i64 a1_3] 58 (0, 0)) (K_ BK102) hg (Kd.R_ne HO123.out BK102.out (by decide)))
                                          have n3_ := Aside0.mk (blk_grown (g := gb111) (o := .cells #[.slice A0_0 l0_0.length c0_0, .int .i64 ji8, .slice A0_2 l0_2.length c0_2] 25 (0, 0)) (K_ BK111) hg (Kd.R_ne HO123.out BK111.out (by decide)))
                                          have n4_ := Aside0.mk (blk_grown (g := gb119) (o := .cells #[.slice A0_0 l0_0.length c0_0, .int .i64 a0_1, .slice A0_2 l0_2.length c0_2] 25 (0, 0)) (K_ BK119) hg (Kd.R_ne HO123.out BK119.out (by decide)))
                                          have n5_ := Aside0.mk (blk_grown (g := gb120) (o := .cells #[.slice A0_0 l0_0.length c0_0, .int .i64 a0_1, .slice A0_2 l0_2.length c0_2] 25 (0, 0)) (K_ BK120) hg (Kd.R_ne HO123.out BK120.out (by decide)))
                                          have n6_ := Aside0.mk (hb)
                                          have n7_ := Aside0.mk (ho)
                                          clear HO_5
                                          clear BK101
                                          clear BK102
                                          clear BK111
                                          clear BK119
                                          clear BK120
                                          clear HB
                                          clear HO123
                                          have HO_5 := n0_
                                          have BK101 := n1_
                                          have BK102 := n2_
                                          have BK111 := n3_
                                          have BK119 := n4_
                                          have BK120 := n5_
                                          have HB := n6_
                                          have HO130 := n7_
                                          clear n0_ n1_ n2_ n3_ n4_ n5_ n6_ n7_
                                          clear ho hb hg hat
                                          refine hK.out _ _ ⟨(blk_cell BK101.out 0).trans rfl, (blk_cell BK101.out 1).trans rfl, (blk_cell BK101.out 2).trans rfl⟩ (fun hHeld => ?_)
                                          clear hK K
                                          refine norm_ (a' := ?_) ?_ ?_
                                          rotate_left
                                          · show Act.put _ (some 84) _ = _
                                            simp only [Act.put, List.setIfInBounds_toArray, List.set_cons_zero, List.set_cons_succ, i64_w, i32_w]
                                            rfl
                                          refine one_ (i := 11) (N := some 90) #[true, true, true, true, true, true, true, true, true, true, true, true, false, false] rfl rfl (one_of HT_.out (by kernel_rfl)) (by decide) (fun K hK => ?_)
                                          refine Kd.R_append_rows_step k61 (w0 := w) w.heap.size (by rfl) (.tmp 84) (.tmp 89) 23 61 (.agg #[(.int .i64 0), (.int .i64 0), (.int .i64 0), (.int .i64 0)]) 32 rfl Tryd.underlying23 info61 rfl (by decide) (by omega) v129 y128 y131 _ _ _ (fun _ => True) (fun _ => False) rfl rfl ?aO ?aR (fun _ _ h => h) (fun _ h => h.elim) ?aF ?aB ?aS ?aL ?_
                                          (case aR => exact C_ HR134)
                                          (case aB => exact (B_))
                                          (case aF => exact (fun _ _ => trivial))
                                          (case aO => exact (R_ HO130))
                                          (case aS => exact (below_size (B_)))
                                          (case aL => have := LMc49.out; omega)
                                          intro v136 w89 ho hb hg hat
                                          rw [← Ny135.out] at ho
                                          have n0_ := Aside0.mk (Kd.V_afterv (ok := (fun k_ => k_ ≠ gb101 ∧ k_ ≠ gb102 ∧ k_ ≠ gb111 ∧ k_ ≠ gb119 ∧ k_ ≠ gb120)) (by (with_reducible repeat (first | apply Kd.V_alloc | apply Kd.V_drewN | apply Kd.V_drew)); exact HO_5.out) hg hat)
                                          have n1_ := Aside0.mk (blk_grown (g := gb101) (o := .cells #[.slice A0_0 l0_0.length c0_0, .int .i64 a0_1, .slice A0_2 l0_2.length c0_2] 25 (0, 0)) (K_ BK101) hg (Kd.R_ne HO130.out BK101.out (by decide)))
                                          have n2_ := Aside0.mk (blk_grown (g := gb102) (o := .cells #[.int .i64 a1_0, .int .i64 a1_1, .int .i64 a1_2, .int .i64 a1_3] 58 (0, 0)) (K_ BK102) hg (Kd.R_ne HO130.out BK102.out (by decide)))
                                          have n3_ := Aside0.mk (blk_grown (g := gb111) (o := .cells #[.slice A0_0 l0_0.length c0_0, .int .i64 ji8, .slice A0_2 l0_2.length c0_2] 25 (0, 0)) (K_ BK111) hg (Kd.R_ne HO130.out BK111.out (by decide)))
                                          have n4_ := Aside0.mk (blk_grown (g := gb119) (o := .cells #[.slice A0_0 l0_0.length c0_0, .int .i64 a0_1, .slice A0_2 l0_2.length c0_2] 25 (0, 0)) (K_ BK119) hg (Kd.R_ne HO130.out BK119.out (by decide)))
                                          have n5_ := Aside0.mk (blk_grown (g := gb120) (o := .cells #[.slice A0_0 l0_0.length c0_0, .int .i64 a0_1, .slice A0_2 l0_2.length c0_2] 25 (0, 0)) (K_ BK120) hg (Kd.R_ne HO130.out BK120.out (by decide)))
                                          have n6_ := Aside0.mk (hb)
                                          have n7_ := Aside0.mk (ho)
                                          clear HO_5
                                          clear BK101
                                          clear BK102
                                          clear BK111
                                          clear BK119
                                          clear BK120
                                          clear HB
                                          clear HO130
                                          have HO_5 := n0_
                                          have BK101 := n1_
                                          have BK102 := n2_
                                          have BK111 := n3_
                                          have BK119 := n4_
                                          have BK120 := n5_
                                          have HB := n6_
                                          have HO137 := n7_
                                          clear n0_ n1_ n2_ n3_ n4_ n5_ n6_ n7_
                                          clear ho hb hg hat
                                          obtain ⟨Ao90, co90, eo90⟩ := Kd.R_slice HO137.out
                                          (first | subst eo90 | (injection eo90 with f1_ f2_ f3_; have f4_ := f1_.symm; have f5_ := f3_.symm; clear f1_ f2_ f3_; subst f4_; subst f5_))
                                          refine hK.out _ _ ⟨(blk_cell BK101.out 0).trans rfl, (blk_cell BK101.out 1).trans rfl, (blk_cell BK101.out 2).trans rfl⟩ (fun hHeld => ?_)
                                          clear hK K
                                          refine norm_ (a' := ?_) ?_ ?_
                                          rotate_left
                                          · show Act.put _ (some 90) _ = _
                                            simp only [Act.put, List.setIfInBounds_toArray, List.set_cons_zero, List.set_cons_succ, i64_w, i32_w]
                                            rfl
                                          refine pure_ (i := 12) (N := some 91) (v := ?_) (a' := ?_) #[true, true, true, true, true, true, true, true, true, true, true, true, true, false] rfl rfl (any_of HT_.out (by kernel_rfl)) (fun _ _ _ h => h) (Or.inl ⟨by rfl, ?_⟩) ?_ ?_
                                          rotate_left
                                          · intro w'
                                            go_simp
                                            with_reducible rfl
                                          rotate_left
                                          · simp only [Act.put, List.setIfInBounds_toArray, List.set_cons_zero, List.set_cons_succ, i64_w, i32_w]
                                            rfl
                                          refine one_ (i := 13) (N := none) #[true, true, true, true, true, true, true, true, true, true, true, true, true, true] rfl rfl (one_of HT_.out (by kernel_rfl)) (by decide) (fun K hK => ?_)
                                          have hs91 : w89.cell? ⟨gb119, 2, none⟩ = some (.slice A0_2 l0_2.length c0_2) := (blk_cell BK119.out 2).trans rfl
                                          have hfs91 := blk_frozen BK119.out 2
                                          have hns91_0 := NB101_119.out
                                          have hns91_1 := NB102_119.out
                                          have hns91_2 := NB111_119.out
                                          have hns91_4 := NB120_119.out
                                          have hms91_0 := NB119_101.out
                                          have hms91_1 := NB119_102.out
                                          have hms91_2 := NB119_111.out
                                          have hms91_4 := NB119_120.out
                                          refine skip_ (w1 := ?_) (by rfl) rfl ?_ ?_
                                          rotate_left
                                          · go_simp
                                            rfl
                                          refine hK.out _ _ ⟨((cell_far (p := ⟨gb119, _, none⟩) NB101_119.out _).trans (hHeld.1)), ((cell_far (p := ⟨gb119, _, none⟩) NB101_119.out _).trans (hHeld.2.1)), ((cell_far (p := ⟨gb119, _, none⟩) NB101_119.out _).trans (hHeld.2.2))⟩ (fun hHeld => ?_)
                                          clear hK K
                                          refine done_ (done_of HT_.out (by kernel_rfl)) ?_
                                          try go_wp2_with (first | ((with_reducible refine gate_dst (N := 92) rfl ?_); refine Kd.R_lit k61 _ 61 ?hg (N := 92) ?hd (xs := ([] : List (S61))) (inner := []) (ok := fun _ => True) (okp := fun _ => True) ?hr ?hp (fun _ hk => hk) trivial (Below.refl _ _) (Nat.le_refl _) (by simp) ?_; (case hd => rfl); (case hg => rfl); (case hr => first | (go_simp; done) | (go_simp; rfl)); (case hp => exact (Reps.none _ _)); intro v139 w92 ho93 hb hg_ hnew_; clear hg_ hnew_; (first | rw [← Ny138.out] at ho93 | (simp only [Int.reduceToNat] at ho93; rw [← Ny138.out] at ho93)); have n0_ := Aside0.mk (Kd.V_elder' (by (with_reducible repeat (first | apply Kd.V_alloc | apply Kd.V_drewN | apply Kd.V_drew)); exact (Kd.V_mono (e := 3) (base := w.heap.size) (Kd.V_far (p := ⟨gb119, 2, none⟩) (Kd.V_mono HO_5.out (fun k_ hk => (⟨hk, hk.1.2.2.2.1⟩ : _ ∧ k_ ≠ gb119))) (fun _ hk => hk.2) (.slice Ao90 y135.length co90)) (fun _ h_ => h_.1))) (Kd.R_base ho93) hb); have n1_ := Aside0.mk (Kd.R_elder' (by (with_reducible repeat (first | apply Kd.R_alloc | apply Kd.R_drewN | apply Kd.R_drew)); exact (Kd.R_mono (Kd.R_far (p := ⟨gb119, 2, none⟩) (Kd.R_types HO137.out BK119.out (by decide)) (fun _ hk => hk.2) (.slice Ao90 y135.length co90)) (fun _ h_ => h_.1))) (Kd.R_base ho93) hb); have n2_ := Aside0.mk (Kd.R_lower (Kd.R_new' ho93 (Kd.R_lt (by (with_reducible repeat (first | apply Kd.R_alloc | apply Kd.R_drewN | apply Kd.R_drew)); exact (Kd.R_mono (Kd.R_far (p := ⟨gb119, 2, none⟩) (Kd.R_types HO137.out BK119.out (by decide)) (fun _ hk => hk.2) (.slice Ao90 y135.length co90)) (fun _ h_ => h_.1))))) (below_size (B_))); have n3_ := Aside0.mk (blk_below (g := gb101) (o := .cells #[.slice A0_0 l0_0.length c0_0, .int .i64 a0_1, .slice A0_2 l0_2.length c0_2] 25 (0, 0)) (by (with_reducible repeat (first | refine blk_drewN ?_ _ | refine blk_drew ?_ | refine blk_alloc ?_ _)); refine blk_far ?_ NB101_119.out _; (with_reducible repeat (first | refine blk_drewN ?_ _ | refine blk_drew ?_ | refine blk_alloc ?_ _)); exact BK101.out) hb); have n4_ := Aside0.mk (blk_below (g := gb102) (o := .cells #[.int .i64 a1_0, .int .i64 a1_1, .int .i64 a1_2, .int .i64 a1_3] 58 (0, 0)) (by (with_reducible repeat (first | refine blk_drewN ?_ _ | refine blk_drew ?_ | refine blk_alloc ?_ _)); refine blk_far ?_ NB102_119.out _; (with_reducible repeat (first | refine blk_drewN ?_ _ | refine blk_drew ?_ | refine blk_alloc ?_ _)); exact BK102.out) hb); have n5_ := Aside0.mk (blk_below (g := gb111) (o := .cells #[.slice A0_0 l0_0.length c0_0, .int .i64 ji8, .slice A0_2 l0_2.length c0_2] 25 (0, 0)) (by (with_reducible repeat (first | refine blk_drewN ?_ _ | refine blk_drew ?_ | refine blk_alloc ?_ _)); refine blk_far ?_ NB111_119.out _; (with_reducible repeat (first | refine blk_drewN ?_ _ | refine blk_drew ?_ | refine blk_alloc ?_ _)); exact BK111.out) hb); have n6_ := Aside0.mk (blk_below (g := gb119) (o := .cells #[.slice A0_0 l0_0.length c0_0, .int .i64 a0_1, .slice Ao90 y135.length co90] 25 (0, 0)) (by (with_reducible repeat (first | refine blk_drewN ?_ _ | refine blk_drew ?_ | refine blk_alloc ?_ _)); refine blk_put (cs := #[.slice A0_0 l0_0.length c0_0, .int .i64 a0_1, .slice A0_2 l0_2.length c0_2]) ?_ 2 _ rfl; (with_reducible repeat (first | refine blk_drewN ?_ _ | refine blk_drew ?_ | refine blk_alloc ?_ _)); exact BK119.out) hb); have n7_ := Aside0.mk (blk_below (g := gb120) (o := .cells #[.slice A0_0 l0_0.length c0_0, .int .i64 a0_1, .slice A0_2 l0_2.length c0_2] 25 (0, 0)) (by (with_reducible repeat (first | refine blk_drewN ?_ _ | refine blk_drew ?_ | refine blk_alloc ?_ _)); refine blk_far ?_ NB120_119.out _; (with_reducible repeat (first | refine blk_drewN ?_ _ | refine blk_drew ?_ | refine blk_alloc ?_ _)); exact BK120.out) hb); have n8_ := Aside0.mk (below_step (B_) hb); clear HO_5; clear HO137; clear BK101; clear BK102; clear BK111; clear BK119; clear BK120; clear HB; have HO_5 := n0_; have HO137 := n1_; have HO140 := n2_; have BK101 := n3_; have BK102 := n4_; have BK111 := n5_; have BK119 := n6_; have BK120 := n7_; have HB := n8_; clear n0_ n1_ n2_ n3_ n4_ n5_ n6_ n7_ n8_; clear hb ho93; have hnb94 := NB101_119.out; have hnc94 := NB119_101.out; have hnb95 := NB101_120.out; have hnc95 := NB120_101.out; obtain ⟨hcz96_0, hcz96_1, hcz96_2, hfz96_0, hfz96_1, hfz96_2⟩ := cz3 BK101) | ((with_reducible refine gate_builtin (b := .append) (xs := #[.tmp 92, .tmp 94]) rfl ?_); at_builtin; refine Kd.R_append_rows k61 (w0 := w) w.heap.size rfl (.tmp 92) (.tmp 94) 23 61 (.agg #[(.int .i64 0), (.int .i64 0), (.int .i64 0), (.int .i64 0)]) 32 rfl Tryd.underlying23 info61 rfl (by decide) (by omega) v139 y138 l0_2 _ _ _ (fun k_ => some k_ ≠ (.slice Ao90 y135.length co90 : Value).ownBlock) (fun _ => False) rfl rfl ?aO ?aR (fun _ _ h => h) (fun _ h => h.elim) ?aF ?aB ?aS ?aL ?_; (case aR => exact C_ HR0_2); (case aB => exact (B_)); (case aF => exact (fun k_ hk => Kd.fresh' (Kd.R_lt (R_ HO137)) k_ hk)); (case aO => exact (by (with_reducible repeat (first | apply Kd.R_alloc | apply Kd.R_drewN | apply Kd.R_drew)); exact Kd.R_mono HO140.out (fun _ hk => hk.2))); (case aS => exact (below_size (B_))); (case aL => have := LMc50.out; omega); intro v142 w97 ho hb hg hat; rw [← Ny141.out] at ho; have n0_ := Aside0.mk (Kd.V_afterv (ok := (fun k_ => some k_ ≠ (.slice Ao90 y135.length co90 : Value).ownBlock ∧ k_ ≠ gb101 ∧ k_ ≠ gb102 ∧ k_ ≠ gb111 ∧ k_ ≠ gb119 ∧ k_ ≠ gb120)) (by (with_reducible repeat (first | apply Kd.V_alloc | apply Kd.V_drewN | apply Kd.V_drew)); exact Kd.V_mono HO_5.out (fun _ hk => ⟨⟨hk.1.2, ⟨hk.1.1.1, ⟨hk.1.1.2.1, ⟨hk.1.1.2.2.1, ⟨hk.1.1.2.2.2.1, hk.1.1.2.2.2.2⟩⟩⟩⟩⟩, hk.2⟩)) hg hat); have n1_ := Aside0.mk (blk_grown (g := gb101) (o := .cells #[.slice A0_0 l0_0.length c0_0, .int .i64 a0_1, .slice A0_2 l0_2.length c0_2] 25 (0, 0)) (K_ BK101) hg (Kd.R_ne HO140.out BK101.out (by decide))); have n2_ := Aside0.mk (blk_grown (g := gb102) (o := .cells #[.int .i64 a1_0, .int .i64 a1_1, .int .i64 a1_2, .int .i64 a1_3] 58 (0, 0)) (K_ BK102) hg (Kd.R_ne HO140.out BK102.out (by decide))); have n3_ := Aside0.mk (blk_grown (g := gb111) (o := .cells #[.slice A0_0 l0_0.length c0_0, .int .i64 ji8, .slice A0_2 l0_2.length c0_2] 25 (0, 0)) (K_ BK111) hg (Kd.R_ne HO140.out BK111.out (by decide))); have n4_ := Aside0.mk (blk_grown (g := gb119) (o := .cells #[.slice A0_0 l0_0.length c0_0, .int .i64 a0_1, .slice Ao90 y135.length co90] 25 (0, 0)) (K_ BK119) hg (Kd.R_ne HO140.out BK119.out (by decide))); have n5_ := Aside0.mk (blk_grown (g := gb120) (o := .cells #[.slice A0_0 l0_0.length c0_0, .int .i64 a0_1, .slice A0_2 l0_2.length c0_2] 25 (0, 0)) (K_ BK120) hg (Kd.R_ne HO140.out BK120.out (by decide))); have n6_ := Aside0.mk (Kd.R_after (ok := (fun _ => True)) (R_ HO137) hg hat); have n7_ := Aside0.mk (hb); have n8_ := Aside0.mk (ho); clear HO_5; clear BK101; clear BK102; clear BK111; clear BK119; clear BK120; clear HO137; clear HB; clear HO140; have HO_5 := n0_; have BK101 := n1_; have BK102 := n2_; have BK111 := n3_; have BK119 := n4_; have BK120 := n5_; have HO137 := n6_; have HB := n7_; have HO143 := n8_; clear n0_ n1_ n2_ n3_ n4_ n5_ n6_ n7_ n8_; clear ho hb hg hat; obtain ⟨Ao98, co98, eo98⟩ := Kd.R_slice HO143.out; subst eo98; have hnb99 := NB120_102.out; have hnc99 := NB102_120.out; have hnb100 := NB120_111.out; have hnc100 := NB111_120.out; have hnb101 := NB120_119.out; have hnc101 := NB119_120.out; obtain ⟨hcz102_0, hcz102_1, hcz102_2, hfz102_0, hfz102_1, hfz102_2⟩ := cz3 BK120))
                                          have n0_ : Aside0 (Kd.V (Kd.int .i64) 3 (w97.setCell ⟨gb120, 2, none⟩ (.slice Ao98 y141.length co98)) w.heap.size (fun k_ => some k_ ≠ (.slice Ao90 y135.length co90 : Value).ownBlock ∧ some k_ ≠ (.slice Ao98 y141.length co98 : Value).ownBlock ∧ k_ ≠ gb101 ∧ k_ ≠ gb102 ∧ k_ ≠ gb111 ∧ k_ ≠ gb119 ∧ k_ ≠ gb120) v106 t105) := ⟨by (with_reducible repeat (first | apply Kd.V_alloc | apply Kd.V_drewN | apply Kd.V_drew)); exact Kd.V_mono (Kd.V_far (p := ⟨gb120, 2, none⟩) (Kd.V_mono HO_5.out (fun k_ hk => (⟨hk, hk.1.2.2.2.2.2⟩ : _ ∧ k_ ≠ gb120))) (fun _ hk => hk.2) (.slice Ao98 y141.length co98)) (fun _ hk => ⟨hk.1.1.1, ⟨hk.1.2, ⟨hk.1.1.2.1, ⟨hk.1.1.2.2.1, ⟨hk.1.1.2.2.2.1, ⟨hk.1.1.2.2.2.2.1, hk.1.1.2.2.2.2.2⟩⟩⟩⟩⟩⟩)⟩
                                          have n1_ : Aside0 (Kd.R k61 61 (w97.setCell ⟨gb120, 2, none⟩ (.slice Ao98 y141.length co98)) w.heap.size (fun k_ => some k_ ≠ (.slice Ao98 y141.length co98 : Value).ownBlock) (.slice Ao90 y135.length co90) y135) := ⟨by (with_reducible repeat (first | apply Kd.R_alloc | apply Kd.R_drewN | apply Kd.R_drew)); exact Kd.R_mono (Kd.R_far (p := ⟨gb120, 2, none⟩) (Kd.R_types HO137.out BK120.out (by decide)) (fun _ hk => hk.2) (.slice Ao98 y141.length co98)) (fun _ hk => hk.1.2)⟩
                                          have n2_ : Aside0 (Kd.R k61 61 (w97.setCell ⟨gb120, 2, none⟩ (.slice Ao98 y141.length co98)) w.heap.size (fun k_ => some k_ ≠ (.slice Ao90 y135.length co90 : Value).ownBlock) (.slice Ao98 y141.length co98) y141) := ⟨by (with_reducible repeat (first | apply Kd.R_alloc | apply Kd.R_drewN | apply Kd.R_drew)); exact Kd.R_mono (Kd.R_far (p := ⟨gb120, 2, none⟩) (Kd.R_types HO143.out BK120.out (by decide)) (fun _ hk => hk.2) (.slice Ao98 y141.length co98)) (fun _ hk => hk.1)⟩
                                          have n3_ : Aside0 ((w97.setCell ⟨gb120, 2, none⟩ (.slice Ao98 y141.length co98)).heap[gb101]? = some (.cells #[.slice A0_0 l0_0.length c0_0, .int .i64 a0_1, .slice A0_2 l0_2.length c0_2] 25 (0, 0))) := ⟨by (with_reducible repeat (first | refine blk_drewN ?_ _ | refine blk_drew ?_ | refine blk_alloc ?_ _)); refine blk_far ?_ NB101_120.out _; (with_reducible repeat (first | refine blk_drewN ?_ _ | refine blk_drew ?_ | refine blk_alloc ?_ _)); exact BK101.out⟩
                                          have n4_ : Aside0 ((w97.setCell ⟨gb120, 2, none⟩ (.slice Ao98 y141.length co98)).heap[gb102]? = some (.cells #[.int .i64 a1_0, .int .i64 a1_1, .int .i64 a1_2, .int .i64 a1_3] 58 (0, 0))) := ⟨by (with_reducible repeat (first | refine blk_drewN ?_ _ | refine blk_drew ?_ | refine blk_alloc ?_ _)); refine blk_far ?_ NB102_120.out _; (with_reducible repeat (first | refine blk_drewN ?_ _ | refine blk_drew ?_ | refine blk_alloc ?_ _)); exact BK102.out⟩
                                          have n5_ : Aside0 ((w97.setCell ⟨gb120, 2, none⟩ (.slice Ao98 y141.length co98)).heap[gb111]? = some (.cells #[.slice A0_0 l0_0.length c0_0, .int .i64 ji8, .slice A0_2 l0_2.length c0_2] 25 (0, 0))) := ⟨by (with_reducible repeat (first | refine blk_drewN ?_ _ | refine blk_drew ?_ | refine blk_alloc ?_ _)); refine blk_far ?_ NB111_120.out _; (with_reducible repeat (first | refine blk_drewN ?_ _ | refine blk_drew ?_ | refine blk_alloc ?_ _)); exact BK111.out⟩
                                          have n6_ : Aside0 ((w97.setCell ⟨gb120, 2, none⟩ (.slice Ao98 y141.length co98)).heap[gb119]? = some (.cells #[.slice A0_0 l0_0.length c0_0, .int .i64 a0_1, .slice Ao90 y135.length co90] 25 (0, 0))) := ⟨by (with_reducible repeat (first | refine blk_drewN ?_ _ | refine blk_drew ?_ | refine blk_alloc ?_ _)); refine blk_far ?_ NB119_120.out _; (with_reducible repeat (first | refine blk_drewN ?_ _ | refine blk_drew ?_ | refine blk_alloc ?_ _)); exact BK119.out⟩
                                          have n7_ : Aside0 ((w97.setCell ⟨gb120, 2, none⟩ (.slice Ao98 y141.length co98)).heap[gb120]? = some (.cells #[.slice A0_0 l0_0.length c0_0, .int .i64 a0_1, .slice Ao98 y141.length co98] 25 (0, 0))) := ⟨by (with_reducible repeat (first | refine blk_drewN ?_ _ | refine blk_drew ?_ | refine blk_alloc ?_ _)); refine blk_put (cs := #[.slice A0_0 l0_0.length c0_0, .int .i64 a0_1, .slice A0_2 l0_2.length c0_2]) ?_ 2 _ rfl; (with_reducible repeat (first | refine blk_drewN ?_ _ | refine blk_drew ?_ | refine blk_alloc ?_ _)); exact BK120.out⟩
                                          have n8_ : Aside0 (Below w.heap.size w (w97.setCell ⟨gb120, 2, none⟩ (.slice Ao98 y141.length co98))) := ⟨B_⟩
                                          (try clear HO_5)
                                          (try clear HO137)
                                          (try clear HO143)
                                          (try clear BK101)
                                          (try clear BK102)
                                          (try clear BK111)
                                          (try clear BK119)
                                          (try clear BK120)
                                          (try clear HB)
                                          generalize (w97.setCell ⟨gb120, 2, none⟩ (.slice Ao98 y141.length co98)) = w103 at n0_ n1_ n2_ n3_ n4_ n5_ n6_ n7_ n8_ ⊢
                                          have HO_5 := n0_
                                          have HO137 := n1_
                                          have HO143 := n2_
                                          have BK101 := n3_
                                          have BK102 := n4_
                                          have BK111 := n5_
                                          have BK119 := n6_
                                          have BK120 := n7_
                                          have HB := n8_
                                          clear n0_ n1_ n2_ n3_ n4_ n5_ n6_ n7_ n8_
                                          have n0_ := Aside0.mk (Kd.V_drew HO_5.out)
                                          have n1_ := Aside0.mk (Kd.R_drew HO137.out)
                                          have n2_ := Aside0.mk (Kd.R_drew HO143.out)
                                          have n3_ := Aside0.mk (blk_drew BK101.out)
                                          have n4_ := Aside0.mk (blk_drew BK102.out)
                                          have n5_ := Aside0.mk (blk_drew BK111.out)
                                          have n6_ := Aside0.mk (blk_drew BK119.out)
                                          have n7_ := Aside0.mk (blk_drew BK120.out)
                                          have n8_ := Aside0.mk (below_drew1 HB.out)
                                          clear HO_5
                                          clear HO137
                                          clear HO143
                                          clear BK101
                                          clear BK102
                                          clear BK111
                                          clear BK119
                                          clear BK120
                                          clear HB
                                          have HO_5 := n0_
                                          have HO137 := n1_
                                          have HO143 := n2_
                                          have BK101 := n3_
                                          have BK102 := n4_
                                          have BK111 := n5_
                                          have BK119 := n6_
                                          have BK120 := n7_
                                          have HB := n8_
                                          clear n0_ n1_ n2_ n3_ n4_ n5_ n6_ n7_ n8_
                                          have p144 : 0 ≤ (t118 : Int) := of_decide_eq_true D_
                                          have q144 : t118 < (l0_2.length : Int) := of_decide_eq_true D_
                                          obtain ⟨ad144, e144, hx144_0, hx144_1, hx144_2, hx144_3⟩ := at_T61 HR0_2.out t118 p144 q144
                                          have hw144_3 := hx144_3
                                          have hw144_2 := hx144_2
                                          have hw144_1 := hx144_1
                                          have hw144_0 := hx144_0
                                          cases e144
                                          replace hx144_0 := (HB.out.cell (World.block_lt_of_cell? w _ hx144_0)).trans hx144_0
                                          replace hx144_1 := (HB.out.cell (World.block_lt_of_cell? w _ hx144_1)).trans hx144_1
                                          replace hx144_2 := (HB.out.cell (World.block_lt_of_cell? w _ hx144_2)).trans hx144_2
                                          replace hx144_3 := (HB.out.cell (World.block_lt_of_cell? w _ hx144_3)).trans hx144_3
                                          replace p144 := eq_true p144
                                          replace q144 := eq_true q144
                                          refine start_ (n := 16) (S := fun w' => w'.cell? ⟨gb120, 0, none⟩ = some (.slice A0_0 l0_0.length c0_0) ∧ w'.cell? ⟨gb120, 1, none⟩ = some (.int .i64 a0_1) ∧ w'.cell? ⟨gb120, 2, none⟩ = some (.slice Ao98 y141.length co98) ∧ w'.cell? ⟨gb101, 0, none⟩ = some (.slice A0_0 l0_0.length c0_0) ∧ w'.cell? ⟨gb101, 1, none⟩ = some (.int .i64 a0_1) ∧ w'.cell? ⟨gb101, 2, none⟩ = some (.slice (some ad144) l0_2.length c0_2) ∧ w'.cell? ⟨gb102, 0, none⟩ = some (.int .i64 a1_0) ∧ w'.cell? ⟨gb102, 1, none⟩ = some (.int .i64 a1_1) ∧ w'.cell? ⟨gb102, 2, none⟩ = some (.int .i64 a1_2) ∧ w'.cell? ⟨gb102, 3, none⟩ = some (.int .i64 a1_3) ∧ w'.cell? (ad144.add ((t118).toNat * 4)) = some (.int .i64 ((rd_T61 l0_2 t118).f0.f0)) ∧ w'.cell? ⟨(ad144.add ((t118).toNat * 4)).block, (ad144.add ((t118).toNat * 4)).off + 1, none⟩ = some (.int .i64 ((rd_T61 l0_2 t118).f0.f1)) ∧ w'.cell? ⟨(ad144.add ((t118).toNat * 4)).block, (ad144.add ((t118).toNat * 4)).off + 2, none⟩ = some (.int .i64 ((rd_T61 l0_2 t118).f1.f0)) ∧ w'.cell? ⟨(ad144.add ((t118).toNat * 4)).block, (ad144.add ((t118).toNat * 4)).off + 3, none⟩ = some (.int .i64 ((rd_T61 l0_2 t118).f1.f1))) (ds := [15]) #[false, false, false, false, false, false, false, false, false, false, false, false, false, false, false, false] (by kernel_rfl) rfl rfl ⟨(blk_cell BK120.out 0).trans rfl, (blk_cell BK120.out 1).trans rfl, (blk_cell BK120.out 2).trans rfl, (blk_cell BK101.out 0).trans rfl, (blk_cell BK101.out 1).trans rfl, (blk_cell BK101.out 2).trans rfl, (blk_cell BK102.out 0).trans rfl, (blk_cell BK102.out 1).trans rfl, (blk_cell BK102.out 2).trans rfl, (blk_cell BK102.out 3).trans rfl, ((HB.out.cell (World.block_lt_of_cell? w _ hw144_0)).trans hw144_0), ((HB.out.cell (World.block_lt_of_cell? w _ hw144_1)).trans hw144_1), ((HB.out.cell (World.block_lt_of_cell? w _ hw144_2)).trans hw144_2), ((HB.out.cell (World.block_lt_of_cell? w _ hw144_3)).trans hw144_3)⟩ (fun hHeld => ?_); refine with_tabW luciferlaw01_PeelLess.tab16 luciferlaw01_PeelLess.bits16 (fun HT_ HW_ => ?_)
                                          generalize w103.drew = w104 at HO_5 HO137 HO143 BK101 BK102 BK111 BK119 BK120 HB hx144_0 hx144_1 hx144_2 hx144_3 hHeld ⊢
                                          refine pure_ (i := 0) (N := some 97) (v := ?_) (a' := ?_) #[true, false, false, false, false, false, false, false, false, false, false, false, false, false, false, false] rfl rfl (any_of HT_.out (by kernel_rfl)) (fun _ _ _ h => h) (Or.inl ⟨by rfl, ?_⟩) ?_ ?_
                                          rotate_left
                                          · intro w'
                                            go_simp
                                            with_reducible rfl
                                          rotate_left
                                          · simp only [Act.put, List.setIfInBounds_toArray, List.set_cons_zero, List.set_cons_succ, i64_w, i32_w]
                                            rfl
                                          refine pure_ (i := 2) (N := some 99) (v := ?_) (a' := ?_) #[true, false, true, false, false, false, false, false, false, false, false, false, false, false, false, false] rfl rfl (any_of HT_.out (by kernel_rfl)) (fun _ _ _ h => h) (Or.inl ⟨by rfl, ?_⟩) ?_ ?_
                                          rotate_left
                                          · intro w'
                                            go_simp
                                            with_reducible rfl
                                          rotate_left
                                          · simp only [Act.put, List.setIfInBounds_toArray, List.set_cons_zero, List.set_cons_succ, i64_w, i32_w]
                                            rfl
                                          refine pure_ (i := 3) (N := some 100) (v := ?_) (a' := ?_) #[true, false, true, true, false, false, false, false, false, false, false, false, false, false, false, false] rfl rfl (any_of HT_.out (by kernel_rfl)) (fun _ _ _ h => h) (Or.inl ⟨by rfl, ?_⟩) ?_ ?_
                                          rotate_left
                                          · intro w'
                                            go_simp
                                            with_reducible rfl
                                          rotate_left
                                          · simp only [Act.put, List.setIfInBounds_toArray, List.set_cons_zero, List.set_cons_succ, i64_w, i32_w]
                                            rfl
                                          refine pure_ (i := 5) (N := some 102) (v := ?_) (a' := ?_) #[true, false, true, true, false, true, false, false, false, false, false, false, false, false, false, false] rfl rfl (any_of HT_.out (by kernel_rfl)) (fun _ _ _ h => h) (Or.inl ⟨by rfl, ?_⟩) ?_ ?_
                                          rotate_left
                                          · intro w'
                                            go_simp
                                            with_reducible rfl
                                          rotate_left
                                          · simp only [Act.put, List.setIfInBounds_toArray, List.set_cons_zero, List.set_cons_succ, i64_w, i32_w]
                                            rfl
                                          refine pure_ (i := 9) (N := some 106) (v := ?_) (a' := ?_) #[true, false, true, true, false, true, false, false, false, true, false, false, false, false, false, false] rfl rfl (any_of HT_.out (by kernel_rfl)) (fun _ _ _ h => h) (Or.inl ⟨by rfl, ?_⟩) ?_ ?_
                                          rotate_left
                                          · intro w'
                                            go_simp
                                            with_reducible rfl
                                          rotate_left
                                          · simp only [Act.put, List.setIfInBounds_toArray, List.set_cons_zero, List.set_cons_succ, i64_w, i32_w]
                                            rfl
                                          refine take_ (i := 1) (N := some 98) (v := ?_) (a' := ?_) #[true, true, true, true, false, true, false, false, false, true, false, false, false, false, false, false] rfl rfl (take_ofW HT_.out HW_.out (by kernel_rfl)) (fun _ _ _ h => h) (Or.inl ⟨by rfl, ?_⟩) hHeld ?_ ?_
                                          rotate_left
                                          · rintro w' ⟨s0, s1, s2, s3, s4, s5, s6, s7, s8, s9, s10, s11, s12, s13⟩
                                            go_simp
                                            with_reducible rfl
                                          rotate_left
                                          · simp only [Act.put, List.setIfInBounds_toArray, List.set_cons_zero, List.set_cons_succ, i64_w, i32_w]
                                            rfl
                                          refine take_ (i := 4) (N := some 101) (v := ?_) (a' := ?_) #[true, true, true, true, true, true, false, false, false, true, false, false, false, false, false, false] rfl rfl (take_ofW HT_.out HW_.out (by kernel_rfl)) (fun _ _ _ h => h) (Or.inl ⟨by rfl, ?_⟩) hHeld ?_ ?_
                                          rotate_left
                                          · rintro w' ⟨s0, s1, s2, s3, s4, s5, s6, s7, s8, s9, s10, s11, s12, s13⟩
                                            go_simp
                                            with_reducible rfl
                                          rotate_left
                                          · simp only [Act.put, List.setIfInBounds_toArray, List.set_cons_zero, List.set_cons_succ, i64_w, i32_w]
                                            rfl
                                          refine pure_ (i := 6) (N := some 103) (v := ?_) (a' := ?_) #[true, true, true, true, true, true, true, false, false, true, false, false, false, false, false, false] rfl rfl (any_of HT_.out (by kernel_rfl)) (fun _ _ _ h => h) (Or.inl ⟨by rfl, ?_⟩) ?_ ?_
                                          rotate_left
                                          · intro w'
                                            go_simp
                                            with_reducible rfl
                                          rotate_left
                                          · simp only [Act.put, List.setIfInBounds_toArray, List.set_cons_zero, List.set_cons_succ, i64_w, i32_w]
                                            rfl
                                          refine pure_ (i := 7) (N := some 104) (v := ?_) (a' := ?_) #[true, true, true, true, true, true, true, true, false, true, false, false, false, false, false, false] rfl rfl (any_of HT_.out (by kernel_rfl)) (fun _ _ _ h => h) (Or.inl ⟨by rfl, ?_⟩) ?_ ?_
                                          rotate_left
                                          · intro w'
                                            go_simp
                                            with_reducible rfl
                                          rotate_left
                                          · simp only [Act.put, List.setIfInBounds_toArray, List.set_cons_zero, List.set_cons_succ, i64_w, i32_w]
                                            rfl
                                          refine take_ (i := 8) (N := some 105) (v := ?_) (a' := ?_) #[true, true, true, true, true, true, true, true, true, true, false, false, false, false, false, false] rfl rfl (take_ofW HT_.out HW_.out (by kernel_rfl)) (fun _ _ _ h => h) (Or.inl ⟨by rfl, ?_⟩) hHeld ?_ ?_
                                          rotate_left
                                          · rintro w' ⟨s0, s1, s2, s3, s4, s5, s6, s7, s8, s9, s10, s11, s12, s13⟩
                                            go_simp
                                            with_reducible rfl
                                          rotate_left
                                          · simp only [Act.put, List.setIfInBounds_toArray, List.set_cons_zero, List.set_cons_succ, i64_w, i32_w]
                                            rfl
                                          refine take_ (i := 10) (N := some 107) (v := ?_) (a' := ?_) #[true, true, true, true, true, true, true, true, true, true, true, false, false, false, false, false] rfl rfl (take_ofW HT_.out HW_.out (by kernel_rfl)) (fun _ _ _ h => h) (Or.inl ⟨by rfl, ?_⟩) hHeld ?_ ?_
                                          rotate_left
                                          · rintro w' ⟨s0, s1, s2, s3, s4, s5, s6, s7, s8, s9, s10, s11, s12, s13⟩
                                            go_simp
                                            with_reducible rfl
                                          rotate_left
                                          · simp only [Act.put, List.setIfInBounds_toArray, List.set_cons_zero, List.set_cons_succ, i64_w, i32_w]
                                            rfl
                                          refine one_ (i := 11) (N := some 108) #[true, true, true, true, true, true, true, true, true, true, true, true, false, false, false, false] rfl rfl (one_of HT_.out (by kernel_rfl)) (by decide) (fun K hK => ?_)
                                          refine goes_ Tryd.func50 (by kernel_rfl) rfl #[.agg #[.int .i64 ((rd_T61 l0_2 t118).f0.f0), .int .i64 ((rd_T61 l0_2 t118).f0.f1)], .int .i64 a1_1] (by rfl) rfl rfl (by (try simp only [List.map_toArray, List.map_cons, List.map_nil]); first | done | rfl | (simp only [List.length_drop, List.length_take]; rfl)) ?_
                                          with_reducible refine (luciferref00_Drawn.calls ((rd_T61 l0_2 t118).f0.f0) ((rd_T61 l0_2 t118).f0.f1) a1_1 t145 _ A52.out).mono ?_
                                          rintro e w105 ⟨rfl, hb⟩
                                          refine ⟨_, rfl, ?_⟩
                                          have n0_ := Aside0.mk (Kd.V_below (by (with_reducible repeat (first | apply Kd.V_alloc | apply Kd.V_drewN | apply Kd.V_drew)); exact HO_5.out) hb)
                                          have n1_ := Aside0.mk (Kd.R_below (R_ HO137) hb)
                                          have n2_ := Aside0.mk (Kd.R_below (R_ HO143) hb)
                                          have n3_ := Aside0.mk (blk_below (g := gb101) (o := .cells #[.slice A0_0 l0_0.length c0_0, .int .i64 a0_1, .slice (some ad144) l0_2.length c0_2] 25 (0, 0)) (K_ BK101) hb)
                                          have n4_ := Aside0.mk (blk_below (g := gb102) (o := .cells #[.int .i64 a1_0, .int .i64 a1_1, .int .i64 a1_2, .int .i64 a1_3] 58 (0, 0)) (K_ BK102) hb)
                                          have n5_ := Aside0.mk (blk_below (g := gb111) (o := .cells #[.slice A0_0 l0_0.length c0_0, .int .i64 ji8, .slice (some ad144) l0_2.length c0_2] 25 (0, 0)) (K_ BK111) hb)
                                          have n6_ := Aside0.mk (blk_below (g := gb119) (o := .cells #[.slice A0_0 l0_0.length c0_0, .int .i64 a0_1, .slice Ao90 y135.length co90] 25 (0, 0)) (K_ BK119) hb)
                                          have n7_ := Aside0.mk (blk_below (g := gb120) (o := .cells #[.slice A0_0 l0_0.length c0_0, .int .i64 a0_1, .slice Ao98 y141.length co98] 25 (0, 0)) (K_ BK120) hb)
                                          have n8_ := Aside0.mk (below_step (B_) hb)
                                          clear HO_5
                                          clear HO137
                                          clear HO143
                                          clear BK101
                                          clear BK102
                                          clear BK111
                                          clear BK119
                                          clear BK120
                                          clear HB
                                          have HO_5 := n0_
                                          have HO137 := n1_
                                          have HO143 := n2_
                                          have BK101 := n3_
                                          have BK102 := n4_
                                          have BK111 := n5_
                                          have BK119 := n6_
                                          have BK120 := n7_
                                          have HB := n8_
                                          clear n0_ n1_ n2_ n3_ n4_ n5_ n6_ n7_ n8_
                                          (try clear hb)
                                          (try clear hb2)
                                          (try clear hk)
                                          (try clear hi)
                                          have p54 : 0 ≤ (t118 : Int) := of_decide_eq_true D_
                                          have q54 : (t118 : Int) < ((y141.length : Int) : Int) := of_decide_eq_true D_
                                          obtain ⟨go54, co54, eo54, gb54, gl54, cl54, HG54⟩ := Kd.R_form HO143.out (by omega)
                                          (first | cases eo54 | (injection eo54 with ea_ en_ ec_; (first | subst ea_ | (injection ea_ with ea_; subst ea_)); subst ec_; clear en_))
                                          have GB54 := Aside0.mk gb54
                                          have GG54 := Aside0.mk HG54
                                          clear gb54 gl54 HG54
                                          obtain ⟨ce54, hcl54, hM54, hcc54, hfr54⟩ := Kd.R_elem HO143.out z61 (t118 : Int) p54 q54
                                          obtain rfl := k61_openM hM54
                                          have hx54_0 : World.cell? _ ⟨go54, (t118 : Int).toNat * 4, none⟩ = some (.int .i64 ((rd_T61 y141 t118).f0.f0)) := hcc54 0 _ rfl
                                          have hx54_1 : World.cell? _ ⟨go54, (t118 : Int).toNat * 4 + 1, none⟩ = some (.int .i64 ((rd_T61 y141 t118).f0.f1)) := hcc54 1 _ rfl
                                          have hx54_2 : World.cell? _ ⟨go54, (t118 : Int).toNat * 4 + 2, none⟩ = some (.int .i64 ((rd_T61 y141 t118).f1.f0)) := hcc54 2 _ rfl
                                          have hx54_3 : World.cell? _ ⟨go54, (t118 : Int).toNat * 4 + 3, none⟩ = some (.int .i64 ((rd_T61 y141 t118).f1.f1)) := hcc54 3 _ rfl
                                          have hf54_0 : World.frozen? _ ⟨go54, (t118 : Int).toNat * 4, none⟩ = false := hfr54 0
                                          have hf54_1 : World.frozen? _ ⟨go54, (t118 : Int).toNat * 4 + 1, none⟩ = false := hfr54 1
                                          have hf54_2 : World.frozen? _ ⟨go54, (t118 : Int).toNat * 4 + 2, none⟩ = false := hfr54 2
                                          have hf54_3 : World.frozen? _ ⟨go54, (t118 : Int).toNat * 4 + 3, none⟩ = false := hfr54 3
                                          clear hcl54 hcc54 hfr54 hM54
                                          replace p54 := eq_true p54
                                          replace q54 := eq_true q54
                                          obtain ⟨ce106, hcl106, hM106, hcc106, hfr106⟩ := Kd.R_elem HO143.out z61 (t118 : Int) (of_decide_eq_true D_) (by have h_ : (t118 : Int) < ((y141.length : Int) : Int) := of_decide_eq_true D_; first | exact h_ | (have e_ := (Kd.R_reads' HO143.out).1; omega) | simpa using h_)
                                          obtain rfl := k61_openM hM106
                                          have HP106 := (Kd.R_seg HO143.out (t118 : Int) (of_decide_eq_true D_) (by have h_ : (t118 : Int) < ((y141.length : Int) : Int) := of_decide_eq_true D_; first | exact h_ | (have e_ := (Kd.R_reads' HO143.out).1; omega) | simpa using h_) (seg := [.int .i64 t145]) (j := 0) hcl106 hcc106 (show 1 ≤ 4 from by decide) (x' := (⟨(⟨t145, (rd_T61 y141 t118).f0.f1⟩ : S39), (⟨(rd_T61 y141 t118).f1.f0, (rd_T61 y141 t118).f1.f1⟩ : S39)⟩ : S61)) (k61_mkM _ _ _ (⟨(⟨t145, (rd_T61 y141 t118).f0.f1⟩ : S39), (⟨(rd_T61 y141 t118).f1.f0, (rd_T61 y141 t118).f1.f1⟩ : S39)⟩ : S61) ) (fun _ hk => hk)).1
                                          rw [← Ny146.out] at HP106
                                          have HQ106 := Aside0.mk HP106
                                          clear hcl106 hcc106 hfr106 hM106 HP106
                                          refine hK.out _ _ ⟨(blk_cell BK120.out 0).trans rfl, (blk_cell BK120.out 1).trans rfl, (blk_cell BK120.out 2).trans rfl, (blk_cell BK101.out 0).trans rfl, (blk_cell BK101.out 1).trans rfl, (blk_cell BK101.out 2).trans rfl, (blk_cell BK102.out 0).trans rfl, (blk_cell BK102.out 1).trans rfl, (blk_cell BK102.out 2).trans rfl, (blk_cell BK102.out 3).trans rfl, ((HB.out.cell (World.block_lt_of_cell? w _ hw144_0)).trans hw144_0), ((HB.out.cell (World.block_lt_of_cell? w _ hw144_1)).trans hw144_1), ((HB.out.cell (World.block_lt_of_cell? w _ hw144_2)).trans hw144_2), ((HB.out.cell (World.block_lt_of_cell? w _ hw144_3)).trans hw144_3)⟩ (fun hHeld => ?_)
                                          clear hK K
                                          refine norm_ (a' := ?_) ?_ ?_
                                          rotate_left
                                          · show Act.put _ (some 108) _ = _
                                            simp only [Act.put, List.setIfInBounds_toArray, List.set_cons_zero, List.set_cons_succ, i64_w, i32_w]
                                            rfl
                                          refine pure_ (i := 12) (N := some 109) (v := ?_) (a' := ?_) #[true, true, true, true, true, true, true, true, true, true, true, true, true, false, false, false] rfl rfl (any_of HT_.out (by kernel_rfl)) (fun _ _ _ h => h) (Or.inl ⟨by rfl, ?_⟩) ?_ ?_
                                          rotate_left
                                          · intro w'
                                            go_simp
                                            with_reducible rfl
                                          rotate_left
                                          · simp only [Act.put, List.setIfInBounds_toArray, List.set_cons_zero, List.set_cons_succ, i64_w, i32_w]
                                            rfl
                                          refine pure_ (i := 13) (N := some 110) (v := ?_) (a' := ?_) #[true, true, true, true, true, true, true, true, true, true, true, true, true, true, false, false] rfl rfl (any_of HT_.out (by kernel_rfl)) (fun _ _ _ h => h) (Or.inl ⟨by rfl, ?_⟩) ?_ ?_
                                          rotate_left
                                          · intro w'
                                            go_simp
                                            with_reducible rfl
                                          rotate_left
                                          · simp only [Act.put, List.setIfInBounds_toArray, List.set_cons_zero, List.set_cons_succ, i64_w, i32_w]
                                            rfl
                                          refine pure_ (i := 14) (N := some 111) (v := ?_) (a' := ?_) #[true, true, true, true, true, true, true, true, true, true, true, true, true, true, true, false] rfl rfl (any_of HT_.out (by kernel_rfl)) (fun _ _ _ h => h) (Or.inl ⟨by rfl, ?_⟩) ?_ ?_
                                          rotate_left
                                          · intro w'
                                            go_simp
                                            with_reducible rfl
                                          rotate_left
                                          · simp only [Act.put, List.setIfInBounds_toArray, List.set_cons_zero, List.set_cons_succ, i64_w, i32_w]
                                            rfl
                                          refine last_ (i := 15) (N := none) #[true, true, true, true, true, true, true, true, true, true, true, true, true, true, true, true] rfl rfl (one_of HT_.out (by kernel_rfl)) (by decide) (fun K hK => ?_)
                                          refine skip_ (w1 := ?_) (by rfl) rfl ?_ ?_
                                          rotate_left
                                          · go_simp
                                            rfl
                                          refine hK.out _ _ ?_
                                          clear hK K
                                          refine done_ (done_of HT_.out (by kernel_rfl)) ?_
                                          try go_wp2
                                          have n0_ : Aside0 (Kd.V (Kd.int .i64) 3 (w105.setCell ⟨go54, (t118 : Int).toNat * 4, none⟩ (.int .i64 t145)) w.heap.size (fun k_ => some k_ ≠ (.slice Ao90 y135.length co90 : Value).ownBlock ∧ some k_ ≠ (.slice (some ⟨go54, 0, none⟩) y141.length co98 : Value).ownBlock ∧ k_ ≠ gb101 ∧ k_ ≠ gb102 ∧ k_ ≠ gb111 ∧ k_ ≠ gb119 ∧ k_ ≠ gb120) v106 t105) := ⟨by (with_reducible repeat (first | apply Kd.V_alloc | apply Kd.V_drewN | apply Kd.V_drew)); exact Kd.V_mono (Kd.V_far (p := ⟨go54, (t118 : Int).toNat * 4, none⟩) (Kd.V_mono HO_5.out (fun k_ hk => (⟨hk, fun e_ => hk.2.1 (by rw [e_]; rfl)⟩ : _ ∧ k_ ≠ go54))) (fun _ hk => hk.2) (.int .i64 t145)) (fun _ hk => ⟨hk.1.1, ⟨hk.1.2.1, ⟨hk.1.2.2.1, ⟨hk.1.2.2.2.1, ⟨hk.1.2.2.2.2.1, ⟨hk.1.2.2.2.2.2.1, hk.1.2.2.2.2.2.2⟩⟩⟩⟩⟩⟩)⟩
                                          have n1_ : Aside0 (Kd.R k61 61 (w105.setCell ⟨go54, (t118 : Int).toNat * 4, none⟩ (.int .i64 t145)) w.heap.size (fun k_ => some k_ ≠ (.slice (some ⟨go54, 0, none⟩) y141.length co98 : Value).ownBlock) (.slice Ao90 y135.length co90) y135) := ⟨by (with_reducible repeat (first | apply Kd.R_alloc | apply Kd.R_drewN | apply Kd.R_drew)); exact Kd.R_mono (Kd.R_far (p := ⟨go54, (t118 : Int).toNat * 4, none⟩) (Kd.R_mono HO137.out (fun k_ hk => (⟨hk, fun e_ => hk (by rw [e_]; rfl)⟩ : _ ∧ k_ ≠ go54))) (fun _ hk => hk.2) (.int .i64 t145)) (fun _ hk => hk.1)⟩
                                          have n2_ : Aside0 (Kd.R k61 61 (w105.setCell ⟨go54, (t118 : Int).toNat * 4, none⟩ (.int .i64 t145)) w.heap.size (fun k_ => some k_ ≠ (.slice Ao90 y135.length co90 : Value).ownBlock) (.slice (some ⟨go54, 0, none⟩) y141.length co98) y146) := ⟨by (with_reducible repeat (first | apply Kd.R_alloc | apply Kd.R_drewN | apply Kd.R_drew)); exact HQ106.out⟩
                                          have n3_ : Aside0 ((w105.setCell ⟨go54, (t118 : Int).toNat * 4, none⟩ (.int .i64 t145)).heap[gb101]? = some (.cells #[.slice A0_0 l0_0.length c0_0, .int .i64 a0_1, .slice (some ad144) l0_2.length c0_2] 25 (0, 0))) := ⟨by (with_reducible repeat (first | refine blk_drewN ?_ _ | refine blk_drew ?_ | refine blk_alloc ?_ _)); refine blk_far ?_ (by have h_ := Kd.R_ne HO143.out BK101.out (by decide); intro e_; exact h_ (by rw [e_]; rfl)) _; (with_reducible repeat (first | refine blk_drewN ?_ _ | refine blk_drew ?_ | refine blk_alloc ?_ _)); exact BK101.out⟩
                                          have n4_ : Aside0 ((w105.setCell ⟨go54, (t118 : Int).toNat * 4, none⟩ (.int .i64 t145)).heap[gb102]? = some (.cells #[.int .i64 a1_0, .int .i64 a1_1, .int .i64 a1_2, .int .i64 a1_3] 58 (0, 0))) := ⟨by (with_reducible repeat (first | refine blk_drewN ?_ _ | refine blk_drew ?_ | refine blk_alloc ?_ _)); refine blk_far ?_ (by have h_ := Kd.R_ne HO143.out BK102.out (by decide); intro e_; exact h_ (by rw [e_]; rfl)) _; (with_reducible repeat (first | refine blk_drewN ?_ _ | refine blk_drew ?_ | refine blk_alloc ?_ _)); exact BK102.out⟩
                                          have n5_ : Aside0 ((w105.setCell ⟨go54, (t118 : Int).toNat * 4, none⟩ (.int .i64 t145)).heap[gb111]? = some (.cells #[.slice A0_0 l0_0.length c0_0, .int .i64 ji8, .slice (some ad144) l0_2.length c0_2] 25 (0, 0))) := ⟨by (with_reducible repeat (first | refine blk_drewN ?_ _ | refine blk_drew ?_ | refine blk_alloc ?_ _)); refine blk_far ?_ (by have h_ := Kd.R_ne HO143.out BK111.out (by decide); intro e_; exact h_ (by rw [e_]; rfl)) _; (with_reducible repeat (first | refine blk_drewN ?_ _ | refine blk_drew ?_ | refine blk_alloc ?_ _)); exact BK111.out⟩
                                          have n6_ : Aside0 ((w105.setCell ⟨go54, (t118 : Int).toNat * 4, none⟩ (.int .i64 t145)).heap[gb119]? = some (.cells #[.slice A0_0 l0_0.length c0_0, .int .i64 a0_1, .slice Ao90 y135.length co90] 25 (0, 0))) := ⟨by (with_reducible repeat (first | refine blk_drewN ?_ _ | refine blk_drew ?_ | refine blk_alloc ?_ _)); refine blk_far ?_ (by have h_ := Kd.R_ne HO143.out BK119.out (by decide); intro e_; exact h_ (by rw [e_]; rfl)) _; (with_reducible repeat (first | refine blk_drewN ?_ _ | refine blk_drew ?_ | refine blk_alloc ?_ _)); exact BK119.out⟩
                                          have n7_ : Aside0 ((w105.setCell ⟨go54, (t118 : Int).toNat * 4, none⟩ (.int .i64 t145)).heap[gb120]? = some (.cells #[.slice A0_0 l0_0.length c0_0, .int .i64 a0_1, .slice (some ⟨go54, 0, none⟩) y141.length co98] 25 (0, 0))) := ⟨by (with_reducible repeat (first | refine blk_drewN ?_ _ | refine blk_drew ?_ | refine blk_alloc ?_ _)); refine blk_far ?_ (by have h_ := Kd.R_ne HO143.out BK120.out (by decide); intro e_; exact h_ (by rw [e_]; rfl)) _; (with_reducible repeat (first | refine blk_drewN ?_ _ | refine blk_drew ?_ | refine blk_alloc ?_ _)); exact BK120.out⟩
                                          have n8_ : Aside0 (Below w.heap.size w (w105.setCell ⟨go54, (t118 : Int).toNat * 4, none⟩ (.int .i64 t145))) := ⟨B_⟩
                                          (try clear HO_5)
                                          (try clear HO137)
                                          (try clear HO143)
                                          (try clear BK101)
                                          (try clear BK102)
                                          (try clear BK111)
                                          (try clear BK119)
                                          (try clear BK120)
                                          (try clear HB)
                                          generalize (w105.setCell ⟨go54, (t118 : Int).toNat * 4, none⟩ (.int .i64 t145)) = w107 at n0_ n1_ n2_ n3_ n4_ n5_ n6_ n7_ n8_ ⊢
                                          have HO_5 := n0_
                                          have HO137 := n1_
                                          have HO143 := n2_
                                          have BK101 := n3_
                                          have BK102 := n4_
                                          have BK111 := n5_
                                          have BK119 := n6_
                                          have BK120 := n7_
                                          have HB := n8_
                                          clear n0_ n1_ n2_ n3_ n4_ n5_ n6_ n7_ n8_
                                          have n0_ := Aside0.mk (Kd.V_drew HO_5.out)
                                          have n1_ := Aside0.mk (Kd.R_drew HO137.out)
                                          have n2_ := Aside0.mk (Kd.R_drew HO143.out)
                                          have n3_ := Aside0.mk (blk_drew BK101.out)
                                          have n4_ := Aside0.mk (blk_drew BK102.out)
                                          have n5_ := Aside0.mk (blk_drew BK111.out)
                                          have n6_ := Aside0.mk (blk_drew BK119.out)
                                          have n7_ := Aside0.mk (blk_drew BK120.out)
                                          have n8_ := Aside0.mk (below_drew1 HB.out)
                                          clear HO_5
                                          clear HO137
                                          clear HO143
                                          clear BK101
                                          clear BK102
                                          clear BK111
                                          clear BK119
                                          clear BK120
                                          clear HB
                                          have HO_5 := n0_
                                          have HO137 := n1_
                                          have HO143 := n2_
                                          have BK101 := n3_
                                          have BK102 := n4_
                                          have BK111 := n5_
                                          have BK119 := n6_
                                          have BK120 := n7_
                                          have HB := n8_
                                          clear n0_ n1_ n2_ n3_ n4_ n5_ n6_ n7_ n8_
                                          have p147 : 0 ≤ (t118 : Int) := of_decide_eq_true D_
                                          have q147 : t118 < (l0_2.length : Int) := of_decide_eq_true D_
                                          obtain ⟨ad147, e147, hx147_0, hx147_1, hx147_2, hx147_3⟩ := at_T61 HR0_2.out t118 p147 q147
                                          have hw147_3 := hx147_3
                                          have hw147_2 := hx147_2
                                          have hw147_1 := hx147_1
                                          have hw147_0 := hx147_0
                                          obtain rfl : ad144 = ad147 := (by injection e147)
                                          replace hx147_0 := (HB.out.cell (World.block_lt_of_cell? w _ hx147_0)).trans hx147_0
                                          replace hx147_1 := (HB.out.cell (World.block_lt_of_cell? w _ hx147_1)).trans hx147_1
                                          replace hx147_2 := (HB.out.cell (World.block_lt_of_cell? w _ hx147_2)).trans hx147_2
                                          replace hx147_3 := (HB.out.cell (World.block_lt_of_cell? w _ hx147_3)).trans hx147_3
                                          replace p147 := eq_true p147
                                          replace q147 := eq_true q147
                                          refine start_ (n := 16) (S := fun w' => w'.cell? ⟨gb120, 0, none⟩ = some (.slice A0_0 l0_0.length c0_0) ∧ w'.cell? ⟨gb120, 1, none⟩ = some (.int .i64 a0_1) ∧ w'.cell? ⟨gb120, 2, none⟩ = some (.slice (some ⟨go54, 0, none⟩) y141.length co98) ∧ w'.cell? ⟨gb101, 0, none⟩ = some (.slice A0_0 l0_0.length c0_0) ∧ w'.cell? ⟨gb101, 1, none⟩ = some (.int .i64 a0_1) ∧ w'.cell? ⟨gb101, 2, none⟩ = some (.slice (some ad144) l0_2.length c0_2) ∧ w'.cell? ⟨gb102, 0, none⟩ = some (.int .i64 a1_0) ∧ w'.cell? ⟨gb102, 1, none⟩ = some (.int .i64 a1_1) ∧ w'.cell? ⟨gb102, 2, none⟩ = some (.int .i64 a1_2) ∧ w'.cell? ⟨gb102, 3, none⟩ = some (.int .i64 a1_3) ∧ w'.cell? (ad144.add ((t118).toNat * 4)) = some (.int .i64 ((rd_T61 l0_2 t118).f0.f0)) ∧ w'.cell? ⟨(ad144.add ((t118).toNat * 4)).block, (ad144.add ((t118).toNat * 4)).off + 1, none⟩ = some (.int .i64 ((rd_T61 l0_2 t118).f0.f1)) ∧ w'.cell? ⟨(ad144.add ((t118).toNat * 4)).block, (ad144.add ((t118).toNat * 4)).off + 2, none⟩ = some (.int .i64 ((rd_T61 l0_2 t118).f1.f0)) ∧ w'.cell? ⟨(ad144.add ((t118).toNat * 4)).block, (ad144.add ((t118).toNat * 4)).off + 3, none⟩ = some (.int .i64 ((rd_T61 l0_2 t118).f1.f1))) (ds := [15]) #[false, false, false, false, false, false, false, false, false, false, false, false, false, false, false, false] (by kernel_rfl) rfl rfl ⟨(blk_cell BK120.out 0).trans rfl, (blk_cell BK120.out 1).trans rfl, (blk_cell BK120.out 2).trans rfl, (blk_cell BK101.out 0).trans rfl, (blk_cell BK101.out 1).trans rfl, (blk_cell BK101.out 2).trans rfl, (blk_cell BK102.out 0).trans rfl, (blk_cell BK102.out 1).trans rfl, (blk_cell BK102.out 2).trans rfl, (blk_cell BK102.out 3).trans rfl, ((HB.out.cell (World.block_lt_of_cell? w _ hw147_0)).trans hw147_0), ((HB.out.cell (World.block_lt_of_cell? w _ hw147_1)).trans hw147_1), ((HB.out.cell (World.block_lt_of_cell? w _ hw147_2)).trans hw147_2), ((HB.out.cell (World.block_lt_of_cell? w _ hw147_3)).trans hw147_3)⟩ (fun hHeld => ?_); refine with_tabW luciferlaw01_PeelLess.tab17 luciferlaw01_PeelLess.bits17 (fun HT_ HW_ => ?_)
                                          generalize w107.drew = w108 at HO_5 HO137 HO143 BK101 BK102 BK111 BK119 BK120 HB HQ106 hx147_0 hx147_1 hx147_2 hx147_3 hHeld ⊢
                                          refine pure_ (i := 0) (N := some 112) (v := ?_) (a' := ?_) #[true, false, false, false, false, false, false, false, false, false, false, false, false, false, false, false] rfl rfl (any_of HT_.out (by kernel_rfl)) (fun _ _ _ h => h) (Or.inl ⟨by rfl, ?_⟩) ?_ ?_
                                          rotate_left
                                          · intro w'
                                            go_simp
                                            with_reducible rfl
                                          rotate_left
                                          · simp only [Act.put, List.setIfInBounds_toArray, List.set_cons_zero, List.set_cons_succ, i64_w, i32_w]
                                            rfl
                                          refine pure_ (i := 2) (N := some 114) (v := ?_) (a' := ?_) #[true, false, true, false, false, false, false, false, false, false, false, false, false, false, false, false] rfl rfl (any_of HT_.out (by kernel_rfl)) (fun _ _ _ h => h) (Or.inl ⟨by rfl, ?_⟩) ?_ ?_
                                          rotate_left
                                          · intro w'
                                            go_simp
                                            with_reducible rfl
                                          rotate_left
                                          · simp only [Act.put, List.setIfInBounds_toArray, List.set_cons_zero, List.set_cons_succ, i64_w, i32_w]
                                            rfl
                                          refine pure_ (i := 3) (N := some 115) (v := ?_) (a' := ?_) #[true, false, true, true, false, false, false, false, false, false, false, false, false, false, false, false] rfl rfl (any_of HT_.out (by kernel_rfl)) (fun _ _ _ h => h) (Or.inl ⟨by rfl, ?_⟩) ?_ ?_
                                          rotate_left
                                          · intro w'
                                            go_simp
                                            with_reducible rfl
                                          rotate_left
                                          · simp only [Act.put, List.setIfInBounds_toArray, List.set_cons_zero, List.set_cons_succ, i64_w, i32_w]
                                            rfl
                                          refine pure_ (i := 5) (N := some 117) (v := ?_) (a' := ?_) #[true, false, true, true, false, true, false, false, false, false, false, false, false, false, false, false] rfl rfl (any_of HT_.out (by kernel_rfl)) (fun _ _ _ h => h) (Or.inl ⟨by rfl, ?_⟩) ?_ ?_
                                          rotate_left
                                          · intro w'
                                            go_simp
                                            with_reducible rfl
                                          rotate_left
                                          · simp only [Act.put, List.setIfInBounds_toArray, List.set_cons_zero, List.set_cons_succ, i64_w, i32_w]
                                            rfl
                                          refine pure_ (i := 9) (N := some 121) (v := ?_) (a' := ?_) #[true, false, true, true, false, true, false, false, false, true, false, false, false, false, false, false] rfl rfl (any_of HT_.out (by kernel_rfl)) (fun _ _ _ h => h) (Or.inl ⟨by rfl, ?_⟩) ?_ ?_
                                          rotate_left
                                          · intro w'
                                            go_simp
                                            with_reducible rfl
                                          rotate_left
                                          · simp only [Act.put, List.setIfInBounds_toArray, List.set_cons_zero, List.set_cons_succ, i64_w, i32_w]
                                            rfl
                                          refine take_ (i := 1) (N := some 113) (v := ?_) (a' := ?_) #[true, true, true, true, false, true, false, false, false, true, false, false, false, false, false, false] rfl rfl (take_ofW HT_.out HW_.out (by kernel_rfl)) (fun _ _ _ h => h) (Or.inl ⟨by rfl, ?_⟩) hHeld ?_ ?_
                                          rotate_left
                                          · rintro w' ⟨s0, s1, s2, s3, s4, s5, s6, s7, s8, s9, s10, s11, s12, s13⟩
                                            go_simp
                                            with_reducible rfl
                                          rotate_left
                                          · simp only [Act.put, List.setIfInBounds_toArray, List.set_cons_zero, List.set_cons_succ, i64_w, i32_w]
                                            rfl
                                          refine take_ (i := 4) (N := some 116) (v := ?_) (a' := ?_) #[true, true, true, true, true, true, false, false, false, true, false, false, false, false, false, false] rfl rfl (take_ofW HT_.out HW_.out (by kernel_rfl)) (fun _ _ _ h => h) (Or.inl ⟨by rfl, ?_⟩) hHeld ?_ ?_
                                          rotate_left
                                          · rintro w' ⟨s0, s1, s2, s3, s4, s5, s6, s7, s8, s9, s10, s11, s12, s13⟩
                                            go_simp
                                            with_reducible rfl
                                          rotate_left
                                          · simp only [Act.put, List.setIfInBounds_toArray, List.set_cons_zero, List.set_cons_succ, i64_w, i32_w]
                                            rfl
                                          refine pure_ (i := 6) (N := some 118) (v := ?_) (a' := ?_) #[true, true, true, true, true, true, true, false, false, true, false, false, false, false, false, false] rfl rfl (any_of HT_.out (by kernel_rfl)) (fun _ _ _ h => h) (Or.inl ⟨by rfl, ?_⟩) ?_ ?_
                                          rotate_left
                                          · intro w'
                                            go_simp
                                            with_reducible rfl
                                          rotate_left
                                          · simp only [Act.put, List.setIfInBounds_toArray, List.set_cons_zero, List.set_cons_succ, i64_w, i32_w]
                                            rfl
                                          refine pure_ (i := 7) (N := some 119) (v := ?_) (a' := ?_) #[true, true, true, true, true, true, true, true, false, true, false, false, false, false, false, false] rfl rfl (any_of HT_.out (by kernel_rfl)) (fun _ _ _ h => h) (Or.inl ⟨by rfl, ?_⟩) ?_ ?_
                                          rotate_left
                                          · intro w'
                                            go_simp
                                            with_reducible rfl
                                          rotate_left
                                          · simp only [Act.put, List.setIfInBounds_toArray, List.set_cons_zero, List.set_cons_succ, i64_w, i32_w]
                                            rfl
                                          refine take_ (i := 8) (N := some 120) (v := ?_) (a' := ?_) #[true, true, true, true, true, true, true, true, true, true, false, false, false, false, false, false] rfl rfl (take_ofW HT_.out HW_.out (by kernel_rfl)) (fun _ _ _ h => h) (Or.inl ⟨by rfl, ?_⟩) hHeld ?_ ?_
                                          rotate_left
                                          · rintro w' ⟨s0, s1, s2, s3, s4, s5, s6, s7, s8, s9, s10, s11, s12, s13⟩
                                            go_simp
                                            with_reducible rfl
                                          rotate_left
                                          · simp only [Act.put, List.setIfInBounds_toArray, List.set_cons_zero, List.set_cons_succ, i64_w, i32_w]
                                            rfl
                                          refine take_ (i := 10) (N := some 122) (v := ?_) (a' := ?_) #[true, true, true, true, true, true, true, true, true, true, true, false, false, false, false, false] rfl rfl (take_ofW HT_.out HW_.out (by kernel_rfl)) (fun _ _ _ h => h) (Or.inl ⟨by rfl, ?_⟩) hHeld ?_ ?_
                                          rotate_left
                                          · rintro w' ⟨s0, s1, s2, s3, s4, s5, s6, s7, s8, s9, s10, s11, s12, s13⟩
                                            go_simp
                                            with_reducible rfl
                                          rotate_left
                                          · simp only [Act.put, List.setIfInBounds_toArray, List.set_cons_zero, List.set_cons_succ, i64_w, i32_w]
                                            rfl
                                          refine one_ (i := 11) (N := some 123) #[true, true, true, true, true, true, true, true, true, true, true, true, false, false, false, false] rfl rfl (one_of HT_.out (by kernel_rfl)) (by decide) (fun K hK => ?_)
                                          refine goes_ Tryd.func50 (by kernel_rfl) rfl #[.agg #[.int .i64 ((rd_T61 l0_2 t118).f1.f0), .int .i64 ((rd_T61 l0_2 t118).f1.f1)], .int .i64 a1_2] (by rfl) rfl rfl (by (try simp only [List.map_toArray, List.map_cons, List.map_nil]); first | done | rfl | (simp only [List.length_drop, List.length_take]; rfl)) ?_
                                          with_reducible refine (luciferref00_Drawn.calls ((rd_T61 l0_2 t118).f1.f0) ((rd_T61 l0_2 t118).f1.f1) a1_2 t148 _ A55.out).mono ?_
                                          rintro e w109 ⟨rfl, hb⟩
                                          refine ⟨_, rfl, ?_⟩
                                          have n0_ := Aside0.mk (Kd.V_below (by (with_reducible repeat (first | apply Kd.V_alloc | apply Kd.V_drewN | apply Kd.V_drew)); exact HO_5.out) hb)
                                          have n1_ := Aside0.mk (Kd.R_below (R_ HO137) hb)
                                          have n2_ := Aside0.mk (Kd.R_below (R_ HO143) hb)
                                          have n3_ := Aside0.mk (blk_below (g := gb101) (o := .cells #[.slice A0_0 l0_0.length c0_0, .int .i64 a0_1, .slice (some ad144) l0_2.length c0_2] 25 (0, 0)) (K_ BK101) hb)
                                          have n4_ := Aside0.mk (blk_below (g := gb102) (o := .cells #[.int .i64 a1_0, .int .i64 a1_1, .int .i64 a1_2, .int .i64 a1_3] 58 (0, 0)) (K_ BK102) hb)
                                          have n5_ := Aside0.mk (blk_below (g := gb111) (o := .cells #[.slice A0_0 l0_0.length c0_0, .int .i64 ji8, .slice (some ad144) l0_2.length c0_2] 25 (0, 0)) (K_ BK111) hb)
                                          have n6_ := Aside0.mk (blk_below (g := gb119) (o := .cells #[.slice A0_0 l0_0.length c0_0, .int .i64 a0_1, .slice Ao90 y135.length co90] 25 (0, 0)) (K_ BK119) hb)
                                          have n7_ := Aside0.mk (blk_below (g := gb120) (o := .cells #[.slice A0_0 l0_0.length c0_0, .int .i64 a0_1, .slice (some ⟨go54, 0, none⟩) y141.length co98] 25 (0, 0)) (K_ BK120) hb)
                                          have n8_ := Aside0.mk (below_step (B_) hb)
                                          clear HO_5
                                          clear HO137
                                          clear HO143
                                          clear BK101
                                          clear BK102
                                          clear BK111
                                          clear BK119
                                          clear BK120
                                          clear HB
                                          have HO_5 := n0_
                                          have HO137 := n1_
                                          have HO143 := n2_
                                          have BK101 := n3_
                                          have BK102 := n4_
                                          have BK111 := n5_
                                          have BK119 := n6_
                                          have BK120 := n7_
                                          have HB := n8_
                                          clear n0_ n1_ n2_ n3_ n4_ n5_ n6_ n7_ n8_
                                          (try clear hb)
                                          (try clear hb2)
                                          (try clear hk)
                                          (try clear hi)
                                          have p56 : 0 ≤ (t118 : Int) := of_decide_eq_true D_
                                          have q56 : (t118 : Int) < ((y141.length : Int) : Int) := of_decide_eq_true D_
                                          obtain ⟨ce56, hcl56, hM56, hcc56, hfr56⟩ := Kd.R_elem HO143.out z61 (t118 : Int) p56 q56
                                          obtain rfl := k61_openM hM56
                                          have hx56_0 : World.cell? _ ⟨go54, (t118 : Int).toNat * 4, none⟩ = some (.int .i64 ((rd_T61 y146 t118).f0.f0)) := hcc56 0 _ rfl
                                          have hx56_1 : World.cell? _ ⟨go54, (t118 : Int).toNat * 4 + 1, none⟩ = some (.int .i64 ((rd_T61 y146 t118).f0.f1)) := hcc56 1 _ rfl
                                          have hx56_2 : World.cell? _ ⟨go54, (t118 : Int).toNat * 4 + 2, none⟩ = some (.int .i64 ((rd_T61 y146 t118).f1.f0)) := hcc56 2 _ rfl
                                          have hx56_3 : World.cell? _ ⟨go54, (t118 : Int).toNat * 4 + 3, none⟩ = some (.int .i64 ((rd_T61 y146 t118).f1.f1)) := hcc56 3 _ rfl
                                          have hf56_0 : World.frozen? _ ⟨go54, (t118 : Int).toNat * 4, none⟩ = false := hfr56 0
                                          have hf56_1 : World.frozen? _ ⟨go54, (t118 : Int).toNat * 4 + 1, none⟩ = false := hfr56 1
                                          have hf56_2 : World.frozen? _ ⟨go54, (t118 : Int).toNat * 4 + 2, none⟩ = false := hfr56 2
                                          have hf56_3 : World.frozen? _ ⟨go54, (t118 : Int).toNat * 4 + 3, none⟩ = false := hfr56 3
                                          clear hcl56 hcc56 hfr56 hM56
                                          replace p56 := eq_true p56
                                          replace q56 := eq_true q56
                                          obtain ⟨ce110, hcl110, hM110, hcc110, hfr110⟩ := Kd.R_elem HO143.out z61 (t118 : Int) (of_decide_eq_true D_) (by have h_ : (t118 : Int) < ((y141.length : Int) : Int) := of_decide_eq_true D_; first | exact h_ | (have e_ := (Kd.R_reads' HO143.out).1; omega) | simpa using h_)
                                          obtain rfl := k61_openM hM110
                                          have HP110 := (Kd.R_seg HO143.out (t118 : Int) (of_decide_eq_true D_) (by have h_ : (t118 : Int) < ((y141.length : Int) : Int) := of_decide_eq_true D_; first | exact h_ | (have e_ := (Kd.R_reads' HO143.out).1; omega) | simpa using h_) (seg := [.int .i64 t148]) (j := 3) hcl110 hcc110 (show 4 ≤ 4 from by decide) (x' := (⟨(⟨(rd_T61 y146 t118).f0.f0, (rd_T61 y146 t118).f0.f1⟩ : S39), (⟨(rd_T61 y146 t118).f1.f0, t148⟩ : S39)⟩ : S61)) (k61_mkM _ _ _ (⟨(⟨(rd_T61 y146 t118).f0.f0, (rd_T61 y146 t118).f0.f1⟩ : S39), (⟨(rd_T61 y146 t118).f1.f0, t148⟩ : S39)⟩ : S61) ) (fun _ hk => hk)).1
                                          rw [← Ny149.out] at HP110
                                          have HQ110 := Aside0.mk HP110
                                          clear hcl110 hcc110 hfr110 hM110 HP110
                                          refine hK.out _ _ ⟨(blk_cell BK120.out 0).trans rfl, (blk_cell BK120.out 1).trans rfl, (blk_cell BK120.out 2).trans rfl, (blk_cell BK101.out 0).trans rfl, (blk_cell BK101.out 1).trans rfl, (blk_cell BK101.out 2).trans rfl, (blk_cell BK102.out 0).trans rfl, (blk_cell BK102.out 1).trans rfl, (blk_cell BK102.out 2).trans rfl, (blk_cell BK102.out 3).trans rfl, ((HB.out.cell (World.block_lt_of_cell? w _ hw147_0)).trans hw147_0), ((HB.out.cell (World.block_lt_of_cell? w _ hw147_1)).trans hw147_1), ((HB.out.cell (World.block_lt_of_cell? w _ hw147_2)).trans hw147_2), ((HB.out.cell (World.block_lt_of_cell? w _ hw147_3)).trans hw147_3)⟩ (fun hHeld => ?_)
                                          clear hK K
                                          refine norm_ (a' := ?_) ?_ ?_
                                          rotate_left
                                          · show Act.put _ (some 123) _ = _
                                            simp only [Act.put, List.setIfInBounds_toArray, List.set_cons_zero, List.set_cons_succ, i64_w, i32_w]
                                            rfl
                                          refine pure_ (i := 12) (N := some 124) (v := ?_) (a' := ?_) #[true, true, true, true, true, true, true, true, true, true, true, true, true, false, false, false] rfl rfl (any_of HT_.out (by kernel_rfl)) (fun _ _ _ h => h) (Or.inl ⟨by rfl, ?_⟩) ?_ ?_
                                          rotate_left
                                          · intro w'
                                            go_simp
                                            with_reducible rfl
                                          rotate_left
                                          · simp only [Act.put, List.setIfInBounds_toArray, List.set_cons_zero, List.set_cons_succ, i64_w, i32_w]
                                            rfl
                                          refine pure_ (i := 13) (N := some 125) (v := ?_) (a' := ?_) #[true, true, true, true, true, true, true, true, true, true, true, true, true, true, false, false] rfl rfl (any_of HT_.out (by kernel_rfl)) (fun _ _ _ h => h) (Or.inl ⟨by rfl, ?_⟩) ?_ ?_
                                          rotate_left
                                          · intro w'
                                            go_simp
                                            with_reducible rfl
                                          rotate_left
                                          · simp only [Act.put, List.setIfInBounds_toArray, List.set_cons_zero, List.set_cons_succ, i64_w, i32_w]
                                            rfl
                                          refine pure_ (i := 14) (N := some 126) (v := ?_) (a' := ?_) #[true, true, true, true, true, true, true, true, true, true, true, true, true, true, true, false] rfl rfl (any_of HT_.out (by kernel_rfl)) (fun _ _ _ h => h) (Or.inl ⟨by rfl, ?_⟩) ?_ ?_
                                          rotate_left
                                          · intro w'
                                            go_simp
                                            with_reducible rfl
                                          rotate_left
                                          · simp only [Act.put, List.setIfInBounds_toArray, List.set_cons_zero, List.set_cons_succ, i64_w, i32_w]
                                            rfl
                                          refine last_ (i := 15) (N := none) #[true, true, true, true, true, true, true, true, true, true, true, true, true, true, true, true] rfl rfl (one_of HT_.out (by kernel_rfl)) (by decide) (fun K hK => ?_)
                                          refine skip_ (w1 := ?_) (by rfl) rfl ?_ ?_
                                          rotate_left
                                          · go_simp
                                            rfl
                                          refine hK.out _ _ ?_
                                          clear hK K
                                          refine done_ (done_of HT_.out (by kernel_rfl)) ?_
                                          have hnb111 := NB119_102.out
                                          have hnc111 := NB102_119.out
                                          have hnb112 := NB119_111.out
                                          have hnc112 := NB111_119.out
                                          obtain ⟨hcz113_0, hcz113_1, hcz113_2, hfz113_0, hfz113_1, hfz113_2⟩ := cz3 BK119
                                          try go_wp2_with (first | ((with_reducible refine gate_callee (f := 30) rfl ?_); refine goesL_ (some 129) rfl rfl Tryd.func30 (by kernel_rfl) rfl #[.agg #[.slice A0_0 l0_0.length c0_0, .int .i64 a0_1, .slice Ao90 y135.length co90]] rfl (by (try simp only [List.map_toArray, List.map_cons, List.map_nil]); first | done | rfl | (simp only [List.length_drop, List.length_take]; rfl)) ?_; (with_reducible refine (peel_Best.calls _ _ l0_0 a0_1 _ _ y135 t150 t153 _ ?side1 ?side2 ?side3 ?side4 ?side5 A57.out).mono ?_); (case side1 => exact Kd.C_below HR0_0.out (B_)); (case side2 => exact HC0_0.out); (case side3 => refine (Kd.R_reads' (e := 61) (base := w.heap.size) (ok := fun k_ => some k_ ≠ (.slice (some ⟨go54, 0, none⟩) y141.length co98 : Value).ownBlock) (n := y135.length) (c := co90) ?_).2.2; exact (by (with_reducible repeat (first | apply Kd.R_alloc | apply Kd.R_drewN | apply Kd.R_drew)); exact (Kd.R_mono (Kd.R_far (p := ⟨go54, (t118 : Int).toNat * 4 + 3, none⟩) (Kd.R_mono HO137.out (fun k_ hk => (⟨hk, fun e_ => hk (by rw [e_]; rfl)⟩ : _ ∧ k_ ≠ go54))) (fun _ hk => hk.2) (.int .i64 t148)) (fun _ h_ => h_.1)))); (case side4 => exact (Kd.R_reads' HO137.out).2.1); (case side5 => exact Go.Proofs.YtigofgdmefobaaaDoor.Peel.EndsAt.below HE.out (B_)); rintro e w114 ⟨v151, rfl, ho0, hb⟩; refine ⟨_, rfl, ?_⟩; have n0_ := Aside0.mk (Kd.V_below (by (with_reducible repeat (first | apply Kd.V_alloc | apply Kd.V_drewN | apply Kd.V_drew)); exact (Kd.V_mono (e := 3) (base := w.heap.size) (Kd.V_far (p := ⟨go54, (t118 : Int).toNat * 4 + 3, none⟩) (Kd.V_mono HO_5.out (fun k_ hk => (⟨hk, fun e_ => hk.2.1 (by rw [e_]; rfl)⟩ : _ ∧ k_ ≠ go54))) (fun _ hk => hk.2) (.int .i64 t148)) (fun _ h_ => h_.1))) hb); have n1_ := Aside0.mk (Kd.R_below (by (with_reducible repeat (first | apply Kd.R_alloc | apply Kd.R_drewN | apply Kd.R_drew)); exact (Kd.R_mono (Kd.R_far (p := ⟨go54, (t118 : Int).toNat * 4 + 3, none⟩) (Kd.R_mono HO137.out (fun k_ hk => (⟨hk, fun e_ => hk (by rw [e_]; rfl)⟩ : _ ∧ k_ ≠ go54))) (fun _ hk => hk.2) (.int .i64 t148)) (fun _ h_ => h_.1))) hb); have n2_ := Aside0.mk (Kd.R_below (by (with_reducible repeat (first | apply Kd.R_alloc | apply Kd.R_drewN | apply Kd.R_drew)); exact HQ110.out) hb); have n3_ := Aside0.mk (Kd.V_lower (Kd.V_mono (ok' := fun k_ => some k_ ≠ (.slice Ao90 y135.length co90 : Value).ownBlock ∧ some k_ ≠ (.slice (some ⟨go54, 0, none⟩) y141.length co98 : Value).ownBlock ∧ k_ ≠ gb101 ∧ k_ ≠ gb102 ∧ k_ ≠ gb111 ∧ k_ ≠ gb119 ∧ k_ ≠ gb120) ho0 (fun k_ hk_ => ⟨(Kd.fresh' (Kd.R_lt (by (with_reducible repeat (first | apply Kd.R_alloc | apply Kd.R_drewN | apply Kd.R_drew)); exact (Kd.R_mono (Kd.R_far (p := ⟨go54, (t118 : Int).toNat * 4 + 3, none⟩) (Kd.R_mono HO137.out (fun k_ hk => (⟨hk, fun e_ => hk (by rw [e_]; rfl)⟩ : _ ∧ k_ ≠ go54))) (fun _ hk => hk.2) (.int .i64 t148)) (fun _ h_ => h_.1)))) k_ hk_), (Kd.fresh' (Kd.R_lt (by (with_reducible repeat (first | apply Kd.R_alloc | apply Kd.R_drewN | apply Kd.R_drew)); exact HQ110.out)) k_ hk_), (Kd.freshB (g := gb101) (o := .cells #[.slice A0_0 l0_0.length c0_0, .int .i64 a0_1, .slice (some ad144) l0_2.length c0_2] 25 (0, 0)) (by (with_reducible repeat (first | refine blk_drewN ?_ _ | refine blk_drew ?_ | refine blk_alloc ?_ _)); refine blk_far ?_ (by have h_ := Kd.R_ne HO143.out BK101.out (by decide); intro e_; exact h_ (by rw [e_]; rfl)) _; (with_reducible repeat (first | refine blk_drewN ?_ _ | refine blk_drew ?_ | refine blk_alloc ?_ _)); exact BK101.out) k_ hk_), (Kd.freshB (g := gb102) (o := .cells #[.int .i64 a1_0, .int .i64 a1_1, .int .i64 a1_2, .int .i64 a1_3] 58 (0, 0)) (by (with_reducible repeat (first | refine blk_drewN ?_ _ | refine blk_drew ?_ | refine blk_alloc ?_ _)); refine blk_far ?_ (by have h_ := Kd.R_ne HO143.out BK102.out (by decide); intro e_; exact h_ (by rw [e_]; rfl)) _; (with_reducible repeat (first | refine blk_drewN ?_ _ | refine blk_drew ?_ | refine blk_alloc ?_ _)); exact BK102.out) k_ hk_), (Kd.freshB (g := gb111) (o := .cells #[.slice A0_0 l0_0.length c0_0, .int .i64 ji8, .slice (some ad144) l0_2.length c0_2] 25 (0, 0)) (by (with_reducible repeat (first | refine blk_drewN ?_ _ | refine blk_drew ?_ | refine blk_alloc ?_ _)); refine blk_far ?_ (by have h_ := Kd.R_ne HO143.out BK111.out (by decide); intro e_; exact h_ (by rw [e_]; rfl)) _; (with_reducible repeat (first | refine blk_drewN ?_ _ | refine blk_drew ?_ | refine blk_alloc ?_ _)); exact BK111.out) k_ hk_), (Kd.freshB (g := gb119) (o := .cells #[.slice A0_0 l0_0.length c0_0, .int .i64 a0_1, .slice Ao90 y135.length co90] 25 (0, 0)) (by (with_reducible repeat (first | refine blk_drewN ?_ _ | refine blk_drew ?_ | refine blk_alloc ?_ _)); refine blk_far ?_ (by have h_ := Kd.R_ne HO143.out BK119.out (by decide); intro e_; exact h_ (by rw [e_]; rfl)) _; (with_reducible repeat (first | refine blk_drewN ?_ _ | refine blk_drew ?_ | refine blk_alloc ?_ _)); exact BK119.out) k_ hk_), (Kd.freshB (g := gb120) (o := .cells #[.slice A0_0 l0_0.length c0_0, .int .i64 a0_1, .slice (some ⟨go54, 0, none⟩) y141.length co98] 25 (0, 0)) (by (with_reducible repeat (first | refine blk_drewN ?_ _ | refine blk_drew ?_ | refine blk_alloc ?_ _)); refine blk_far ?_ (by have h_ := Kd.R_ne HO143.out BK120.out (by decide); intro e_; exact h_ (by rw [e_]; rfl)) _; (with_reducible repeat (first | refine blk_drewN ?_ _ | refine blk_drew ?_ | refine blk_alloc ?_ _)); exact BK120.out) k_ hk_)⟩)) (below_size (B_))); have n4_ := Aside0.mk (blk_below (g := gb101) (o := .cells #[.slice A0_0 l0_0.length c0_0, .int .i64 a0_1, .slice (some ad144) l0_2.length c0_2] 25 (0, 0)) (by (with_reducible repeat (first | refine blk_drewN ?_ _ | refine blk_drew ?_ | refine blk_alloc ?_ _)); refine blk_far ?_ (by have h_ := Kd.R_ne HO143.out BK101.out (by decide); intro e_; exact h_ (by rw [e_]; rfl)) _; (with_reducible repeat (first | refine blk_drewN ?_ _ | refine blk_drew ?_ | refine blk_alloc ?_ _)); exact BK101.out) hb); have n5_ := Aside0.mk (blk_below (g := gb102) (o := .cells #[.int .i64 a1_0, .int .i64 a1_1, .int .i64 a1_2, .int .i64 a1_3] 58 (0, 0)) (by (with_reducible repeat (first | refine blk_drewN ?_ _ | refine blk_drew ?_ | refine blk_alloc ?_ _)); refine blk_far ?_ (by have h_ := Kd.R_ne HO143.out BK102.out (by decide); intro e_; exact h_ (by rw [e_]; rfl)) _; (with_reducible repeat (first | refine blk_drewN ?_ _ | refine blk_drew ?_ | refine blk_alloc ?_ _)); exact BK102.out) hb); have n6_ := Aside0.mk (blk_below (g := gb111) (o := .cells #[.slice A0_0 l0_0.length c0_0, .int .i64 ji8, .slice (some ad144) l0_2.length c0_2] 25 (0, 0)) (by (with_reducible repeat (first | refine blk_drewN ?_ _ | refine blk_drew ?_ | refine blk_alloc ?_ _)); refine blk_far ?_ (by have h_ := Kd.R_ne HO143.out BK111.out (by decide); intro e_; exact h_ (by rw [e_]; rfl)) _; (with_reducible repeat (first | refine blk_drewN ?_ _ | refine blk_drew ?_ | refine blk_alloc ?_ _)); exact BK111.out) hb); have n7_ := Aside0.mk (blk_below (g := gb119) (o := .cells #[.slice A0_0 l0_0.length c0_0, .int .i64 a0_1, .slice Ao90 y135.length co90] 25 (0, 0)) (by (with_reducible repeat (first | refine blk_drewN ?_ _ | refine blk_drew ?_ | refine blk_alloc ?_ _)); refine blk_far ?_ (by have h_ := Kd.R_ne HO143.out BK119.out (by decide); intro e_; exact h_ (by rw [e_]; rfl)) _; (with_reducible repeat (first | refine blk_drewN ?_ _ | refine blk_drew ?_ | refine blk_alloc ?_ _)); exact BK119.out) hb); have n8_ := Aside0.mk (blk_below (g := gb120) (o := .cells #[.slice A0_0 l0_0.length c0_0, .int .i64 a0_1, .slice (some ⟨go54, 0, none⟩) y141.length co98] 25 (0, 0)) (by (with_reducible repeat (first | refine blk_drewN ?_ _ | refine blk_drew ?_ | refine blk_alloc ?_ _)); refine blk_far ?_ (by have h_ := Kd.R_ne HO143.out BK120.out (by decide); intro e_; exact h_ (by rw [e_]; rfl)) _; (with_reducible repeat (first | refine blk_drewN ?_ _ | refine blk_drew ?_ | refine blk_alloc ?_ _)); exact BK120.out) hb); have n9_ := Aside0.mk (below_step (B_) hb); clear HO_5; clear HO137; clear HO143; clear BK101; clear BK102; clear BK111; clear BK119; clear BK120; clear HB; have HO_5 := n0_; have HO137 := n1_; have HO143 := n2_; have HO152 := n3_; have BK101 := n4_; have BK102 := n5_; have BK111 := n6_; have BK119 := n7_; have BK120 := n8_; have HB := n9_; clear n0_ n1_ n2_ n3_ n4_ n5_ n6_ n7_ n8_ n9_; (try clear hb); (try clear hb2); (try clear hk); (try clear hi); (try clear ho0); obtain ⟨hcz115_0, hcz115_1, hcz115_2, hfz115_0, hfz115_1, hfz115_2⟩ := cz3 BK120) | ((with_reducible refine gate_callee (f := 30) rfl ?_); refine goesL_ (some 134) rfl rfl Tryd.func30 (by kernel_rfl) rfl #[.agg #[.slice A0_0 l0_0.length c0_0, .int .i64 a0_1, .slice (some ⟨go54, 0, none⟩) y149.length co98]] rfl (by (try simp only [List.map_toArray, List.map_cons, List.map_nil]); first | done | (rw [show y149.length = y141.length from (Kd.R_reads' HO143.out).1.symm] <;> rfl) | rfl | (simp only [List.length_drop, List.length_take]; rfl)) ?_; (with_reducible refine (peel_Best.calls _ _ l0_0 a0_1 _ _ y149 t154 t157 _ ?side1 ?side2 ?side3 ?side4 ?side5 A58.out).mono ?_); (case side1 => exact C_ HR0_0); (case side2 => exact HC0_0.out); (case side3 => repeat (first | exact (Kd.R_reads' HO143.out).2.2 | (with_reducible refine Kd.C_alloc ?_ _) | (with_reducible refine Kd.C_drewN ?_ _) | (with_reducible refine Kd.C_drew ?_))); (case side4 => rw [show y149.length = y141.length from (Kd.R_reads' HO143.out).1.symm]; exact (Kd.R_reads' HO143.out).2.1); (case side5 => exact Go.Proofs.YtigofgdmefobaaaDoor.Peel.EndsAt.below HE.out (B_)); rintro e w116 ⟨v155, rfl, ho0, hb⟩; refine ⟨_, rfl, ?_⟩; have n0_ := Aside0.mk (Kd.V_below (by (with_reducible repeat (first | apply Kd.V_alloc | apply Kd.V_drewN | apply Kd.V_drew)); exact HO_5.out) hb); have n1_ := Aside0.mk (Kd.R_below (R_ HO137) hb); have n2_ := Aside0.mk (Kd.R_below (R_ HO143) hb); have n3_ := Aside0.mk (Kd.V_below (by (with_reducible repeat (first | apply Kd.V_alloc | apply Kd.V_drewN | apply Kd.V_drew)); exact HO152.out) hb); have n4_ := Aside0.mk (Kd.V_lower (Kd.V_mono (ok' := fun k_ => some k_ ≠ (.slice Ao90 y135.length co90 : Value).ownBlock ∧ some k_ ≠ (.slice (some ⟨go54, 0, none⟩) y141.length co98 : Value).ownBlock ∧ k_ ≠ gb101 ∧ k_ ≠ gb102 ∧ k_ ≠ gb111 ∧ k_ ≠ gb119 ∧ k_ ≠ gb120) ho0 (fun k_ hk_ => ⟨(Kd.fresh' (Kd.R_lt (R_ HO137)) k_ hk_), (Kd.fresh' (Kd.R_lt (R_ HO143)) k_ hk_), (Kd.freshB (g := gb101) (o := .cells #[.slice A0_0 l0_0.length c0_0, .int .i64 a0_1, .slice (some ad144) l0_2.length c0_2] 25 (0, 0)) (K_ BK101) k_ hk_), (Kd.freshB (g := gb102) (o := .cells #[.int .i64 a1_0, .int .i64 a1_1, .int .i64 a1_2, .int .i64 a1_3] 58 (0, 0)) (K_ BK102) k_ hk_), (Kd.freshB (g := gb111) (o := .cells #[.slice A0_0 l0_0.length c0_0, .int .i64 ji8, .slice (some ad144) l0_2.length c0_2] 25 (0, 0)) (K_ BK111) k_ hk_), (Kd.freshB (g := gb119) (o := .cells #[.slice A0_0 l0_0.length c0_0, .int .i64 a0_1, .slice Ao90 y135.length co90] 25 (0, 0)) (K_ BK119) k_ hk_), (Kd.freshB (g := gb120) (o := .cells #[.slice A0_0 l0_0.length c0_0, .int .i64 a0_1, .slice (some ⟨go54, 0, none⟩) y141.length co98] 25 (0, 0)) (K_ BK120) k_ hk_)⟩)) (below_size (B_))); have n5_ := Aside0.mk (blk_below (g := gb101) (o := .cells #[.slice A0_0 l0_0.length c0_0, .int .i64 a0_1, .slice (some ad144) l0_2.length c0_2] 25 (0, 0)) (K_ BK101) hb); have n6_ := Aside0.mk (blk_below (g := gb102) (o := .cells #[.int .i64 a1_0, .int .i64 a1_1, .int .i64 a1_2, .int .i64 a1_3] 58 (0, 0)) (K_ BK102) hb); have n7_ := Aside0.mk (blk_below (g := gb111) (o := .cells #[.slice A0_0 l0_0.length c0_0, .int .i64 ji8, .slice (some ad144) l0_2.length c0_2] 25 (0, 0)) (K_ BK111) hb); have n8_ := Aside0.mk (blk_below (g := gb119) (o := .cells #[.slice A0_0 l0_0.length c0_0, .int .i64 a0_1, .slice Ao90 y135.length co90] 25 (0, 0)) (K_ BK119) hb); have n9_ := Aside0.mk (blk_below (g := gb120) (o := .cells #[.slice A0_0 l0_0.length c0_0, .int .i64 a0_1, .slice (some ⟨go54, 0, none⟩) y141.length co98] 25 (0, 0)) (K_ BK120) hb); have n10_ := Aside0.mk (below_step (B_) hb); clear HO_5; clear HO137; clear HO143; clear HO152; clear BK101; clear BK102; clear BK111; clear BK119; clear BK120; clear HB; have HO_5 := n0_; have HO137 := n1_; have HO143 := n2_; have HO152 := n3_; have HO156 := n4_; have BK101 := n5_; have BK102 := n6_; have BK111 := n7_; have BK119 := n8_; have BK120 := n9_; have HB := n10_; clear n0_ n1_ n2_ n3_ n4_ n5_ n6_ n7_ n8_ n9_ n10_; (try clear hb); (try clear hb2); (try clear hk); (try clear hi); (try clear ho0); obtain ⟨hcz117_0, hcz117_1, hcz117_2, hfz117_0, hfz117_1, hfz117_2⟩ := cz3 BK120) | ((with_reducible refine gate_callee (f := 35) rfl ?_); refine goesL_ (some 139) rfl rfl Tryd.func35 (by kernel_rfl) rfl #[.agg #[.slice A0_0 l0_0.length c0_0, .int .i64 a0_1, .slice (some ⟨go54, 0, none⟩) y149.length co98]] rfl (by (try simp only [List.map_toArray, List.map_cons, List.map_nil]); first | done | (rw [show y149.length = y141.length from (Kd.R_reads' HO143.out).1.symm] <;> rfl) | rfl | (simp only [List.length_drop, List.length_take]; rfl)) ?_; (with_reducible refine (peel_Hope.calls _ _ l0_0 a0_1 _ _ y149 t158 t159 _ ?side1 ?side2 ?side3 ?side4 ?side5 A59.out).mono ?_); (case side1 => exact C_ HR0_0); (case side2 => exact HC0_0.out); (case side3 => repeat (first | exact (Kd.R_reads' HO143.out).2.2 | (with_reducible refine Kd.C_alloc ?_ _) | (with_reducible refine Kd.C_drewN ?_ _) | (with_reducible refine Kd.C_drew ?_))); (case side4 => rw [show y149.length = y141.length from (Kd.R_reads' HO143.out).1.symm]; exact (Kd.R_reads' HO143.out).2.1); (case side5 => exact Go.Proofs.YtigofgdmefobaaaDoor.Peel.EndsAt.below HE.out (B_)); rintro e w118 ⟨rfl, hb⟩; refine ⟨_, rfl, ?_⟩; have n0_ := Aside0.mk (Kd.V_below (by (with_reducible repeat (first | apply Kd.V_alloc | apply Kd.V_drewN | apply Kd.V_drew)); exact HO_5.out) hb); have n1_ := Aside0.mk (Kd.R_below (R_ HO137) hb); have n2_ := Aside0.mk (Kd.R_below (R_ HO143) hb); have n3_ := Aside0.mk (Kd.V_below (by (with_reducible repeat (first | apply Kd.V_alloc | apply Kd.V_drewN | apply Kd.V_drew)); exact HO152.out) hb); have n4_ := Aside0.mk (Kd.V_below (by (with_reducible repeat (first | apply Kd.V_alloc | apply Kd.V_drewN | apply Kd.V_drew)); exact HO156.out) hb); have n5_ := Aside0.mk (blk_below (g := gb101) (o := .cells #[.slice A0_0 l0_0.length c0_0, .int .i64 a0_1, .slice (some ad144) l0_2.length c0_2] 25 (0, 0)) (K_ BK101) hb); have n6_ := Aside0.mk (blk_below (g := gb102) (o := .cells #[.int .i64 a1_0, .int .i64 a1_1, .int .i64 a1_2, .int .i64 a1_3] 58 (0, 0)) (K_ BK102) hb); have n7_ := Aside0.mk (blk_below (g := gb111) (o := .cells #[.slice A0_0 l0_0.length c0_0, .int .i64 ji8, .slice (some ad144) l0_2.length c0_2] 25 (0, 0)) (K_ BK111) hb); have n8_ := Aside0.mk (blk_below (g := gb119) (o := .cells #[.slice A0_0 l0_0.length c0_0, .int .i64 a0_1, .slice Ao90 y135.length co90] 25 (0, 0)) (K_ BK119) hb); have n9_ := Aside0.mk (blk_below (g := gb120) (o := .cells #[.slice A0_0 l0_0.length c0_0, .int .i64 a0_1, .slice (some ⟨go54, 0, none⟩) y141.length co98] 25 (0, 0)) (K_ BK120) hb); have n10_ := Aside0.mk (below_step (B_) hb); clear HO_5; clear HO137; clear HO143; clear HO152; clear HO156; clear BK101; clear BK102; clear BK111; clear BK119; clear BK120; clear HB; have HO_5 := n0_; have HO137 := n1_; have HO143 := n2_; have HO152 := n3_; have HO156 := n4_; have BK101 := n5_; have BK102 := n6_; have BK111 := n7_; have BK119 := n8_; have BK120 := n9_; have HB := n10_; clear n0_ n1_ n2_ n3_ n4_ n5_ n6_ n7_ n8_ n9_ n10_; (try clear hb); (try clear hb2); (try clear hk); (try clear hi); obtain ⟨Ao119, co119, eo119⟩ := Kd.V_slice HO152.out; subst eo119; obtain ⟨Ao120, co120, eo120⟩ := Kd.V_slice HO_5.out; subst eo120; obtain ⟨Ao121, co121, eo121⟩ := Kd.V_slice HO156.out; subst eo121) | (go_at_call 23; (with_reducible refine (luciferlaw01_peeled.calls  t160 _ ?side1 A66.out).mono ?_); (case side1 => exact Go.Proofs.YtigofgdmefobaaaDoor.Peel.EndsAt.below HE.out (B_)); rintro e w122 ⟨rfl, hb⟩; have n0_ := Aside0.mk (Kd.V_below (by (with_reducible repeat (first | apply Kd.V_alloc | apply Kd.V_drewN | apply Kd.V_drew)); exact HO_5.out) hb); have n1_ := Aside0.mk (Kd.R_below (R_ HO137) hb); have n2_ := Aside0.mk (Kd.R_below (R_ HO143) hb); have n3_ := Aside0.mk (Kd.V_below (by (with_reducible repeat (first | apply Kd.V_alloc | apply Kd.V_drewN | apply Kd.V_drew)); exact HO152.out) hb); have n4_ := Aside0.mk (Kd.V_below (by (with_reducible repeat (first | apply Kd.V_alloc | apply Kd.V_drewN | apply Kd.V_drew)); exact HO156.out) hb); have n5_ := Aside0.mk (blk_below (g := gb101) (o := .cells #[.slice A0_0 l0_0.length c0_0, .int .i64 a0_1, .slice (some ad144) l0_2.length c0_2] 25 (0, 0)) (K_ BK101) hb); have n6_ := Aside0.mk (blk_below (g := gb102) (o := .cells #[.int .i64 a1_0, .int .i64 a1_1, .int .i64 a1_2, .int .i64 a1_3] 58 (0, 0)) (K_ BK102) hb); have n7_ := Aside0.mk (blk_below (g := gb111) (o := .cells #[.slice A0_0 l0_0.length c0_0, .int .i64 ji8, .slice (some ad144) l0_2.length c0_2] 25 (0, 0)) (K_ BK111) hb); have n8_ := Aside0.mk (blk_below (g := gb119) (o := .cells #[.slice A0_0 l0_0.length c0_0, .int .i64 a0_1, .slice Ao90 y135.length co90] 25 (0, 0)) (K_ BK119) hb); have n9_ := Aside0.mk (blk_below (g := gb120) (o := .cells #[.slice A0_0 l0_0.length c0_0, .int .i64 a0_1, .slice (some ⟨go54, 0, none⟩) y141.length co98] 25 (0, 0)) (K_ BK120) hb); have n10_ := Aside0.mk (below_step (B_) hb); clear HO_5; clear HO137; clear HO143; clear HO152; clear HO156; clear BK101; clear BK102; clear BK111; clear BK119; clear BK120; clear HB; have HO_5 := n0_; have HO137 := n1_; have HO143 := n2_; have HO152 := n3_; have HO156 := n4_; have BK101 := n5_; have BK102 := n6_; have BK111 := n7_; have BK119 := n8_; have BK120 := n9_; have HB := n10_; clear n0_ n1_ n2_ n3_ n4_ n5_ n6_ n7_ n8_ n9_ n10_; (try clear hb); (try clear hb2); (try clear hk); (try clear hi)))
                                          go_ret
                                          exact ⟨by first | rfl | (simp [errW_none, errW_some] <;> rfl) | (simp only [← hji8, ← hji46]; first | rfl | (simp [errW_none, errW_some] <;> rfl)) | (simp [*, errW_none, errW_some] <;> rfl), B_⟩
                                        · rw [if_neg c65] at H
                                          have c65b0 : decide (t158 ≤ t109) = false := decide_eq_false c65
                                          clear c65
                                          exact absurd (Option.some.inj H) (by rw [hT]; decide)
                                      · rw [if_neg c64] at H
                                        have c64b0 : decide ((t105.length : Int) ≤ (t154.length : Int)) = false := decide_eq_false c64
                                        have c64b1 : decide (t105.length ≤ t154.length) = false := decide_eq_false (fun h => c64 (Int.ofNat_le.mpr h))
                                        clear c64
                                        exact absurd (Option.some.inj H) (by rw [hT]; decide)
                                    · rw [if_neg c63] at H
                                      have c63b0 : decide ((t105.length : Int) ≤ (t150.length : Int)) = false := decide_eq_false c63
                                      have c63b1 : decide (t105.length ≤ t150.length) = false := decide_eq_false (fun h => c63 (Int.ofNat_le.mpr h))
                                      clear c63
                                      exact absurd (Option.some.inj H) (by rw [hT]; decide)
                                  · rw [if_neg c62] at H
                                    have c62b0 : (t159 == 0) = false := beq_eq_false_iff_ne.mpr c62
                                    have c62b1 : (t159 != 0) = true := bne_iff_ne.mpr c62
                                    exact absurd (Option.some.inj H) (by rw [hT]; decide)
                                · rw [if_neg c61] at H
                                  have c61b0 : (t157 == 0) = false := beq_eq_false_iff_ne.mpr c61
                                  have c61b1 : (t157 != 0) = true := bne_iff_ne.mpr c61
                                  exact absurd (Option.some.inj H) (by rw [hT]; decide)
                              · rw [if_neg c60] at H
                                have c60b0 : (t153 == 0) = false := beq_eq_false_iff_ne.mpr c60
                                have c60b1 : (t153 != 0) = true := bne_iff_ne.mpr c60
                                exact absurd (Option.some.inj H) (by rw [hT]; decide)
                            · rw [if_neg c53] at H
                              exact absurd H (by simp)
                          · rw [if_neg c51] at H
                            exact absurd H (by simp)
                        · rw [if_neg c50] at H
                          exact absurd H (by simp)
                      · rw [if_neg c49] at H
                        exact absurd H (by simp)
                    · rw [if_neg c48] at H
                      exact absurd H (by simp)
                  · rw [if_neg c47] at H
                    exact absurd H (by simp)
                · rw [if_neg c45] at H
                  exact absurd H (by simp)
              · rw [if_neg c44] at H
                exact absurd H (by simp)
            · rw [if_neg c43] at H
              exact absurd H (by simp)
  · replace c4 := Bool.eq_false_iff.mpr c4
    subst c4
    have H1 : ((luciferlaw01_peeled.f).bind fun t104 => (some t104)) = some r := by rw [if_neg (show ¬ (false = true) by decide)] at H; exact H
    clear H
    have H := H1
    clear H1
    replace H := Option.bind_eq_some_iff.mp H
    obtain ⟨t104, A1230, H⟩ := H
    replace H : (some t104) = some r := H
    have A123 := Aside0.mk A1230
    clear A1230
    obtain rfl := Option.some.inj H
    go_enter Tryd.func10, Tryd.ntmps10
    go_wp2_with (first | ((with_reducible refine gate_dst (N := 2) rfl ?_); refine box_event ?hg (N := 2) ?hd (cs := #[.slice A0_0 l0_0.length c0_0, .int .i64 a0_1, .slice A0_2 l0_2.length c0_2]) (t := 25) ?hr ?_; (case hd => rfl); (case hg => rfl); (case hr => first | (go_simp; done) | (go_simp; rfl)); intro gb101 hg w124 hbox hb; have n0_ := Aside0.mk (below_step (B_) hb); have n1_ := Aside0.mk (hbox); have n2_ := Aside0.mk ((by rw [hg]; exact (below_size (B_)) : w.heap.size ≤ gb101)); have n3_ := Aside0.mk ((by rw [hg]; exact (below_size (B_)) : w.heap.size ≤ gb101)); clear HB; have HB := n0_; have BK101 := n1_; have GW101 := n2_; have GE101 := n3_; clear n0_ n1_ n2_ n3_; clear hb hbox hg) | ((with_reducible refine gate_dst (N := 3) rfl ?_); refine box_event ?hg (N := 3) ?hd (cs := #[.int .i64 a1_0, .int .i64 a1_1, .int .i64 a1_2, .int .i64 a1_3]) (t := 58) ?hr ?_; (case hd => rfl); (case hg => rfl); (case hr => first | (go_simp; done) | (go_simp; rfl)); intro gb102 hg w125 hbox hb; have n0_ := Aside0.mk (blk_below (g := gb101) (o := .cells #[.slice A0_0 l0_0.length c0_0, .int .i64 a0_1, .slice A0_2 l0_2.length c0_2] 25 (0, 0)) (K_ BK101) hb); have n1_ := Aside0.mk (below_step (B_) hb); have n2_ := Aside0.mk (hbox); have n3_ := Aside0.mk ((by rw [hg]; exact (below_size (B_)) : w.heap.size ≤ gb102)); have n4_ := Aside0.mk ((by rw [hg]; exact (below_size (B_)) : w.heap.size ≤ gb102)); have n5_ := Aside0.mk ((by rw [hg]; exact Nat.ne_of_lt (blk_lt (g := gb101) (o := .cells #[.slice A0_0 l0_0.length c0_0, .int .i64 a0_1, .slice A0_2 l0_2.length c0_2] 25 (0, 0)) (K_ BK101)) : gb101 ≠ gb102)); have n6_ := Aside0.mk ((by rw [hg]; exact Nat.ne_of_gt (blk_lt (g := gb101) (o := .cells #[.slice A0_0 l0_0.length c0_0, .int .i64 a0_1, .slice A0_2 l0_2.length c0_2] 25 (0, 0)) (K_ BK101)) : gb102 ≠ gb101)); clear BK101; clear HB; have BK101 := n0_; have HB := n1_; have BK102 := n2_; have GW102 := n3_; have GE102 := n4_; have NB101_102 := n5_; have NB102_101 := n6_; clear n0_ n1_ n2_ n3_ n4_ n5_ n6_; clear hb hbox hg; have hnb126 := NB101_102.out; have hnc126 := NB102_101.out; obtain ⟨hcz127_0, hcz127_1, hcz127_2, hfz127_0, hfz127_1, hfz127_2⟩ := cz3 BK101) | ((with_reducible refine gate_callee (f := 39) rfl ?_); refine goesL_ (some 21) rfl rfl Tryd.func39 (by kernel_rfl) rfl #[.agg #[.slice A0_0 l0_0.length c0_0, .int .i64 a0_1, .slice A0_2 l0_2.length c0_2]] rfl (by (try simp only [List.map_toArray, List.map_cons, List.map_nil]); first | done | rfl | (simp only [List.length_drop, List.length_take]; rfl)) ?_; (with_reducible refine (luciferlaw01_sound.calls k _ _ l0_0 a0_1 _ _ l0_2 false _ ?side1 ?side2 ?side3 ?side4 A3.out).mono ?_); (case side1 => exact C_ HR0_0); (case side2 => exact HC0_0.out); (case side3 => exact C_ HR0_2); (case side4 => exact HC0_2.out); rintro e w128 ⟨rfl, hb⟩; refine ⟨_, rfl, ?_⟩; have n0_ := Aside0.mk (blk_below (g := gb101) (o := .cells #[.slice A0_0 l0_0.length c0_0, .int .i64 a0_1, .slice A0_2 l0_2.length c0_2] 25 (0, 0)) (K_ BK101) hb); have n1_ := Aside0.mk (blk_below (g := gb102) (o := .cells #[.int .i64 a1_0, .int .i64 a1_1, .int .i64 a1_2, .int .i64 a1_3] 58 (0, 0)) (K_ BK102) hb); have n2_ := Aside0.mk (below_step (B_) hb); clear BK101; clear BK102; clear HB; have BK101 := n0_; have BK102 := n1_; have HB := n2_; clear n0_ n1_ n2_; (try clear hb); (try clear hb2); (try clear hk); (try clear hi)) | ((with_reducible refine gate_callee (f := 23) rfl ?_); refine goesL_ (some 23) rfl rfl Tryd.func23 (by kernel_rfl) rfl #[] rfl (by (try simp only [List.map_toArray, List.map_cons, List.map_nil]); first | done | rfl | (simp only [List.length_drop, List.length_take]; rfl)) ?_; (with_reducible refine (luciferlaw01_peeled.calls  t104 _ ?side1 A123.out).mono ?_); (case side1 => exact Go.Proofs.YtigofgdmefobaaaDoor.Peel.EndsAt.below HE.out (B_)); rintro e w129 ⟨rfl, hb⟩; refine ⟨_, rfl, ?_⟩; have n0_ := Aside0.mk (blk_below (g := gb101) (o := .cells #[.slice A0_0 l0_0.length c0_0, .int .i64 a0_1, .slice A0_2 l0_2.length c0_2] 25 (0, 0)) (K_ BK101) hb); have n1_ := Aside0.mk (blk_below (g := gb102) (o := .cells #[.int .i64 a1_0, .int .i64 a1_1, .int .i64 a1_2, .int .i64 a1_3] 58 (0, 0)) (K_ BK102) hb); have n2_ := Aside0.mk (below_step (B_) hb); clear BK101; clear BK102; clear HB; have BK101 := n0_; have BK102 := n1_; have HB := n2_; clear n0_ n1_ n2_; (try clear hb); (try clear hb2); (try clear hk); (try clear hi)))
    go_ret
    exact ⟨by first | rfl | (simp [errW_none, errW_some] <;> rfl) | (simp [*, errW_none, errW_some] <;> rfl), B_⟩

end Go.Proofs.YtigofgdmefobaaaDoor.PP
