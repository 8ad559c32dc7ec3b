-- Printed by a program of this session (the kit's print over contracts of ours for functions that it does not take).
import Derived.Test.YtigofgdmefobaaaDoorPPx0
import Derived.Test.YtigofgdmefobaaaDoorPPxf47
import Derived.Test.YtigofgdmefobaaaDoorPPxf83
import Derived.Test.YtigofgdmefobaaaDoorPPxf95
namespace Go.Proofs.YtigofgdmefobaaaDoor.PP
open Go.RowKit Go.Proofs.YtigofgdmefobaaaDoorW.PrintWords Go.Proofs.YtigofgdmefobaaaDoorW.PrintLast Go.Proofs.YtigofgdmefobaaaDoorW.PrintMore
attribute [local go_sem] max2_int min2_int max_two min_two max_three min_three max_four min_four   -- for this text's walks alone
set_option linter.unusedVariables false
set_option linter.unusedSimpArgs false

/-! ### luciferref01_some: function 76 -/
mutual
def luciferref01_some.l0 : Nat → List Bool → Int → List Int → Int → List (S61) → Option (List Bool)
  | 0, _, _, _, _, _ => none
  | k + 1, x3, x4, x102000, x102001, x102002 => if x4 < (x102002.length : Int) then (if 0 ≤ x4 then ((luciferref01_places.f k ((rd_T61 x102002 x4).f0.f0) ((rd_T61 x102002 x4).f0.f1) ((rd_T61 x102002 x4).f1.f0) ((rd_T61 x102002 x4).f1.f1)).bind fun t107 => (luciferref01_some.l1 k x3 x4 t107 0 x102000 x102001 x102002)) else (none)) else (some x3)
def luciferref01_some.l1 : Nat → List Bool → Int → List (S108) → Int → List Int → Int → List (S61) → Option (List Bool)
  | 0, _, _, _, _, _, _, _ => none
  | k + 1, x3, x4, x5, x6, x102000, x102001, x102002 => if x6 < (x5.length : Int) then (if 0 ≤ x6 then ((luciferref01_mark.f k x102000 x102001 x102002 x3 ((rd_T108 x5 x6).f0) ((rd_T108 x5 x6).f1)).bind fun t111 => (luciferref01_some.l1 k t111 x4 x5 (wrap64 (x6 + 1)) x102000 x102001 x102002)) else (none)) else (luciferref01_some.l0 k x3 (wrap64 (x4 + 1)) x102000 x102001 x102002)
end
def luciferref01_some.f (k : Nat) (l0_0 : List Int) (a0_1 : Int) (l0_2 : List (S61)) : Option (List Bool) := (luciferref00_Total.f k l0_0).bind fun t102 => (if 0 ≤ t102 then (if (t102 : Int).toNat ≤ 281474976710656 then (luciferref01_some.l0 k (List.replicate (t102 : Int).toNat false) 0 l0_0 a0_1 l0_2) else (none)) else (none))
theorem luciferref01_some.mono_l : ∀ k, (∀ y0 y1 y2 y3 y4, LeO (luciferref01_some.l0 k y0 y1 y2 y3 y4) (luciferref01_some.l0 (k + 1) y0 y1 y2 y3 y4)) ∧ (∀ y0 y1 y2 y3 y4 y5 y6, LeO (luciferref01_some.l1 k y0 y1 y2 y3 y4 y5 y6) (luciferref01_some.l1 (k + 1) y0 y1 y2 y3 y4 y5 y6))
  | 0 => ⟨fun _ _ _ _ _ r h => by simp [luciferref01_some.l0] at h, fun _ _ _ _ _ _ _ r h => by simp [luciferref01_some.l1] at h⟩
  | k + 1 => by
    obtain ⟨ih0, ih1⟩ := luciferref01_some.mono_l k
    refine ⟨?_, ?_⟩
    · intro y0 y1 y2 y3 y4
      unfold luciferref01_some.l0
      repeat' first
      | (with_reducible exact ih0 _ _ _ _ _)
      | (with_reducible exact ih1 _ _ _ _ _ _ _)
      | (with_reducible exact luciferref00_Total.mono _ _)
      | (with_reducible exact luciferref01_mark.mono _ _ _ _ _ _ _)
      | (with_reducible exact luciferref01_places.mono _ _ _ _ _)
      | (with_reducible exact LeO.refl _)
      | (with_reducible exact LeO.none _)
      | (with_reducible refine LeO.ite ?_ ?_)
      | (with_reducible refine LeO.bind ?_ (fun _ => ?_))
      | exact ih0 _ _ _ _ _
      | exact ih1 _ _ _ _ _ _ _
      | exact luciferref00_Total.mono _ _
      | exact luciferref01_mark.mono _ _ _ _ _ _ _
      | exact luciferref01_places.mono _ _ _ _ _
      | exact LeO.none _
      | refine LeO.ite ?_ ?_
      | refine LeO.bind ?_ (fun _ => ?_)
    · intro y0 y1 y2 y3 y4 y5 y6
      unfold luciferref01_some.l1
      repeat' first
      | (with_reducible exact ih0 _ _ _ _ _)
      | (with_reducible exact ih1 _ _ _ _ _ _ _)
      | (with_reducible exact luciferref00_Total.mono _ _)
      | (with_reducible exact luciferref01_mark.mono _ _ _ _ _ _ _)
      | (with_reducible exact luciferref01_places.mono _ _ _ _ _)
      | (with_reducible exact LeO.refl _)
      | (with_reducible exact LeO.none _)
      | (with_reducible refine LeO.ite ?_ ?_)
      | (with_reducible refine LeO.bind ?_ (fun _ => ?_))
      | exact ih0 _ _ _ _ _
      | exact ih1 _ _ _ _ _ _ _
      | exact luciferref00_Total.mono _ _
      | exact luciferref01_mark.mono _ _ _ _ _ _ _
      | exact luciferref01_places.mono _ _ _ _ _
      | exact LeO.none _
      | refine LeO.ite ?_ ?_
      | refine LeO.bind ?_ (fun _ => ?_)
theorem luciferref01_some.mono : ∀ a0 a1 a2 k, LeO (luciferref01_some.f k a0 a1 a2) (luciferref01_some.f (k + 1) a0 a1 a2) := by
  intro a0 a1 a2 k
  obtain ⟨ih0, ih1⟩ := luciferref01_some.mono_l k
  unfold luciferref01_some.f
  repeat' first
      | (with_reducible exact ih0 _ _ _ _ _)
      | (with_reducible exact ih1 _ _ _ _ _ _ _)
      | (with_reducible exact luciferref00_Total.mono _ _)
      | (with_reducible exact luciferref01_mark.mono _ _ _ _ _ _ _)
      | (with_reducible exact luciferref01_places.mono _ _ _ _ _)
      | (with_reducible exact LeO.refl _)
      | (with_reducible exact LeO.none _)
      | (with_reducible refine LeO.ite ?_ ?_)
      | (with_reducible refine LeO.bind ?_ (fun _ => ?_))
      | exact ih0 _ _ _ _ _
      | exact ih1 _ _ _ _ _ _ _
      | exact luciferref00_Total.mono _ _
      | exact luciferref01_mark.mono _ _ _ _ _ _ _
      | exact luciferref01_places.mono _ _ _ _ _
      | exact LeO.none _
      | refine LeO.ite ?_ ?_
      | refine LeO.bind ?_ (fun _ => ?_)
def luciferref01_some.T9 : Bool × List (List Nat × List Nat) := (true, [([], []), ([], []), ([], []), ([], []), ([2, 3], [2, 3]), ([4], [4]), ([0, 1, 5], [0, 1, 5]), ([6, 6, 0, 1, 2, 3, 4, 5, 6], [1, 6])])
def luciferref01_some.B9 : List Nat := [0, 0, 0, 0, 12, 28, 63, 127]
theorem luciferref01_some.tab9 : rtab .any (opsOf Tryd.f76 9) = luciferref01_some.T9 := by kernel_rfl
theorem luciferref01_some.bits9 : waitsOk luciferref01_some.T9.2 luciferref01_some.B9 = true := by kernel_rfl
set_option maxHeartbeats 8000000 in
set_option maxRecDepth 100000 in
theorem luciferref01_some.calls (k : Nat) (A0_0 : Option Addr) (c0_0 : Nat) (l0_0 : List Int) (a0_1 : Int) (A0_2 : Option Addr) (c0_2 : Nat) (l0_2 : List (S61)) (r : List Bool) (w : World) (hr0_0 : Kd.C (Kd.int .i64) w A0_0 l0_0.length l0_0) (hc0_0 : l0_0.length ≤ c0_0) (hr0_2 : Kd.C k61 w A0_2 l0_2.length l0_2) (hc0_2 : l0_2.length ≤ c0_2) (h : luciferref01_some.f k l0_0 a0_1 l0_2 = some r) :
    Calls Tryd.prog 76 #[.agg #[.slice A0_0 l0_0.length c0_0, .int .i64 a0_1, .slice A0_2 l0_2.length c0_2]] w fun e w' => ∃ v0_ : Value, e = .returned (v0_) ∧ Kd.R Kd.bool 4 w' w.heap.size (fun _ => True) v0_ r ∧ Below w.heap.size w w' := by
  have hu25 := Tryd.underlying25
  have hu61 := Tryd.underlying61
  have hu108 := Tryd.underlying108
  have HR0_0 := Aside0.mk hr0_0
  have HC0_0 := Aside0.mk hc0_0
  clear hr0_0 hc0_0
  have HR0_2 := Aside0.mk hr0_2
  have HC0_2 := Aside0.mk hc0_2
  clear hr0_2 hc0_2
  have HB := Aside0.mk (Below.refl w.heap.size w)
  have H : ((luciferref00_Total.f k l0_0).bind fun t102 => (if 0 ≤ t102 then (if (t102 : Int).toNat ≤ 281474976710656 then (luciferref01_some.l0 k (List.replicate (t102 : Int).toNat false) 0 l0_0 a0_1 l0_2) else (none)) else (none))) = some r := h
  clear h
  replace H := Option.bind_eq_some_iff.mp H
  obtain ⟨t102, A20, H⟩ := H
  replace H : (if 0 ≤ t102 then (if (t102 : Int).toNat ≤ 281474976710656 then (luciferref01_some.l0 k (List.replicate (t102 : Int).toNat false) 0 l0_0 a0_1 l0_2) else (none)) else (none)) = some r := H
  have A2 := Aside0.mk A20
  clear A20
  by_cases c3 : 0 ≤ t102
  · rw [if_pos c3] at H
    have c3b0 := eq_true c3
    have c3b1 : decide (0 ≤ t102) = true := decide_eq_true c3
    clear c3
    by_cases c4 : (t102 : Int).toNat ≤ 281474976710656
    · rw [if_pos c4] at H
      have c4b0 := eq_true c4
      have c4b1 : decide ((t102 : Int).toNat ≤ 281474976710656) = true := decide_eq_true c4
      clear c4
      obtain ⟨y103, hy103⟩ : ∃ y_ : List Bool, y_ = (List.replicate (t102 : Int).toNat false) := ⟨_, rfl⟩
      replace H : (luciferref01_some.l0 k y103 0 l0_0 a0_1 l0_2) = some r := by first | (rw [hy103]; with_reducible exact H) | (have H2_ := (Option.bind_some _ _).symm.trans H; rw [hy103]; with_reducible exact H2_) | (have H2_ := (Option.bind_some _ _).symm.trans H; with_reducible exact H2_) | with_reducible exact H | (rw [hy103]; exact H) | exact H
      have Ny103 := Aside0.mk hy103
      clear hy103
      have H' := Aside0.mk H
      clear H
      go_enter Tryd.func76, Tryd.ntmps76
      go_wp2_with (first | ((with_reducible refine gate_dst (N := 1) rfl ?_); refine box_event ?hg (N := 1) ?hd (cs := #[.slice A0_0 l0_0.length c0_0, .int .i64 a0_1, .slice A0_2 l0_2.length c0_2]) (t := 25) ?hr ?_; (case hd => rfl); (case hg => rfl); (case hr => first | (go_simp; done) | (go_simp; rfl)); intro gb101 hg w5 hbox hb; have n0_ := Aside0.mk (below_step (B_) hb); have n1_ := Aside0.mk (hbox); have n2_ := Aside0.mk ((by rw [hg]; exact (below_size (B_)) : w.heap.size ≤ gb101)); have n3_ := Aside0.mk ((by rw [hg]; exact (below_size (B_)) : w.heap.size ≤ gb101)); clear HB; have HB := n0_; have BK101 := n1_; have GW101 := n2_; have GE101 := n3_; clear n0_ n1_ n2_ n3_; clear hb hbox hg; obtain ⟨hcz6_0, hcz6_1, hcz6_2, hfz6_0, hfz6_1, hfz6_2⟩ := cz3 BK101) | ((with_reducible refine gate_callee (f := 47) rfl ?_); refine goesL_ (some 9) rfl rfl Tryd.func47 (by kernel_rfl) rfl #[.slice A0_0 l0_0.length c0_0] rfl (by (try simp only [List.map_toArray, List.map_cons, List.map_nil]); first | done | rfl | (simp only [List.length_drop, List.length_take]; rfl)) ?_; (with_reducible refine (luciferref00_Total.calls k _ _ l0_0 t102 _ ?side1 ?side2 A2.out).mono ?_); (case side1 => exact C_ HR0_0); (case side2 => exact HC0_0.out); rintro e w' ⟨rfl, ⟨nd, rfl⟩⟩; refine ⟨_, rfl, ?_⟩) | ((with_reducible refine gate_dst (N := 10) rfl ?_); refine Kd.R_make Kd.bool _ 4 rfl (N := 10) rfl 47 _ _ rfl t102 rfl rfl Tryd.underlying47 (.bool false) 1 info4 rfl (by decide) (by omega) false (ok := fun _ => True) (okp := fun _ => True) rfl (fun _ hk => hk) trivial (of_decide_eq_true D_) (Nat.le_trans (Nat.mul_le_mul_right _ (of_decide_eq_true D_ : t102.toNat ≤ 281474976710656)) (by omega)) (Below.refl _ _) (Nat.le_refl _) ?_; intro v104 w7 ho8 hb hg_ hnew_; clear hg_ hnew_; (first | rw [← Ny103.out] at ho8 | (simp only [Int.reduceToNat] at ho8; rw [← Ny103.out] at ho8)); have n0_ := Aside0.mk (Kd.R_lower ho8 (below_size (B_))); have n1_ := Aside0.mk (blk_below (g := gb101) (o := .cells #[.slice A0_0 l0_0.length c0_0, .int .i64 a0_1, .slice A0_2 l0_2.length c0_2] 25 (0, 0)) (K_ BK101) hb); have n2_ := Aside0.mk (below_step (B_) hb); clear BK101; clear HB; have HO105 := n0_; have BK101 := n1_; have HB := n2_; clear n0_ n1_ n2_; clear hb ho8))
      go_loopg [3, 4] k (fun kq v3 v4 w' => ∃ (x3_1 : List Bool) (x4_1 : Int), v4 = .int .i64 x4_1 ∧ Aside0 (luciferref01_some.l0 kq x3_1 x4_1 l0_0 a0_1 l0_2 = some r) ∧ Aside0 (kq ≤ k) ∧ Aside0 (Kd.R Kd.bool 4 w' w.heap.size (fun _ => True) v3 x3_1) ∧ Aside0 (w'.heap[gb101]? = some (.cells #[(.slice A0_0 l0_0.length c0_0), .int .i64 a0_1, (.slice A0_2 l0_2.length c0_2)] 25 (0, 0))) ∧ Aside0 (Below w.heap.size w w'))
      case atStart => exact ⟨(y103), (0), S_, H', ⟨Nat.le_refl _⟩, ⟨R_ HO105⟩, ⟨K_ BK101⟩, ⟨B_⟩⟩
      case round =>
        clear H'
        try clear p2; try clear c3; try clear c3b0; try clear c3b1; try clear c4; try clear c4b0; try clear c4b1; try clear c7; try clear hcz6_0; try clear hcz6_1; try clear hcz6_2; try clear hfz6_0; try clear hfz6_1; try clear hfz6_2
        obtain ⟨x3_1, x4_1, rfl, HA, HK1, HO_3, BK101, HB⟩ := hrel
        cases gk with
        | zero => exact absurd HA.out (by simp [luciferref01_some.l0])
        | succ k1 =>
          have H := HA.out
          clear HA
          simp only [luciferref01_some.l0] at H
          by_cases c9 : x4_1 < (l0_2.length : Int)
          · rw [if_pos c9] at H
            have c9b0 : decide (x4_1 < (l0_2.length : Int)) = true := decide_eq_true c9
            clear c9
            by_cases c10 : 0 ≤ x4_1
            · rw [if_pos c10] at H
              have c10b0 : decide (0 ≤ x4_1) = true := decide_eq_true c10
              clear c10
              replace H := Option.bind_eq_some_iff.mp H
              obtain ⟨t107, A110, H⟩ := H
              replace H : (luciferref01_some.l1 k1 x3_1 x4_1 t107 0 l0_0 a0_1 l0_2) = some r := H
              have A11 := Aside0.mk A110
              clear A110
              have H' := Aside0.mk H
              clear H
              obtain ⟨hcz12_0, hcz12_1, hcz12_2, hfz12_0, hfz12_1, hfz12_2⟩ := cz3 BK101
              have p106 : 0 ≤ (x4_1 : Int) := of_decide_eq_true D_
              have q106 : x4_1 < (l0_2.length : Int) := of_decide_eq_true D_
              obtain ⟨ad106, e106, hx106_0, hx106_1, hx106_2, hx106_3⟩ := at_T61 HR0_2.out x4_1 p106 q106
              cases e106
              replace hx106_0 := (HB.out.cell (World.block_lt_of_cell? w _ hx106_0)).trans hx106_0
              replace hx106_1 := (HB.out.cell (World.block_lt_of_cell? w _ hx106_1)).trans hx106_1
              replace hx106_2 := (HB.out.cell (World.block_lt_of_cell? w _ hx106_2)).trans hx106_2
              replace hx106_3 := (HB.out.cell (World.block_lt_of_cell? w _ hx106_3)).trans hx106_3
              replace p106 := eq_true p106
              replace q106 := eq_true q106
              go_wp2_with (first | ((with_reducible refine gate_callee (f := 83) rfl ?_); refine goesL_ (some 23) rfl rfl Tryd.func83 (by kernel_rfl) rfl #[.agg #[.int .i64 ((rd_T61 l0_2 x4_1).f0.f0), .int .i64 ((rd_T61 l0_2 x4_1).f0.f1), .int .i64 ((rd_T61 l0_2 x4_1).f1.f0), .int .i64 ((rd_T61 l0_2 x4_1).f1.f1)]] rfl (by (try simp only [List.map_toArray, List.map_cons, List.map_nil]); first | done | rfl | (simp only [List.length_drop, List.length_take]; rfl)) ?_; (with_reducible refine (luciferref01_places.calls k1 ((rd_T61 l0_2 x4_1).f0.f0) ((rd_T61 l0_2 x4_1).f0.f1) ((rd_T61 l0_2 x4_1).f1.f0) ((rd_T61 l0_2 x4_1).f1.f1) t107 _ A11.out).mono ?_); rintro e w13 ⟨v108, rfl, ho0, hb⟩; refine ⟨_, rfl, ?_⟩; have n0_ := Aside0.mk (Kd.R_below (R_ HO_3) hb); have n1_ := Aside0.mk (Kd.R_lower ho0 (below_size (B_))); have n2_ := Aside0.mk (blk_below (g := gb101) (o := .cells #[.slice A0_0 l0_0.length c0_0, .int .i64 a0_1, .slice (some ad106) l0_2.length c0_2] 25 (0, 0)) (K_ BK101) hb); have n3_ := Aside0.mk (below_step (B_) hb); clear HO_3; clear BK101; clear HB; have HO_3 := n0_; have HO109 := n1_; have BK101 := n2_; have HB := n3_; clear n0_ n1_ n2_ n3_; (try clear hb); (try clear hb2); (try clear hk); (try clear hi); (try clear ho0)))
              go_loopg [3, 6] k1 (fun kq v3 v6 w' => ∃ (x3_2 : List Bool) (x6_2 : Int), v6 = .int .i64 x6_2 ∧ Aside0 (luciferref01_some.l1 kq x3_2 x4_1 t107 x6_2 l0_0 a0_1 l0_2 = some r) ∧ Aside0 (kq ≤ k1) ∧ Aside0 (Kd.R Kd.bool 4 w' w.heap.size (fun _ => True) v3 x3_2) ∧ Aside0 (Kd.R k108 108 w' w.heap.size (fun _ => True) v108 t107) ∧ Aside0 (w'.heap[gb101]? = some (.cells #[(.slice A0_0 l0_0.length c0_0), .int .i64 a0_1, (.slice (some ad106) l0_2.length c0_2)] 25 (0, 0))) ∧ Aside0 (Below w.heap.size w w'))
              case atStart => exact ⟨(x3_1), (0), S_, H', ⟨Nat.le_refl _⟩, ⟨R_ HO_3⟩, ⟨R_ HO109⟩, ⟨K_ BK101⟩, ⟨B_⟩⟩
              case round =>
                clear H'
                try clear c1; try clear p1; try clear q1; try clear hx1; try clear p2; try clear c3; try clear c3b0; try clear c3b1; try clear c4; try clear c4b0; try clear c4b1; try clear c7; try clear c8; try clear c9; try clear c9b0; try clear c10; try clear c10b0; try clear p10; try clear q10; try clear hx10; try clear hcz12_0; try clear hcz12_1; try clear hcz12_2; try clear hcz6_0; try clear hcz6_1; try clear hcz6_2; try clear hfz12_0; try clear hfz12_1; try clear hfz12_2; try clear hfz6_0; try clear hfz6_1; try clear hfz6_2; try clear hx106_0; try clear hx106_1; try clear hx106_2; try clear hx106_3; try clear p106; try clear p2; try clear q106
                obtain ⟨x3_2, x6_2, rfl, HA, HK2, HO_3, HO_5, BK101, HB⟩ := hrel
                cases gk with
                | zero => exact absurd HA.out (by simp [luciferref01_some.l1])
                | succ k2 =>
                  have H := HA.out
                  clear HA
                  simp only [luciferref01_some.l1] at H
                  by_cases c14 : x6_2 < (t107.length : Int)
                  · rw [if_pos c14] at H
                    have c14b0 : decide (x6_2 < (t107.length : Int)) = true := decide_eq_true c14
                    clear c14
                    by_cases c15 : 0 ≤ x6_2
                    · rw [if_pos c15] at H
                      have c15b0 : decide (0 ≤ x6_2) = true := decide_eq_true c15
                      clear c15
                      replace H := Option.bind_eq_some_iff.mp H
                      obtain ⟨t111, A160, H⟩ := H
                      replace H : (luciferref01_some.l1 k2 t111 x4_1 t107 (wrap64 (x6_2 + 1)) l0_0 a0_1 l0_2) = some r := H
                      have A16 := Aside0.mk A160
                      clear A160
                      have H' := Aside0.mk H
                      clear H
                      obtain ⟨Ao17, co17, eo17⟩ := Kd.R_slice HO_5.out
                      subst eo17
                      try go_wp2
                      have n0_ := Aside0.mk (Kd.R_drew HO_3.out)
                      have n1_ := Aside0.mk (Kd.R_drew HO_5.out)
                      have n2_ := Aside0.mk (blk_drew BK101.out)
                      have n3_ := Aside0.mk (below_drew1 HB.out)
                      clear HO_3
                      clear HO_5
                      clear BK101
                      clear HB
                      have HO_3 := n0_
                      have HO_5 := n1_
                      have BK101 := n2_
                      have HB := n3_
                      clear n0_ n1_ n2_ n3_
                      have p110 : 0 ≤ (x6_2 : Int) := of_decide_eq_true D_
                      have q110 : x6_2 < (t107.length : Int) := of_decide_eq_true D_
                      obtain ⟨ad110, e110, hx110_0, hx110_1⟩ := at_T108 (Kd.R_reads' HO_5.out).2.2 x6_2 p110 q110
                      cases e110
                      replace p110 := eq_true p110
                      replace q110 := eq_true q110
                      obtain ⟨Ao19, co19, eo19⟩ := Kd.R_slice HO_3.out
                      (first | subst eo19 | (injection eo19 with f1_ f2_ f3_; have f4_ := f1_.symm; have f5_ := f3_.symm; clear f1_ f2_ f3_; subst f4_; subst f5_))
                      refine start_ (n := 8) (S := fun w' => w'.cell? ⟨gb101, 0, none⟩ = some (.slice A0_0 l0_0.length c0_0) ∧ w'.cell? ⟨gb101, 1, none⟩ = some (.int .i64 a0_1) ∧ w'.cell? ⟨gb101, 2, none⟩ = some (.slice (some ad106) l0_2.length c0_2) ∧ w'.cell? (ad110.add ((x6_2).toNat * 2)) = some (.int .i64 ((rd_T108 t107 x6_2).f0)) ∧ w'.cell? ⟨(ad110.add ((x6_2).toNat * 2)).block, (ad110.add ((x6_2).toNat * 2)).off + 1, none⟩ = some (.int .i64 ((rd_T108 t107 x6_2).f1))) (ds := []) #[false, false, false, false, false, false, false, false] (by kernel_rfl) rfl rfl ⟨(blk_cell BK101.out 0).trans rfl, (blk_cell BK101.out 1).trans rfl, (blk_cell BK101.out 2).trans rfl, hx110_0, hx110_1⟩ (fun hHeld => ?_); refine with_tabW luciferref01_some.tab9 luciferref01_some.bits9 (fun HT_ HW_ => ?_)
                      generalize wr.drew = w18 at HO_3 HO_5 BK101 HB hx110_0 hx110_1 hHeld ⊢
                      refine pure_ (i := 1) (N := some 31) (v := ?_) (a' := ?_) #[false, true, false, false, false, false, false, false] rfl rfl (any_of HT_.out (by kernel_rfl)) (fun _ _ _ h => h) (Or.inl ⟨by rfl, ?_⟩) ?_ ?_
                      rotate_left
                      · intro w'
                        go_simp
                        with_reducible rfl
                      rotate_left
                      · simp only [Act.put, List.setIfInBounds_toArray, List.set_cons_zero, List.set_cons_succ, i64_w, i32_w]
                        rfl
                      refine pure_ (i := 2) (N := some 32) (v := ?_) (a' := ?_) #[false, true, true, false, false, false, false, false] rfl rfl (any_of HT_.out (by kernel_rfl)) (fun _ _ _ h => h) (Or.inl ⟨by rfl, ?_⟩) ?_ ?_
                      rotate_left
                      · intro w'
                        go_simp
                        with_reducible rfl
                      rotate_left
                      · simp only [Act.put, List.setIfInBounds_toArray, List.set_cons_zero, List.set_cons_succ, i64_w, i32_w]
                        rfl
                      refine pure_ (i := 3) (N := some 33) (v := ?_) (a' := ?_) #[false, true, true, true, false, false, false, false] rfl rfl (any_of HT_.out (by kernel_rfl)) (fun _ _ _ h => h) (Or.inl ⟨by rfl, ?_⟩) ?_ ?_
                      rotate_left
                      · intro w'
                        go_simp
                        with_reducible rfl
                      rotate_left
                      · simp only [Act.put, List.setIfInBounds_toArray, List.set_cons_zero, List.set_cons_succ, i64_w, i32_w]
                        rfl
                      refine pure_ (i := 4) (N := some 34) (v := ?_) (a' := ?_) #[false, true, true, true, true, false, false, false] rfl rfl (any_of HT_.out (by kernel_rfl)) (fun _ _ _ h => h) (Or.inl ⟨by rfl, ?_⟩) ?_ ?_
                      rotate_left
                      · intro w'
                        go_simp
                        with_reducible rfl
                      rotate_left
                      · simp only [Act.put, List.setIfInBounds_toArray, List.set_cons_zero, List.set_cons_succ, i64_w, i32_w]
                        rfl
                      refine take_ (i := 0) (N := some 30) (v := ?_) (a' := ?_) #[true, true, true, true, true, false, false, false] rfl rfl (take_ofW HT_.out HW_.out (by kernel_rfl)) (fun _ _ _ h => h) (Or.inl ⟨by rfl, ?_⟩) hHeld ?_ ?_
                      rotate_left
                      · rintro w' ⟨s0, s1, s2, s3, s4⟩
                        go_simp
                        with_reducible rfl
                      rotate_left
                      · simp only [Act.put, List.setIfInBounds_toArray, List.set_cons_zero, List.set_cons_succ, i64_w, i32_w]
                        rfl
                      refine take_ (i := 5) (N := some 35) (v := ?_) (a' := ?_) #[true, true, true, true, true, true, false, false] rfl rfl (take_ofW HT_.out HW_.out (by kernel_rfl)) (fun _ _ _ h => h) (Or.inl ⟨by rfl, ?_⟩) hHeld ?_ ?_
                      rotate_left
                      · rintro w' ⟨s0, s1, s2, s3, s4⟩
                        go_simp
                        with_reducible rfl
                      rotate_left
                      · simp only [Act.put, List.setIfInBounds_toArray, List.set_cons_zero, List.set_cons_succ, i64_w, i32_w]
                        rfl
                      refine one_ (i := 6) (N := some 36) #[true, true, true, true, true, true, true, false] rfl rfl (one_of HT_.out (by kernel_rfl)) (by decide) (fun K hK => ?_)
                      refine goes_ Tryd.func95 (by kernel_rfl) rfl #[.agg #[.slice A0_0 l0_0.length c0_0, .int .i64 a0_1, .slice (some ad106) l0_2.length c0_2], .slice Ao19 x3_2.length co19, .agg #[.int .i64 ((rd_T108 t107 x6_2).f0), .int .i64 ((rd_T108 t107 x6_2).f1)]] (by rfl) rfl rfl (by (try simp only [List.map_toArray, List.map_cons, List.map_nil]); first | done | rfl | (simp only [List.length_drop, List.length_take]; rfl)) ?_
                      with_reducible refine (luciferref01_mark.calls k2 _ _ l0_0 a0_1 _ _ l0_2 _ _ x3_2 ((rd_T108 t107 x6_2).f0) ((rd_T108 t107 x6_2).f1) t111 _ ?side1 ?side2 ?side3 ?side4 ?side5 ?side6 A16.out).mono ?_
                      (case side1 => exact C_ HR0_0)
                      (case side2 => exact HC0_0.out)
                      (case side3 => exact C_ HR0_2)
                      (case side4 => exact HC0_2.out)
                      (case side5 => repeat (first | exact (Kd.R_reads' HO_3.out).2.2 | (with_reducible refine Kd.C_alloc ?_ _) | (with_reducible refine Kd.C_drewN ?_ _) | (with_reducible refine Kd.C_drew ?_)))
                      (case side6 => exact (Kd.R_reads' HO_3.out).2.1)
                      rintro e w20 ⟨v112, rfl, ho0, hb⟩
                      have HS3_ := (hb.cell (World.block_lt_of_cell? _ _ (hHeld.2.2.2.1))).trans (hHeld.2.2.2.1)
                      have HS4_ := (hb.cell (World.block_lt_of_cell? _ _ (hHeld.2.2.2.2))).trans (hHeld.2.2.2.2)
                      refine ⟨_, rfl, ?_⟩
                      have n0_ := Aside0.mk (Kd.R_elder' (R_ HO_3) (Kd.R_base ho0) hb)
                      have n1_ := Aside0.mk (Kd.R_below (R_ HO_5) hb)
                      have n2_ := Aside0.mk (Kd.R_lower (Kd.R_new' ho0 (Kd.R_lt (R_ HO_3))) (below_size (B_)))
                      have n3_ := Aside0.mk (blk_below (g := gb101) (o := .cells #[.slice A0_0 l0_0.length c0_0, .int .i64 a0_1, .slice (some ad106) l0_2.length c0_2] 25 (0, 0)) (K_ BK101) hb)
                      have n4_ := Aside0.mk (below_step (B_) hb)
                      clear HO_3
                      clear HO_5
                      clear BK101
                      clear HB
                      have HO_3 := n0_
                      have HO_5 := n1_
                      have HO113 := n2_
                      have BK101 := n3_
                      have HB := n4_
                      clear n0_ n1_ n2_ n3_ n4_
                      (try clear hb)
                      (try clear hb2)
                      (try clear hk)
                      (try clear hi)
                      (try clear ho0)
                      refine hK.out _ _ ⟨(blk_cell BK101.out 0).trans rfl, (blk_cell BK101.out 1).trans rfl, (blk_cell BK101.out 2).trans rfl, HS3_, HS4_⟩ (fun hHeld => ?_)
                      clear hK K
                      refine norm_ (a' := ?_) ?_ ?_
                      rotate_left
                      · show Act.put _ (some 36) _ = _
                        simp only [Act.put, List.setIfInBounds_toArray, List.set_cons_zero, List.set_cons_succ, i64_w, i32_w]
                        rfl
                      refine pure_ (i := 7) (N := some 3) (v := ?_) (a' := ?_) #[true, true, true, true, true, true, true, true] rfl rfl (any_of HT_.out (by kernel_rfl)) (fun _ _ _ h => h) (Or.inl ⟨by rfl, ?_⟩) ?_ ?_
                      rotate_left
                      · intro w'
                        go_simp
                        with_reducible rfl
                      rotate_left
                      · simp only [Act.put, List.setIfInBounds_toArray, List.set_cons_zero, List.set_cons_succ, i64_w, i32_w]
                        rfl
                      refine done_ (done_of HT_.out (by kernel_rfl)) ?_
                      try go_wp2
                      go_roundg k2
                      case measure => have := HK1.out; have := HK2.out; omega
                      case rel => exact ⟨(t111), (wrap64 (x6_2 + 1)), S_, H', ⟨by have := HK1.out; have := HK2.out; omega⟩, ⟨by (with_reducible repeat (first | apply Kd.R_alloc | apply Kd.R_drewN | apply Kd.R_drew)); exact Kd.R_mono HO113.out (fun _ hk => trivial)⟩, ⟨R_ HO_5⟩, ⟨K_ BK101⟩, ⟨B_⟩⟩
                    · rw [if_neg c15] at H
                      exact absurd H (by simp)
                  · rw [if_neg c14] at H
                    have c14b0 : decide (x6_2 < (t107.length : Int)) = false := decide_eq_false c14
                    clear c14
                    have H' := Aside0.mk H
                    clear H
                    obtain ⟨Ao21, co21, eo21⟩ := Kd.R_slice HO_5.out
                    subst eo21
                    go_wp2
                    go_roundg k2
                    case measure => have := HK1.out; have := HK2.out; omega
                    case rel => exact ⟨(x3_2), (wrap64 (x4_1 + 1)), S_, H', ⟨by have := HK1.out; have := HK2.out; omega⟩, ⟨R_ HO_3⟩, ⟨K_ BK101⟩, ⟨B_⟩⟩
            · rw [if_neg c10] at H
              exact absurd H (by simp)
          · rw [if_neg c9] at H
            have c9b0 : decide (x4_1 < (l0_2.length : Int)) = false := decide_eq_false c9
            clear c9
            obtain rfl := Option.some.inj H
            obtain ⟨hcz22_0, hcz22_1, hcz22_2, hfz22_0, hfz22_1, hfz22_2⟩ := cz3 BK101
            go_wp2
            go_ret
            exact ⟨_, by first | rfl | (simp [errW_none, errW_some] <;> rfl) | (simp [*, errW_none, errW_some] <;> rfl), R_ HO_3, B_⟩
    · rw [if_neg c4] at H
      exact absurd H (by simp)
  · rw [if_neg c3] at H
    exact absurd H (by simp)

end Go.Proofs.YtigofgdmefobaaaDoor.PP
