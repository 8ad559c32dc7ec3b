/- PeelAngles: the walk. -/
import Derived.Test.YtigofgdmefobaaaDoorLawD
import Derived.Test.YtigofgdmefobaaaDoorLawF
set_option linter.unusedVariables false
set_option linter.unusedSimpArgs false
namespace Go.Proofs.YtigofgdmefobaaaDoor.Peel
open Go.RowKit Go.Proofs.YtigofgdmefobaaaDoor.Iter
attribute [local go_sem] Oper.semAt_some
theorem col_zero (l : PL) (t : Nat) : l.col t 0 = sumTo l.long t := by unfold PL.col; simp
theorem div_cases (L a : Int) (h1 : 1 ≤ L) (h2 : L ≤ 12) (h3 : 0 ≤ a) (h4 : a ≤ 22) : 0 ≤ a * L / 24 ∧ a * L / 24 ≤ L - 1 ∧ a * L / 24 ≤ (a + 1) * L / 24 ∧ (a + 1) * L / 24 ≤ a * L / 24 + 1 ∧ (a + 1) * L / 24 ≤ L - 1 ∧ 23 * L / 24 = L - 1 := by
  obtain rfl | rfl | rfl | rfl | rfl | rfl | rfl | rfl | rfl | rfl | rfl | rfl : L = 1 ∨ L = 2 ∨ L = 3 ∨ L = 4 ∨ L = 5 ∨ L = 6 ∨ L = 7 ∨ L = 8 ∨ L = 9 ∨ L = 10 ∨ L = 11 ∨ L = 12 := by omega
  all_goals omega
/-- The turns before one, as a list that lies there. -/
theorem long_cut {w : World} {l : PL} {A B : Option Addr} {c d : Nat} (h : RawAt w l A B c d) (t : Nat) (ht : t ≤ l.long.length) : CutAt w (l.long.take t) A c where
  at_ := fun k hk => by
    have hk' : k < t := by simp at hk; omega
    obtain ⟨a, e, h0⟩ := h.long k (by omega)
    refine ⟨a, e, ?_⟩
    rw [h0]
    simp [List.getD_eq_getElem?_getD, hk']
  cap := by have := h.c; simp; omega
  len := by have := h.n; simp; omega
theorem sum_take (xs : List Int) (t k : Nat) (h : k ≤ t) : sumTo (xs.take t) k = sumTo xs k := by
  unfold sumTo
  rw [List.take_take, Nat.min_eq_left h]
set_option maxRecDepth 8000 in
set_option maxHeartbeats 4000000 in
theorem angles_any {w : World} {l : PL} {A B : Option Addr} {c d : Nat} (h : RawAt w l A B c d) (he : EndsAt w) (x y : Int) (hx : (Lit.int .i64 x).wf = true) (hy : (Lit.int .i64 y).wf = true) :
    Calls Tryd.prog 12 #[.agg #[.slice A l.long.length c, .int .i64 l.size, .slice B l.knots.length d], .agg #[.int .i64 x, .int .i64 y]] w fun e w' => e = .returned (.bool true) ∧ Below w.heap.size w w' := by
  obtain ⟨W0, hW0⟩ : ∃ W0, W0 = (w.alloc (.cells #[.slice A l.long.length c, .int .i64 l.size, .slice B l.knots.length d] 25)).alloc (.cells #[.int .i64 x, .int .i64 y] 64) := ⟨_, rfl⟩
  go_enter Tryd.func12, Tryd.ntmps12
  go_upto_region 1 with (fail)
  rw [← hW0]
  have hb0 : Below w.heap.size w W0 := by rw [hW0]; exact ((Below.refl _ w).alloc (Nat.le_refl _) _).alloc (by simp) _
  have rl : W0.heap[w.heap.size]? = some (.cells #[.slice A l.long.length c, .int .i64 l.size, .slice B l.knots.length d] 25 (0, 0)) := by rw [hW0]; (repeat (first | with_reducible assumption | with_reducible exact row_new | with_reducible refine row_drew ?_ | with_reducible apply row_same | with_reducible refine row_diff ?_ (by first | omega | (simp only [World.size_alloc, size_setRow, size_drew', World.size_setCell]; omega)) | with_reducible refine row_far ?_ (by (try dsimp only); first | omega | (simp only [World.size_alloc, size_setRow, size_drew', World.size_setCell]; omega)) | with_reducible refine row_new' (by first | (simp only [World.size_alloc, size_setRow, size_drew', World.size_setCell]; done) | omega | (simp only [World.size_alloc, size_setRow, size_drew', World.size_setCell]; omega)) | with_reducible refine row_old ?_ | with_reducible refine row_below (by assumption) ?_ (by first | omega | (simp only [World.size_alloc, size_setRow, size_drew', World.size_setCell]; omega))))
  have rn : W0.heap[w.heap.size + 1]? = some (.cells #[.int .i64 x, .int .i64 y] 64 (0, 0)) := by rw [hW0]; (repeat (first | with_reducible assumption | with_reducible exact row_new | with_reducible refine row_drew ?_ | with_reducible apply row_same | with_reducible refine row_diff ?_ (by first | omega | (simp only [World.size_alloc, size_setRow, size_drew', World.size_setCell]; omega)) | with_reducible refine row_far ?_ (by (try dsimp only); first | omega | (simp only [World.size_alloc, size_setRow, size_drew', World.size_setCell]; omega)) | with_reducible refine row_new' (by first | (simp only [World.size_alloc, size_setRow, size_drew', World.size_setCell]; done) | omega | (simp only [World.size_alloc, size_setRow, size_drew', World.size_setCell]; omega)) | with_reducible refine row_old ?_ | with_reducible refine row_below (by assumption) ?_ (by first | omega | (simp only [World.size_alloc, size_setRow, size_drew', World.size_setCell]; omega))))
  have H0 := Lib.hid (h.below hb0)
  have HE0 := Lib.hid (he.below hb0)
  have HB0 := Lib.hid hb0
  have q0 : W0.cell? ⟨w.heap.size, 0, none⟩ = some (.slice A l.long.length c) := cell_row' (i := 0) rl rfl
  have q1 : W0.cell? ⟨w.heap.size, 1, none⟩ = some (.int .i64 l.size) := cell_row' (i := 1) rl rfl
  have q2 : W0.cell? ⟨w.heap.size, 2, none⟩ = some (.slice B l.knots.length d) := cell_row' (i := 2) rl rfl
  have RL := Lib.hid rl
  have RN := Lib.hid rn
  clear hW0 hb0 rl rn h he
  go_wp2_with fail
  refine (sound_any H0.out).mono ?_
  rintro e w1 ⟨rfl, hb1⟩
  have hlt0 := (Array.getElem?_eq_some_iff.1 RL.out).1
  have hlt1 := (Array.getElem?_eq_some_iff.1 RN.out).1
  have H1 := Lib.hid (H0.out.below hb1)
  have HE1 := Lib.hid (HE0.out.below hb1)
  have HB1 := Lib.hid (bb HB0.out hb1)
  have RL1 := Lib.hid (row_below hb1 RL.out hlt0)
  have RN1 := Lib.hid (row_below hb1 RN.out hlt1)
  clear q0 q1 q2 hb1
  by_cases ok : l.Ok
  · rw [decide_eq_true ok]
    have ht1 := ok.turns1
    have ht6 := ok.turns
    have hlen1 : (1 : Int) ≤ (l.long.length : Int) := by omega
    have hlen2 : (l.long.length : Int) ≤ 1000000 := by omega
    have q0 : w1.cell? ⟨w.heap.size, 0, none⟩ = some (.slice A l.long.length c) := cell_row' (i := 0) RL1.out rfl
    have n0 : w1.cell? ⟨w.heap.size + 1, 0, none⟩ = some (.int .i64 x) := cell_row' (i := 0) RN1.out rfl
    have n1 : w1.cell? ⟨w.heap.size + 1, 1, none⟩ = some (.int .i64 y) := cell_row' (i := 1) RN1.out rfl
    go_upto_region 3 with (fail)
    go_region_held3 (fun w' => w'.cell? ⟨w.heap.size, 0, none⟩ = some (.slice A l.long.length c) ∧ w'.cell? ⟨w.heap.size + 1, 0, none⟩ = some (.int .i64 x) ∧ w'.cell? ⟨w.heap.size + 1, 1, none⟩ = some (.int .i64 y)) (go_keep)
      (first | (go_at_call 49; with_reducible refine (spin_any _ 23 _ (by omega) (by omega)).mono ?_; rintro e w2 ⟨⟨a, rfl, ha0, ha1⟩, rfl⟩) | (go_at_call 49; with_reducible refine (spin_any _ _ _ hlen1 hlen2).mono ?_; rintro e w2 ⟨⟨k, rfl, hk0, hk1⟩, rfl⟩))
    obtain ⟨t, rfl⟩ : ∃ t : Nat, k = t := ⟨k.toNat, by omega⟩
    have htl : t < l.long.length := by omega
    obtain ⟨V, hV⟩ : ∃ V, V = w1.drew := ⟨_, rfl⟩
    rw [← hV]
    have hbV : Below w1.heap.size w1 V := by rw [hV]; exact (Below.refl _ _).drew
    have HV := Lib.hid (H1.out.below hbV)
    have HEV := Lib.hid (HE1.out.below hbV)
    have HBV := Lib.hid (bb HB1.out hbV)
    have RLV := Lib.hid (row_below hbV RL1.out (by rw [← hV] at *; exact (Array.getElem?_eq_some_iff.1 RL1.out).1))
    clear hV hbV n0 n1 q0
    have q0 : V.cell? ⟨w.heap.size, 0, none⟩ = some (.slice A l.long.length c) := cell_row' (i := 0) RLV.out rfl
    have q1 : V.cell? ⟨w.heap.size, 1, none⟩ = some (.int .i64 l.size) := cell_row' (i := 1) RLV.out rfl
    have q2 : V.cell? ⟨w.heap.size, 2, none⟩ = some (.slice B l.knots.length d) := cell_row' (i := 2) RLV.out rfl
    have hcc := HV.out.c
    have htc : ¬ c < t := by omega
    go_wp2_with fail
    have htake : (l.long.take t).length = t := by simp; omega
    have htot := total_any (long_cut HV.out t (by omega)) (fun k hk => by
      rw [sum_take _ _ _ (by omega)]
      have := sumTo_bd ok k (by omega)
      omega)
    rw [htake] at htot
    refine htot.mono ?_
    clear htot
    rintro e w3 ⟨rfl, hb3⟩
    have H3 := Lib.hid (HV.out.below hb3)
    have HE3 := Lib.hid (HEV.out.below hb3)
    have HB3 := Lib.hid (bb HBV.out hb3)
    have q0' := cell_below hb3 q0
    have q1' := cell_below hb3 q1
    have q2' := cell_below hb3 q2
    clear hb3 q0 q1 q2
    have q0 := q0'
    have q1 := q1'
    have q2 := q2'
    clear q0' q1' q2'
    have hcol : ∀ b : Int, 0 ≤ b → b ≤ 23 → columnS l (t : Int) b = (l.col t b, 0) := fun b hb0 hb1 => by
      unfold columnS
      rw [if_pos ok, if_pos ⟨⟨by omega, by omega⟩, hb0, hb1⟩]
      simp
    obtain ⟨L, hL⟩ : ∃ L, L = l.long.getD t 0 := ⟨_, rfl⟩
    have hLb := ok.long t htl
    rw [← hL] at hLb
    obtain ⟨F, hF⟩ : ∃ F, F = (l.long.take t).sum := ⟨_, rfl⟩
    have hFb := sumTo_bd ok t (by omega)
    have hFs : sumTo l.long t = F := hF.symm
    rw [hFs] at hFb
    have hdc := div_cases L a (by omega) (by omega) ha0 (by omega)
    have e0 : l.col t 0 = F := by rw [col_zero, hFs]
    have e23 : l.col t 23 = F + L - 1 := by unfold PL.col; rw [hFs, ← hL]; omega
    obtain ⟨C, hC⟩ : ∃ C, C = l.col t a := ⟨_, rfl⟩
    obtain ⟨D, hD⟩ : ∃ D, D = l.col t (a + 1) := ⟨_, rfl⟩
    have hCe : C = F + a * L / 24 := by rw [hC]; unfold PL.col; rw [hFs, ← hL]
    have hDe : D = F + (a + 1) * L / 24 := by rw [hD]; unfold PL.col; rw [hFs, ← hL]
    have c1 : F ≤ C := by omega
    have c2 : C ≤ F + L - 1 := by omega
    have c3 : C ≤ D := by omega
    have c4 : D ≤ C + 1 := by omega
    have c5 : D ≤ F + L - 1 := by omega
    rw [← hF]
    have hwa : IntKind.i64.wrap (a + 1) = a + 1 := IntWalk.i64_in _ (by omega)
    have hw1 : IntKind.i64.wrap (F + L) = F + L := IntWalk.i64_in _ (by omega)
    have hw2 : IntKind.i64.wrap (F + L - 1) = F + L - 1 := IntWalk.i64_in _ (by omega)
    have hw3 : IntKind.i64.wrap (C + 1) = C + 1 := IntWalk.i64_in _ (by omega)
    have hva : wrap64 (a + 1) = a + 1 := by unfold wrap64; omega
    have hv1 : wrap64 (F + L) = F + L := by unfold wrap64; omega
    have hv2 : wrap64 (F + L - 1) = F + L - 1 := by unfold wrap64; omega
    have hv3 : wrap64 (C + 1) = C + 1 := by unfold wrap64; omega
    have HL := Lib.hid hL
    have HC := Lib.hid hC
    have HD := Lib.hid hD
    have E0 := Lib.hid e0
    have E23 := Lib.hid e23
    clear hdc hCe hDe hFs hF hL hC hD e0 e23
    go_wp2_with fail
    have hc := columnApi_any H3.out (t : Int) (a)
    rw [hcol (a) (by omega) (by omega), ← HC.out] at hc
    refine hc.mono ?_
    clear hc
    rintro e w4 ⟨rfl, hb4⟩
    have H4 := Lib.hid (H3.out.below hb4)
    have HE4 := Lib.hid (HE3.out.below hb4)
    have HB4 := Lib.hid (bb HB3.out hb4)
    have q0' := cell_below hb4 q0
    have q1' := cell_below hb4 q1
    have q2' := cell_below hb4 q2
    clear hb4 q0 q1 q2
    have q0 := q0'
    have q1 := q1'
    have q2 := q2'
    clear q0' q1' q2'
    go_wp2_with fail
    have hc := columnApi_any H4.out (t : Int) (a + 1)
    rw [hcol (a + 1) (by omega) (by omega), ← HD.out] at hc
    refine hc.mono ?_
    clear hc
    rintro e w5 ⟨rfl, hb5⟩
    have H5 := Lib.hid (H4.out.below hb5)
    have HE5 := Lib.hid (HE4.out.below hb5)
    have HB5 := Lib.hid (bb HB4.out hb5)
    have q0' := cell_below hb5 q0
    have q1' := cell_below hb5 q1
    have q2' := cell_below hb5 q2
    clear hb5 q0 q1 q2
    have q0 := q0'
    have q1 := q1'
    have q2 := q2'
    clear q0' q1' q2'
    go_wp2_with fail
    have hc := columnApi_any H5.out (t : Int) (0)
    rw [hcol (0) (by omega) (by omega), E0.out] at hc
    refine hc.mono ?_
    clear hc
    rintro e w6 ⟨rfl, hb6⟩
    have H6 := Lib.hid (H5.out.below hb6)
    have HE6 := Lib.hid (HE5.out.below hb6)
    have HB6 := Lib.hid (bb HB5.out hb6)
    have q0' := cell_below hb6 q0
    have q1' := cell_below hb6 q1
    have q2' := cell_below hb6 q2
    clear hb6 q0 q1 q2
    have q0 := q0'
    have q1 := q1'
    have q2 := q2'
    clear q0' q1' q2'
    go_wp2_with fail
    have hc := columnApi_any H6.out (t : Int) (23)
    rw [hcol (23) (by omega) (by omega), E23.out] at hc
    refine hc.mono ?_
    clear hc
    rintro e w7 ⟨rfl, hb7⟩
    have H7 := Lib.hid (H6.out.below hb7)
    have HE7 := Lib.hid (HE6.out.below hb7)
    have HB7 := Lib.hid (bb HB6.out hb7)
    have q0' := cell_below hb7 q0
    have q1' := cell_below hb7 q1
    have q2' := cell_below hb7 q2
    clear hb7 q0 q1 q2
    have q0 := q0'
    have q1 := q1'
    have q2 := q2'
    clear q0' q1' q2'
    obtain ⟨pa, rfl, hca⟩ := H7.out.long t htl
    rw [← HL.out] at hca
    clear hcol
    go_wp2_with (first | (go_at_call 46; refine (fits_yes _ _ _ _ (by omega) (by first | omega | (split <;> omega))).mono ?_; rintro e wf ⟨rfl, rfl⟩) | (go_at_call 23; refine (peeled_any HE7.out).mono ?_; rintro e w8 ⟨rfl, hb8⟩; have HB8 := Lib.hid (bb HB7.out hb8); clear hb8))
    all_goals go_ret
    all_goals exact ⟨rfl, HB8.out⟩
  · rw [decide_eq_false ok]
    go_wp2_with fail
    refine (peeled_any HE1.out).mono ?_
    rintro e w2 ⟨rfl, hb2⟩
    have HB2 := Lib.hid (bb HB1.out hb2)
    clear hb2
    go_wp2_with fail
    go_ret
    exact ⟨rfl, HB2.out⟩
end Go.Proofs.YtigofgdmefobaaaDoor.Peel
