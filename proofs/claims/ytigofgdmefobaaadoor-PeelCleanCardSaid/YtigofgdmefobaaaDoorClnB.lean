/- PeelClean: the walk. -/
import Derived.Test.YtigofgdmefobaaaDoorClnA
set_option linter.unusedVariables false
set_option linter.unusedSimpArgs false
namespace Go.Proofs.YtigofgdmefobaaaDoor.Peel
open Go.RowKit Go.Proofs.YtigofgdmefobaaaDoor.Iter
attribute [local go_sem] Oper.semAt_some
theorem RawAt.clean {w : World} {l : PL} {A B : Option Addr} {c d : Nat} (h : RawAt w l A B c d) : RawAt w (cleanP l) A none c 0 :=
  ⟨h.long, fun k x hx => by simp [cleanP] at hx, h.c, by simp [cleanP], h.n, by simp [cleanP]⟩
set_option maxRecDepth 8000 in
set_option maxHeartbeats 4000000 in
theorem peelClean_any {w : World} {l : PL} {A B : Option Addr} {c d : Nat} (h : RawAt w l A B c d) (he : EndsAt w) (x : Int) (hx : (Lit.int .i64 x).wf = true) :
    Calls Tryd.prog 11 #[.agg #[.slice A l.long.length c, .int .i64 l.size, .slice B l.knots.length d], .int .i64 x] w fun e w' => e = .returned (.bool true) ∧ Below w.heap.size w w' := by
  obtain ⟨W0, hW0⟩ : ∃ W0, W0 = w.alloc (.cells #[.slice A l.long.length c, .int .i64 l.size, .slice B l.knots.length d] 25) := ⟨_, rfl⟩
  go_enter Tryd.func11, Tryd.ntmps11
  go_upto_region 1 with (fail)
  rw [← hW0]
  have hb0 : Below w.heap.size w W0 := by rw [hW0]; exact (Below.refl _ w).alloc (Nat.le_refl _) _
  have rl : W0.heap[w.heap.size]? = some (.cells #[.slice A l.long.length c, .int .i64 l.size, .slice B l.knots.length d] 25 (0, 0)) := by rw [hW0]; (repeat (first | with_reducible assumption | with_reducible exact row_new | with_reducible refine row_drew ?_ | with_reducible apply row_same | with_reducible refine row_diff ?_ (by first | omega | (simp only [World.size_alloc, size_setRow, size_drew', World.size_setCell]; omega)) | with_reducible refine row_far ?_ (by (try dsimp only); first | omega | (simp only [World.size_alloc, size_setRow, size_drew', World.size_setCell]; omega)) | with_reducible refine row_new' (by first | (simp only [World.size_alloc, size_setRow, size_drew', World.size_setCell]; done) | omega | (simp only [World.size_alloc, size_setRow, size_drew', World.size_setCell]; omega)) | with_reducible refine row_old ?_ | with_reducible refine row_below (by assumption) ?_ (by first | omega | (simp only [World.size_alloc, size_setRow, size_drew', World.size_setCell]; omega))))
  have H0 := Lib.hid (h.below hb0)
  have HE0 := Lib.hid (he.below hb0)
  have HB0 := Lib.hid hb0
  have q0 : W0.cell? ⟨w.heap.size, 0, none⟩ = some (.slice A l.long.length c) := cell_row' (i := 0) rl rfl
  have q1 : W0.cell? ⟨w.heap.size, 1, none⟩ = some (.int .i64 l.size) := cell_row' (i := 1) rl rfl
  have q2 : W0.cell? ⟨w.heap.size, 2, none⟩ = some (.slice B l.knots.length d) := cell_row' (i := 2) rl rfl
  have RL := Lib.hid rl
  clear hW0 hb0 rl h he
  go_wp2_with fail
  refine (sound_any H0.out).mono ?_
  rintro e w1 ⟨rfl, hb1⟩
  have hlt0 := (Array.getElem?_eq_some_iff.1 RL.out).1
  have H1 := Lib.hid (H0.out.below hb1)
  have HE1 := Lib.hid (HE0.out.below hb1)
  have HB1 := Lib.hid (bb HB0.out hb1)
  have RL1 := Lib.hid (row_below hb1 RL.out hlt0)
  clear q0 q1 q2 hb1
  by_cases ok : l.Ok
  · rw [decide_eq_true ok]
    have hs1 := ok.size1
    have hs6 := ok.size6
    have hall := all_bd ok
    have hall1 : 1 ≤ l.all := by
      have := ok.turns1
      have := col_all ok 0 0 (by omega) (by omega) (by omega)
      omega
    have HOK := Lib.hid ok
    have q0 : w1.cell? ⟨w.heap.size, 0, none⟩ = some (.slice A l.long.length c) := cell_row' (i := 0) RL1.out rfl
    have q1 : w1.cell? ⟨w.heap.size, 1, none⟩ = some (.int .i64 l.size) := cell_row' (i := 1) RL1.out rfl
    have q2 : w1.cell? ⟨w.heap.size, 2, none⟩ = some (.slice B l.knots.length d) := cell_row' (i := 2) RL1.out rfl
    go_upto_region 5 with (fail)
    obtain ⟨W2, hW2⟩ : ∃ W2, W2 = w1.alloc (.cells #[.slice A l.long.length c, .int .i64 l.size, .slice none 0 0] 25) := ⟨_, rfl⟩
    rw [← hW2]
    have hb2 : Below w1.heap.size w1 W2 := by rw [hW2]; exact (Below.refl _ _).alloc (Nat.le_refl _) _
    have rx : W2.heap[w1.heap.size]? = some (.cells #[.slice A l.long.length c, .int .i64 l.size, .slice none 0 0] 25 (0, 0)) := by rw [hW2]; (repeat (first | with_reducible assumption | with_reducible exact row_new | with_reducible refine row_drew ?_ | with_reducible apply row_same | with_reducible refine row_diff ?_ (by first | omega | (simp only [World.size_alloc, size_setRow, size_drew', World.size_setCell]; omega)) | with_reducible refine row_far ?_ (by (try dsimp only); first | omega | (simp only [World.size_alloc, size_setRow, size_drew', World.size_setCell]; omega)) | with_reducible refine row_new' (by first | (simp only [World.size_alloc, size_setRow, size_drew', World.size_setCell]; done) | omega | (simp only [World.size_alloc, size_setRow, size_drew', World.size_setCell]; omega)) | with_reducible refine row_old ?_ | with_reducible refine row_below (by assumption) ?_ (by first | omega | (simp only [World.size_alloc, size_setRow, size_drew', World.size_setCell]; omega))))
    have x0 : W2.cell? ⟨w1.heap.size, 0, none⟩ = some (.slice A l.long.length c) := cell_row' (i := 0) rx rfl
    have x1 : W2.cell? ⟨w1.heap.size, 1, none⟩ = some (.int .i64 l.size) := cell_row' (i := 1) rx rfl
    have x2 : W2.cell? ⟨w1.heap.size, 2, none⟩ = some (.slice none 0 0) := cell_row' (i := 2) rx rfl
    have H2 := Lib.hid (H1.out.below hb2)
    have HX2 := Lib.hid ((H1.out.below hb2).clean)
    have HE2 := Lib.hid (HE1.out.below hb2)
    have HB2 := Lib.hid (bb HB1.out hb2)
    have q0' := cell_below hb2 q0
    have q1' := cell_below hb2 q1
    clear hW2 hb2 rx q0 q1 q2
    have q0 := q0'
    have q1 := q1'
    clear q0' q1'
    go_wp2_with fail
    have hcut := long_cut H2.out l.long.length (Nat.le_refl _)
    rw [List.take_length] at hcut
    refine (total_any hcut (fun k hk => by have := sumTo_bd HOK.out k hk; omega)).mono ?_
    clear hcut
    rintro e w3 ⟨rfl, hb3⟩
    have HX3 := Lib.hid (HX2.out.below hb3)
    have HE3 := Lib.hid (HE2.out.below hb3)
    have HB3 := Lib.hid (bb HB2.out hb3)
    have x0' := cell_below hb3 x0
    have x1' := cell_below hb3 x1
    have x2' := cell_below hb3 x2
    have q0' := cell_below hb3 q0
    have q1' := cell_below hb3 q1
    clear hb3 x0 x1 x2 q0 q1
    have x0 := x0'
    have x1 := x1'
    have x2 := x2'
    have q0 := q0'
    have q1 := q1'
    clear x0' x1' x2' q0' q1'
    rw [show l.long.sum = l.all from rfl]
    go_wp2_with fail
    have hc := best_any (l := cleanP l) HX3.out HE3.out
    rw [clean_best HOK.out] at hc
    change Calls _ _ #[.agg #[.slice A l.long.length c, .int .i64 l.size, .slice none 0 0]] _ _ at hc
    refine hc.mono ?_
    clear hc
    rintro e w4 ⟨ao, rfl, hb4, hcut⟩
    have HX4 := Lib.hid (HX3.out.below hb4)
    have HE4 := Lib.hid (HE3.out.below hb4)
    have HB4 := Lib.hid (bb HB3.out hb4)
    have HC4 := Lib.hid hcut
    clear hcut
    have x0' := cell_below hb4 x0
    have x1' := cell_below hb4 x1
    have x2' := cell_below hb4 x2
    have q0' := cell_below hb4 q0
    have q1' := cell_below hb4 q1
    clear hb4 x0 x1 x2 q0 q1
    have x0 := x0'
    have x1 := x1'
    have x2 := x2'
    have q0 := q0'
    have q1 := q1'
    clear x0' x1' x2' q0' q1'
    go_wp2_with fail
    have hc := hope_any (l := cleanP l) HX4.out HE4.out
    rw [clean_hope HOK.out] at hc
    change Calls _ _ #[.agg #[.slice A l.long.length c, .int .i64 l.size, .slice none 0 0]] _ _ at hc
    refine hc.mono ?_
    clear hc
    rintro e w5 ⟨rfl, hb5⟩
    have HX5 := Lib.hid (HX4.out.below hb5)
    have HE5 := Lib.hid (HE4.out.below hb5)
    have HB5 := Lib.hid (bb HB4.out hb5)
    have HC5 := Lib.hid (HC4.out.below hb5)
    have x0' := cell_below hb5 x0
    have x1' := cell_below hb5 x1
    have x2' := cell_below hb5 x2
    have q0' := cell_below hb5 q0
    have q1' := cell_below hb5 q1
    clear hb5 x0 x1 x2 q0 q1
    have x0 := x0'
    have x1 := x1'
    have x2 := x2'
    have q0 := q0'
    have q1 := q1'
    clear x0' x1' x2' q0' q1'
    go_upto_region 8 with (fail)
    have hall2 : l.all ≤ 1000000 := by omega
    go_region_held3 (fun w' => w'.cell? ⟨w1.heap.size, 0, none⟩ = some (.slice A l.long.length c) ∧ w'.cell? ⟨w1.heap.size, 1, none⟩ = some (.int .i64 l.size) ∧ w'.cell? ⟨w1.heap.size, 2, none⟩ = some (.slice none 0 0))
      (first | go_keep | (go_split_ands; refine ⟨?_, ?_, ?_⟩ <;> exact cell_below HK7.out (by assumption)))
      (first
        | (go_at_call 49; with_reducible refine (spin_any _ _ _ hall1 hall2).mono ?_; rintro e w6 ⟨⟨kk, rfl, hk0, hk1⟩, rfl⟩)
        | (go_at_call 21; have hc := knotty_any (l := cleanP l) (HX5.out.below (by exact (Below.refl _ _).drew)) (HE5.out.below (by exact (Below.refl _ _).drew)) kk; rw [clean_knotty HOK.out kk hk0 hk1] at hc; change Calls _ _ #[.agg #[.slice A l.long.length c, .int .i64 l.size, .slice none 0 0], .int .i64 kk] _ _ at hc; refine hc.mono ?_; clear hc; rintro e w7 ⟨rfl, hb7⟩; have HK7 := Lib.hid hb7; clear hb7))
    have hb57 : Below w5.heap.size w5 w7 := ((Below.refl _ w5).drew).trans HK7.out
    have HX7 := Lib.hid (HX5.out.below hb57)
    have HE7 := Lib.hid (HE5.out.below hb57)
    have HB7 := Lib.hid (bb HB5.out hb57)
    have HC7 := Lib.hid (HC5.out.below hb57)
    have x0' := cell_below hb57 x0
    have x1' := cell_below hb57 x1
    have x2' := cell_below hb57 x2
    have q0' := cell_below hb57 q0
    have q1' := cell_below hb57 q1
    clear x0 x1 x2 q0 q1
    have x0 := x0'
    have x1 := x1'
    have x2 := x2'
    have q0 := q0'
    have q1 := q1'
    clear x0' x1' x2' q0' q1'
    clear hb57
    go_wp2_with fail
    have hc := ask_any (l := cleanP l) HX7.out HE7.out
    rw [clean_ask HOK.out] at hc
    change Calls _ _ #[.agg #[.slice A l.long.length c, .int .i64 l.size, .slice none 0 0]] _ _ at hc
    refine hc.mono ?_
    clear hc
    rintro e w8 ⟨rfl, hb8⟩
    have HE8 := Lib.hid (HE7.out.below hb8)
    have HB8 := Lib.hid (bb HB7.out hb8)
    have HC8 := Lib.hid (HC7.out.below hb8)
    have x0' := cell_below hb8 x0
    have x1' := cell_below hb8 x1
    have x2' := cell_below hb8 x2
    have q0' := cell_below hb8 q0
    have q1' := cell_below hb8 q1
    clear x0 x1 x2 q0 q1
    have x0 := x0'
    have x1 := x1'
    have x2 := x2'
    have q0 := q0'
    have q1 := q1'
    clear x0' x1' x2' q0' q1'
    clear hb8
    have hdiv : l.all.tdiv l.size = ((cleanCut l).length : Int) := by
      rw [cleanCut_len, Int.tdiv_eq_ediv_of_nonneg (by omega), Int.toNat_of_nonneg (Int.ediv_nonneg (by omega) (by omega))]
    have hlen72 : ((cleanCut l).length : Int) ≤ 72 := by
      rw [cleanCut_len, Int.toNat_of_nonneg (Int.ediv_nonneg (by omega) (by omega))]
      have := Int.ediv_le_self l.size (show 0 ≤ l.all by omega)
      omega
    have hq : IntKind.i64.wrap (l.all.tdiv l.size) = ((cleanCut l).length : Int) := by rw [hdiv]; exact IntWalk.i64_in _ (by omega)
    have hq2 : wrap64 (l.all.tdiv l.size) = ((cleanCut l).length : Int) := by rw [hdiv]; unfold wrap64; omega
    have hsne : l.size ≠ 0 := by omega
    go_wp2_with fail
    clear hdiv hq hq2 x0 x1 x2 q0
    go_loopw [15] (fun i wr => ∃ k : Nat, i = .int .i64 k ∧ k ≤ (cleanCut l).length ∧ Below w8.heap.size w8 wr) (fun i _ => (cleanCut l).length - (intOf i).toNat)
    case atStart => exact ⟨0, rfl, Nat.zero_le _, Below.refl _ _⟩
    case round =>
      obtain ⟨k, rfl, hk, hbr⟩ := hrel
      have HBR := Lib.hid hbr
      have y1 := cell_below hbr q1
      by_cases hlt : k < (cleanCut l).length
      · obtain ⟨pa, rfl, hca⟩ := (HC8.out.below hbr).at_ k hlt
        rw [cleanCut_get l k hlt] at hca
        have hkk : (k : Int) ≤ 72 := by omega
        have hmul : 0 ≤ (k : Int) * l.size ∧ (k : Int) * l.size ≤ 432 := by
          constructor
          · exact Int.mul_nonneg (by omega) (by omega)
          · have := Int.mul_le_mul hkk hs6 (by omega) (by omega)
            omega
        have hw : IntKind.i64.wrap ((k : Int) * l.size) = (k : Int) * l.size := IntWalk.i64_in _ (by omega)
        have hv : wrap64 ((k : Int) * l.size) = (k : Int) * l.size := by unfold wrap64; omega
        clear hbr
        go_upto_region 15 with (fail)
        go_region_held3 (fun w' => w'.cell? (pa.add k) = some (.int .i64 ((k : Int) * l.size)) ∧ w'.cell? ⟨w.heap.size, 1, none⟩ = some (.int .i64 l.size)) (go_keep) (fail)
        go_wp2_with fail
        go_roundw
        case rel => exact ⟨k + 1, by go_num, by omega, HBR.out.drew⟩
        case measure => simp [intOf]; omega
      · have HE9 := Lib.hid (HE8.out.below hbr)
        have HB9 := Lib.hid (bb HB8.out hbr)
        go_wp2_with fail
        refine (peeled_any HE9.out).mono ?_
        rintro e w9 ⟨rfl, hb9⟩
        have HB10 := Lib.hid (bb HB9.out hb9)
        clear hb9
        go_wp2_with fail
        go_ret
        exact ⟨rfl, HB10.out⟩
  · rw [decide_eq_false ok]
    go_wp2_with fail
    refine (peeled_any HE1.out).mono ?_
    rintro e w2 ⟨rfl, hb2⟩
    have HB2 := Lib.hid (bb HB1.out hb2)
    clear hb2
    go_wp2_with fail
    go_ret
    exact ⟨rfl, HB2.out⟩
end Go.Proofs.YtigofgdmefobaaaDoor.Peel
