/- PeelMost: the walk. -/
import Derived.Test.YtigofgdmefobaaaDoorMostB
import Derived.Test.YtigofgdmefobaaaDoorLawD
set_option linter.unusedVariables false
set_option linter.unusedSimpArgs false
namespace Go.Proofs.YtigofgdmefobaaaDoor.Peel
open Go.RowKit Go.Proofs.YtigofgdmefobaaaDoor.Iter
attribute [local go_sem] Oper.semAt_some
set_option maxRecDepth 8000 in
set_option maxHeartbeats 4000000 in
theorem peelMost_any {w : World} {l : PL} {A B : Option Addr} {c d : Nat} (h : RawAt w l A B c d) (he : EndsAt w) {bs : List Int} {C : Option Addr} {n : Nat} (hC : CutAt w bs C n) :
    Calls Tryd.prog 7 #[.agg #[.slice A l.long.length c, .int .i64 l.size, .slice B l.knots.length d], .slice C bs.length n] w fun e w' => e = .returned (.bool true) ∧ Below w.heap.size w w' := by
  have HCS := Lib.hid hC
  clear hC
  obtain ⟨W0, hW0⟩ : ∃ W0, W0 = w.alloc (.cells #[.slice A l.long.length c, .int .i64 l.size, .slice B l.knots.length d] 25) := ⟨_, rfl⟩; go_enter Tryd.func7, Tryd.ntmps7; go_upto_region 1 with (fail); rw [← hW0]; (have hb0 : Below w.heap.size w W0 := by rw [hW0]; exact (Below.refl _ w).alloc (Nat.le_refl _) _); (have rl : W0.heap[w.heap.size]? = some (.cells #[.slice A l.long.length c, .int .i64 l.size, .slice B l.knots.length d] 25 (0, 0)) := by rw [hW0]; (repeat (first | with_reducible assumption | with_reducible exact row_new | with_reducible refine row_drew ?_ | with_reducible apply row_same | with_reducible refine row_diff ?_ (by first | omega | (simp only [World.size_alloc, size_setRow, size_drew', World.size_setCell]; omega)) | with_reducible refine row_far ?_ (by (try dsimp only); first | omega | (simp only [World.size_alloc, size_setRow, size_drew', World.size_setCell]; omega)) | with_reducible refine row_new' (by first | (simp only [World.size_alloc, size_setRow, size_drew', World.size_setCell]; done) | omega | (simp only [World.size_alloc, size_setRow, size_drew', World.size_setCell]; omega)) | with_reducible refine row_old ?_ | with_reducible refine row_below (by assumption) ?_ (by first | omega | (simp only [World.size_alloc, size_setRow, size_drew', World.size_setCell]; omega))))); (have H0 := Lib.hid (h.below hb0)); (have HE0 := Lib.hid (he.below hb0)); (have HB0 := Lib.hid hb0); (have RL0 := Lib.hid rl); (have q0 : (W0).cell? ⟨w.heap.size, 0, none⟩ = some (.slice A l.long.length c) := cell_row' (i := 0) (RL0).out rfl); (have q1 : (W0).cell? ⟨w.heap.size, 1, none⟩ = some (.int .i64 l.size) := cell_row' (i := 1) (RL0).out rfl); (have q2 : (W0).cell? ⟨w.heap.size, 2, none⟩ = some (.slice B l.knots.length d) := cell_row' (i := 2) (RL0).out rfl); clear hW0 hb0 rl h he; go_wp2_with fail; refine (sound_any H0.out).mono ?_; rintro e w1 ⟨rfl, hb1⟩; (have H1 := Lib.hid (H0.out.below hb1)); (have HE1 := Lib.hid (HE0.out.below hb1)); (have HB1 := Lib.hid (bb HB0.out hb1)); (have RL1 := Lib.hid (row_below hb1 RL0.out (Array.getElem?_eq_some_iff.1 RL0.out).1)); clear hb1 q0 q1 q2; (have q0 : (w1).cell? ⟨w.heap.size, 0, none⟩ = some (.slice A l.long.length c) := cell_row' (i := 0) (RL1).out rfl); (have q1 : (w1).cell? ⟨w.heap.size, 1, none⟩ = some (.int .i64 l.size) := cell_row' (i := 1) (RL1).out rfl); (have q2 : (w1).cell? ⟨w.heap.size, 2, none⟩ = some (.slice B l.knots.length d) := cell_row' (i := 2) (RL1).out rfl)
  by_cases ok : l.Ok
  · rw [decide_eq_true ok]
    have hs1 := ok.size1
    have hs6 := ok.size6
    have hall := all_bd ok
    have HOK := Lib.hid ok
    have hbest : bestS l = (l.cut l.possible, 0) := if_pos ok
    have hwaste : wasteS l = (l.all - l.size * (l.cut l.possible).length, 0) := if_pos ok
    obtain ⟨hcut0, hown0⟩ := cut_own ok l.possible
    have hclen := cut_len l l.possible
    have hcwaste : l.size * (l.cut l.possible).length ≤ 438 ∧ 0 ≤ l.size * (l.cut l.possible).length := by
      have h73 : ((l.cut l.possible).length : Int) ≤ 73 := by omega
      have := Int.mul_le_mul hs6 h73 (by omega) (by omega)
      exact ⟨by omega, Int.mul_nonneg (by omega) (by omega)⟩
    have HSURE := Lib.hid (fun cs (hcs : l.isCut 0 cs = true) => show sureS l cs = (l.count l.possible cs, 0) by unfold sureS; rw [if_pos ok, if_pos hcs])
    have HMOST := Lib.hid (fun cs (hcs : l.isCut 0 cs = true) => cut_most l ok.size1 (all_bd ok).2 l.possible cs 0 0 (Int.le_refl _) hcs)
    have HAHEAD := Lib.hid (fun cs (hcs : l.isCut 0 cs = true) => cut_ahead l ok.size1 (all_bd ok).2 l.possible cs 0 0 (Int.le_refl _) hcs)
    obtain ⟨best, hbe⟩ : ∃ best, best = l.cut l.possible := ⟨_, rfl⟩
    have hbe' : l.cutF l.possible (73 - 0) 0 = best := hbe.symm
    rw [hbe'] at HMOST HAHEAD
    rw [← hbe] at hbest hwaste hcut0 hown0 hclen hcwaste
    have HBEST := Lib.hid hbest
    have HWASTE := Lib.hid hwaste
    have HCUT0 := Lib.hid hcut0
    have HOWN0 := Lib.hid hown0
    clear ok hbest hwaste hcut0 hown0 hbe hbe'
    go_wp2_with fail
    have hc := best_any H1.out HE1.out
    rw [HBEST.out] at hc
    refine hc.mono ?_
    clear hc
    rintro e w2 ⟨ao, rfl, hb2, hcut⟩
    have HC2 := Lib.hid hcut
    clear hcut
    have HS2 := Lib.hid ((HCS.out.below HB1.out).below hb2)
    (have H2 := Lib.hid (H1.out.below hb2)); (have HE2 := Lib.hid (HE1.out.below hb2)); (have HB2 := Lib.hid (bb HB1.out hb2)); (have RL2 := Lib.hid (row_below hb2 RL1.out (Array.getElem?_eq_some_iff.1 RL1.out).1)); clear hb2 q0 q1 q2; (have q0 : (w2).cell? ⟨w.heap.size, 0, none⟩ = some (.slice A l.long.length c) := cell_row' (i := 0) (RL2).out rfl); (have q1 : (w2).cell? ⟨w.heap.size, 1, none⟩ = some (.int .i64 l.size) := cell_row' (i := 1) (RL2).out rfl); (have q2 : (w2).cell? ⟨w.heap.size, 2, none⟩ = some (.slice B l.knots.length d) := cell_row' (i := 2) (RL2).out rfl)
    go_wp2_with fail
    have hc := waste_any H2.out HE2.out
    rw [HWASTE.out] at hc
    refine hc.mono ?_
    clear hc
    rintro e w3 ⟨rfl, hb3⟩
    have HC3 := Lib.hid (HC2.out.below hb3)
    have HS3 := Lib.hid (HS2.out.below hb3)
    (have H3 := Lib.hid (H2.out.below hb3)); (have HE3 := Lib.hid (HE2.out.below hb3)); (have HB3 := Lib.hid (bb HB2.out hb3)); (have RL3 := Lib.hid (row_below hb3 RL2.out (Array.getElem?_eq_some_iff.1 RL2.out).1)); clear hb3 q0 q1 q2; (have q0 : (w3).cell? ⟨w.heap.size, 0, none⟩ = some (.slice A l.long.length c) := cell_row' (i := 0) (RL3).out rfl); (have q1 : (w3).cell? ⟨w.heap.size, 1, none⟩ = some (.int .i64 l.size) := cell_row' (i := 1) (RL3).out rfl); (have q2 : (w3).cell? ⟨w.heap.size, 2, none⟩ = some (.slice B l.knots.length d) := cell_row' (i := 2) (RL3).out rfl)
    go_wp2_with fail
    refine (drawn_any H3.out HOK.out HS3.out).mono ?_
    rintro e w4 ⟨cs, co, cv, rfl, hcs, hcs72, hcc, hb4⟩
    have HD4 := Lib.hid hcc
    have HC4 := Lib.hid (HC3.out.below hb4)
    have HCS4 := Lib.hid hcs
    clear hcc hcs
    (have H4 := Lib.hid (H3.out.below hb4)); (have HE4 := Lib.hid (HE3.out.below hb4)); (have HB4 := Lib.hid (bb HB3.out hb4)); (have RL4 := Lib.hid (row_below hb4 RL3.out (Array.getElem?_eq_some_iff.1 RL3.out).1)); clear hb4 q0 q1 q2; (have q0 : (w4).cell? ⟨w.heap.size, 0, none⟩ = some (.slice A l.long.length c) := cell_row' (i := 0) (RL4).out rfl); (have q1 : (w4).cell? ⟨w.heap.size, 1, none⟩ = some (.int .i64 l.size) := cell_row' (i := 1) (RL4).out rfl); (have q2 : (w4).cell? ⟨w.heap.size, 2, none⟩ = some (.slice B l.knots.length d) := cell_row' (i := 2) (RL4).out rfl)
    go_wp2_with fail
    have hc := sure_any H4.out HE4.out HD4.out
    rw [HSURE.out cs HCS4.out] at hc
    refine hc.mono ?_
    clear hc
    rintro e w5 ⟨rfl, hb5⟩
    have HD5 := Lib.hid (HD4.out.below hb5)
    have HC5 := Lib.hid (HC4.out.below hb5)
    (have H5 := Lib.hid (H4.out.below hb5)); (have HE5 := Lib.hid (HE4.out.below hb5)); (have HB5 := Lib.hid (bb HB4.out hb5)); (have RL5 := Lib.hid (row_below hb5 RL4.out (Array.getElem?_eq_some_iff.1 RL4.out).1)); clear hb5 q0 q1 q2; (have q0 : (w5).cell? ⟨w.heap.size, 0, none⟩ = some (.slice A l.long.length c) := cell_row' (i := 0) (RL5).out rfl); (have q1 : (w5).cell? ⟨w.heap.size, 1, none⟩ = some (.int .i64 l.size) := cell_row' (i := 1) (RL5).out rfl); (have q2 : (w5).cell? ⟨w.heap.size, 2, none⟩ = some (.slice B l.knots.length d) := cell_row' (i := 2) (RL5).out rfl)
    go_wp2_with fail
    have hc := sure_any H5.out HE5.out HC5.out
    rw [HSURE.out best HCUT0.out, HOWN0.out] at hc
    refine hc.mono ?_
    clear hc
    rintro e w6 ⟨rfl, hb6⟩
    have HD6 := Lib.hid (HD5.out.below hb6)
    have HC6 := Lib.hid (HC5.out.below hb6)
    (have H6 := Lib.hid (H5.out.below hb6)); (have HE6 := Lib.hid (HE5.out.below hb6)); (have HB6 := Lib.hid (bb HB5.out hb6)); (have RL6 := Lib.hid (row_below hb6 RL5.out (Array.getElem?_eq_some_iff.1 RL5.out).1)); clear hb6 q0 q1 q2; (have q0 : (w6).cell? ⟨w.heap.size, 0, none⟩ = some (.slice A l.long.length c) := cell_row' (i := 0) (RL6).out rfl); (have q1 : (w6).cell? ⟨w.heap.size, 1, none⟩ = some (.int .i64 l.size) := cell_row' (i := 1) (RL6).out rfl); (have q2 : (w6).cell? ⟨w.heap.size, 2, none⟩ = some (.slice B l.knots.length d) := cell_row' (i := 2) (RL6).out rfl)
    obtain ⟨N, hN⟩ : ∃ N, N = l.count l.possible cs := ⟨_, rfl⟩
    have hNb := count_bd l l.possible cs
    have hNm := HMOST.out cs HCS4.out
    rw [← hN] at hNb hNm
    have hfull : (cs.length : Int) ≤ N → (best.length : Int) ≤ N → cs.length = best.length ∧ ∀ i, i < cs.length → best.getD i 0 ≤ cs.getD i 0 := by
      intro e1 e2
      have e3 : N = (cs.length : Int) := by omega
      exact ⟨by omega, HAHEAD.out cs HCS4.out (count_all l l.possible cs (by rw [← hN]; exact e3))⟩
    rw [← hN]
    have HFULL := Lib.hid hfull
    clear hN hfull
    have hm1 : IntKind.i64.wrap (l.size * (best.length : Int)) = l.size * (best.length : Int) := IntWalk.i64_in _ (by omega)
    have hm2 : wrap64 (l.size * (best.length : Int)) = l.size * (best.length : Int) := by unfold wrap64; omega
    have hm3 : IntKind.i64.wrap (l.all - l.size * (best.length : Int)) = l.all - l.size * (best.length : Int) := IntWalk.i64_in _ (by omega)
    have hm4 : wrap64 (l.all - l.size * (best.length : Int)) = l.all - l.size * (best.length : Int) := by unfold wrap64; omega
    go_upto_region 8 with (fail)
    have hNg : ¬ (best.length : Int) < N := by omega
    go_region_held3 (fun w' => w'.cell? ⟨w.heap.size, 0, none⟩ = some (.slice A l.long.length c) ∧ w'.cell? ⟨w.heap.size, 1, none⟩ = some (.int .i64 l.size))
      (first | go_keep | (go_split_ands; refine ⟨?_, ?_⟩ <;> exact cell_below HT7.out (by assumption)))
      ((go_at_call 47; refine (total_any (long_cut' (H6.out.below (by exact (Below.refl _ _).drew))) (fun q hq => by have := sumTo_bd HOK.out q hq; omega)).mono ?_; rintro e w7 ⟨rfl, hb7⟩; rw [show l.long.sum = l.all from rfl]; have HT7 := Lib.hid hb7; clear hb7))
    have hb7 : Below w6.heap.size w6 w7 := ((Below.refl _ w6).drew).trans HT7.out
    have HD7 := Lib.hid (HD6.out.below hb7)
    have HC7 := Lib.hid (HC6.out.below hb7)
    clear q0 q1 q2
    have HE7 := Lib.hid (HE6.out.below hb7)
    have HB7 := Lib.hid (bb HB6.out hb7)
    clear hb7 hm1 hm2 hm3 hm4
    by_cases h1 : N < (cs.length : Int)
    · go_wp2_with (go_at_call 23; refine (peeled_any HE7.out).mono ?_; rintro e w8 ⟨rfl, hb8⟩; have HB8 := Lib.hid (bb HB7.out hb8); clear hb8)
      go_ret
      exact ⟨rfl, HB8.out⟩
    · by_cases h2 : N < (best.length : Int)
      · go_wp2_with (go_at_call 23; refine (peeled_any HE7.out).mono ?_; rintro e w8 ⟨rfl, hb8⟩; have HB8 := Lib.hid (bb HB7.out hb8); clear hb8)
        go_ret
        exact ⟨rfl, HB8.out⟩
      · obtain ⟨hlen, hle⟩ := HFULL.out (Int.not_lt.1 h1) (Int.not_lt.1 h2)
        have HLE := Lib.hid hle
        have HLEN := Lib.hid hlen
        clear hle hlen
        go_wp2_with (first
          | (go_at_call 48; with_reducible refine (earlier_no HD7.out HC7.out HLEN.out HLE.out).mono ?_; rintro e w8 ⟨rfl, hb8⟩; have HE8 := Lib.hid (HE7.out.below hb8); have HB8 := Lib.hid (bb HB7.out hb8); clear hb8)
          | (go_at_call 23; refine (peeled_any HE8.out).mono ?_; rintro e w9 ⟨rfl, hb9⟩; have HB9 := Lib.hid (bb HB8.out hb9); clear hb9))
        go_ret
        exact ⟨rfl, HB9.out⟩
  · rw [decide_eq_false ok]
    (go_wp2_with fail; refine (peeled_any HE1.out).mono ?_; rintro e w99 ⟨rfl, hb99⟩; have HB99 := Lib.hid (bb HB1.out hb99); clear hb99; go_wp2_with fail; go_ret; exact ⟨rfl, HB99.out⟩)
end Go.Proofs.YtigofgdmefobaaaDoor.Peel
