/- Walks of package peel: Whole. -/
import Derived.Test.YtigofgdmefobaaaDoorPeelX
set_option linter.unusedVariables false
set_option linter.unusedSimpArgs false
namespace Go.Proofs.YtigofgdmefobaaaDoor.Peel
open Go.RowKit Go.Proofs.YtigofgdmefobaaaDoor.Iter
attribute [local go_sem] Oper.semAt_some
/-- The fewest, and the most, pieces of a cutting that are whole, of several truths. -/
def PL.low (l : PL) (cs : List Int) (rs : List (Nat → Bool)) : Int := rs.foldl (fun n r => min n (l.count r cs)) (cs.length : Int)
def PL.high (l : PL) (cs : List Int) (rs : List (Nat → Bool)) : Int := rs.foldl (fun n r => max n (l.count r cs)) 0
theorem low_succ (l : PL) (cs : List Int) (rs : List (Nat → Bool)) (i : Nat) (x : Nat → Bool) (h : rs[i]? = some x) : l.low cs (rs.take (i + 1)) = min (l.low cs (rs.take i)) (l.count x cs) := by
  obtain ⟨hi, he⟩ := List.getElem?_eq_some_iff.1 h
  unfold PL.low
  rw [List.take_succ_eq_append_getElem hi, List.foldl_append, he]
  rfl
theorem high_succ (l : PL) (cs : List Int) (rs : List (Nat → Bool)) (i : Nat) (x : Nat → Bool) (h : rs[i]? = some x) : l.high cs (rs.take (i + 1)) = max (l.high cs (rs.take i)) (l.count x cs) := by
  obtain ⟨hi, he⟩ := List.getElem?_eq_some_iff.1 h
  unfold PL.high
  rw [List.take_succ_eq_append_getElem hi, List.foldl_append, he]
  rfl
theorem low_bd' (l : PL) (cs : List Int) : ∀ (rs : List (Nat → Bool)) (n : Int), 0 ≤ n → n ≤ cs.length → 0 ≤ rs.foldl (fun n r => min n (l.count r cs)) n ∧ rs.foldl (fun n r => min n (l.count r cs)) n ≤ cs.length := by
  intro rs
  induction rs with
  | nil => intro n h0 h1; exact ⟨h0, h1⟩
  | cons r rs ih =>
    intro n h0 h1
    have := count_bd l r cs
    exact ih _ (by dsimp only; omega) (by dsimp only; omega)
theorem low_bd (l : PL) (cs : List Int) (rs : List (Nat → Bool)) : 0 ≤ l.low cs rs ∧ l.low cs rs ≤ cs.length := low_bd' l cs rs _ (by omega) (by omega)
theorem high_bd' (l : PL) (cs : List Int) : ∀ (rs : List (Nat → Bool)) (n : Int), 0 ≤ n → n ≤ cs.length → 0 ≤ rs.foldl (fun n r => max n (l.count r cs)) n ∧ rs.foldl (fun n r => max n (l.count r cs)) n ≤ cs.length := by
  intro rs
  induction rs with
  | nil => intro n h0 h1; exact ⟨h0, h1⟩
  | cons r rs ih =>
    intro n h0 h1
    have := count_bd l r cs
    exact ih _ (by dsimp only; omega) (by dsimp only; omega)
theorem high_bd (l : PL) (cs : List Int) (rs : List (Nat → Bool)) : 0 ≤ l.high cs rs ∧ l.high cs rs ≤ cs.length := high_bd' l cs rs _ (by omega) (by omega)
theorem CutAt.far {w0 w1 w2 : World} {cs : List Int} {C : Option Addr} {n : Nat} (h0 : CutAt w0 cs C n) (h : CutAt w1 cs C n) (hb : Below w0.heap.size w1 w2) : CutAt w2 cs C n where
  at_ := fun k hk => by
    obtain ⟨a0, e0, h00⟩ := h0.at_ k hk
    obtain ⟨a1, e1, h10⟩ := h.at_ k hk
    rw [e0] at e1
    cases e1
    exact ⟨a0, e0, cell_far h00 h10 hb⟩
  cap := h.cap
  len := h.len
def wholeS (l : PL) (cs : List Int) : (Int × Int) × Int := if l.Ok then (if l.isCut 0 cs = true then ((l.low cs (l.truths l.knots none72), l.high cs (l.truths l.knots none72)), 0) else ((0, 0), 11)) else ((0, 0), 10)
theorem results_span {fn : Func} {p q : Tmp} (h : fn.results = #[.cell p 39, .tmp q]) (tmps : Array Value) (w : World) (g : Nat) (v0 v1 v : Value)
    (hp : tmps.getD p undef = .pointer (some ⟨g, 0, none⟩)) (hq : tmps.getD q undef = v) (hg : w.heap[g]? = some (.cells #[v0, v1] 39 (0, 0))) :
    (results fn tmps).run Tryd.prog w = .ok (.tuple #[.agg #[v0, v1], v]) w := by
  have hp' : tmps[p]?.getD undef = .pointer (some ⟨g, 0, none⟩) := by simpa using hp
  have hq' : tmps[q]?.getD undef = v := by simpa using hq
  have c0 : w.cell? ⟨g, 0, none⟩ = some v0 := cell_row' (i := 0) hg rfl
  have c1 : w.cell? ⟨g, 1, none⟩ = some v1 := cell_row' (i := 1) hg rfl
  simp [results, h, go_sem, hp', hq', c0, c1]
set_option maxRecDepth 8000 in
set_option maxHeartbeats 8000000 in
theorem whole_api {w : World} {l : PL} {A B : Option Addr} {c d : Nat} (h : RawAt w l A B c d) (he : EndsAt w) {cs : List Int} {C : Option Addr} {n : Nat} (hC : CutAt w cs C n) :
    Calls Tryd.prog 28 #[.agg #[.slice A l.long.length c, .int .i64 l.size, .slice B l.knots.length d], .slice C cs.length n] w fun e w' => e = .returned (.tuple #[.agg #[.int .i64 (wholeS l cs).1.1, .int .i64 (wholeS l cs).1.2], .int .i64 (wholeS l cs).2]) ∧ Below w.heap.size w w' := by
  by_cases ok : l.Ok
  · obtain ⟨a, rfl, hl⟩ := h.at ok
    have hB := (((Below.refl _ w).alloc (Nat.le_refl _) (.cells #[.slice (some a) l.long.length c, .int .i64 l.size, .slice B l.knots.length d] 25)).alloc (by simp) (.cells #[.slice C cs.length n] 22)).alloc (by simp; omega) (.cells #[.int .i64 0, .int .i64 0] 39)
    have H := Lib.hid (hl.below hB)
    have HE := Lib.hid (he.below hB)
    have HC := Lib.hid (hC.below hB)
    have HC0 := Lib.hid hC
    have rg : (((w.alloc (.cells #[.slice (some a) l.long.length c, .int .i64 l.size, .slice B l.knots.length d] 25)).alloc (.cells #[.slice C cs.length n] 22)).alloc (.cells #[.int .i64 0, .int .i64 0] 39)).heap[w.heap.size + 1]? = some (.cells #[.slice C cs.length n] 22 (0, 0)) := by (repeat (first | with_reducible assumption | with_reducible exact row_new | with_reducible refine row_drew ?_ | with_reducible apply row_same | with_reducible refine row_diff ?_ (by first | omega | (simp only [World.size_alloc, size_setRow, size_drew', World.size_setCell]; omega)) | with_reducible refine row_far ?_ (by (try dsimp only); first | omega | (simp only [World.size_alloc, size_setRow, size_drew', World.size_setCell]; omega)) | with_reducible refine row_new' (by first | (simp only [World.size_alloc, size_setRow, size_drew', World.size_setCell]; done) | omega | (simp only [World.size_alloc, size_setRow, size_drew', World.size_setCell]; omega)) | with_reducible refine row_old ?_ | with_reducible refine row_below (by assumption) ?_ (by first | omega | (simp only [World.size_alloc, size_setRow, size_drew', World.size_setCell]; omega))))
    have rs : (((w.alloc (.cells #[.slice (some a) l.long.length c, .int .i64 l.size, .slice B l.knots.length d] 25)).alloc (.cells #[.slice C cs.length n] 22)).alloc (.cells #[.int .i64 0, .int .i64 0] 39)).heap[w.heap.size + 1 + 1]? = some (.cells #[.int .i64 0, .int .i64 0] 39 (0, 0)) := by (repeat (first | with_reducible assumption | with_reducible exact row_new | with_reducible refine row_drew ?_ | with_reducible apply row_same | with_reducible refine row_diff ?_ (by first | omega | (simp only [World.size_alloc, size_setRow, size_drew', World.size_setCell]; omega)) | with_reducible refine row_far ?_ (by (try dsimp only); first | omega | (simp only [World.size_alloc, size_setRow, size_drew', World.size_setCell]; omega)) | with_reducible refine row_new' (by first | (simp only [World.size_alloc, size_setRow, size_drew', World.size_setCell]; done) | omega | (simp only [World.size_alloc, size_setRow, size_drew', World.size_setCell]; omega)) | with_reducible refine row_old ?_ | with_reducible refine row_below (by assumption) ?_ (by first | omega | (simp only [World.size_alloc, size_setRow, size_drew', World.size_setCell]; omega))))
    have RG := Lib.hid rg
    have RS := Lib.hid rs
    have HR := Lib.hid (cut_right' H.out HC.out (w.heap.size + 1) (cell_row' (i := 0) RG.out rfl))
    have hs1 := ok.size1
    have hs6 := ok.size6
    have hall := all_bd ok
    clear h hl he hC rg rs
    by_cases hin : l.isCut 0 cs = true
    · have HO := Lib.hid (show wholeS l cs = ((l.low cs (l.truths l.knots none72), l.high cs (l.truths l.knots none72)), 0) by unfold wholeS; rw [if_pos ok, if_pos hin])
      rw [HO.out]
      rw [hin] at HR
      have HIN := Lib.hid hin
      have hCl := HC.out.len
      have hCc := HC.out.cap
      clear hin
      refine callsIn_wide.1 (callsIn_of_wp_marks (n := 0) Tryd.func28 rfl trivial ?_)
      simp only [Tryd.ntmps28, List.size_toArray, List.length_cons, List.length_nil, Nat.reduceAdd, Nat.reduceSub, Array.replicate_succ, Array.replicate_zero, List.push_toArray, List.append_toArray, List.nil_append, List.cons_append]
      refine wpIn_wide.2 ?_
      go_wp2_with fail
      refine (asked_yes H.out _ _ HR.out).mono ?_
      rintro e w1 ⟨m, rfl, hb1, hm1, hm2⟩
      have hmw : m < w1.heap.size := (Array.getElem?_eq_some_iff.1 hm1).1
      have hmz : w.heap.size + 3 ≤ m := by simpa using hm2
      have H1 := Lib.hid (H.out.below hb1)
      have HE1 := Lib.hid (HE.out.below hb1)
      have HC1 := Lib.hid (HC.out.below hb1)
      have HM1 := Lib.hid (marks_new (l := l) hm1)
      have RG1 := Lib.hid (row_below hb1 RG.out (by simp))
      have RS1 := Lib.hid (row_below hb1 RS.out (by simp))
      have zw1 := hb1.size
      simp only [World.size_alloc] at zw1
      have HB1 := Lib.hid (bb hB hb1)
      have x0 : (w1.alloc (.cells #[.slice (some a) l.long.length c, .int .i64 l.size, .slice B l.knots.length d, .map (some m)] 75)).cell? ⟨w.heap.size + 1, 0, none⟩ = some (.slice C cs.length n) := cell_row' (i := 0) (row_old RG1.out) rfl
      clear hb1 hm1 hm2 hB
      go_upto_region 5 with (fail)
      obtain ⟨W2, hW2⟩ : ∃ W2, W2 = (w1.alloc (.cells #[.slice (some a) l.long.length c, .int .i64 l.size, .slice B l.knots.length d, .map (some m)] 75)).alloc (.cells #[.int .i64 cs.length, .int .i64 0] 39) := ⟨_, rfl⟩
      rw [← hW2]
      have z2 : W2.heap.size = w1.heap.size + 2 := by rw [hW2]; simp
      have hb2 : Below w1.heap.size w1 W2 := by rw [hW2]; exact ((Below.refl _ w1).alloc (Nat.le_refl _) _).alloc (by simp) _
      have r4 : W2.heap[w1.heap.size]? = some (.cells #[.slice (some a) l.long.length c, .int .i64 l.size, .slice B l.knots.length d, .map (some m)] 75 (0, 0)) := by rw [hW2]; (repeat (first | with_reducible assumption | with_reducible exact row_new | with_reducible refine row_drew ?_ | with_reducible apply row_same | with_reducible refine row_diff ?_ (by first | omega | (simp only [World.size_alloc, size_setRow, size_drew', World.size_setCell]; omega)) | with_reducible refine row_far ?_ (by (try dsimp only); first | omega | (simp only [World.size_alloc, size_setRow, size_drew', World.size_setCell]; omega)) | with_reducible refine row_new' (by first | (simp only [World.size_alloc, size_setRow, size_drew', World.size_setCell]; done) | omega | (simp only [World.size_alloc, size_setRow, size_drew', World.size_setCell]; omega)) | with_reducible refine row_old ?_ | with_reducible refine row_below (by assumption) ?_ (by first | omega | (simp only [World.size_alloc, size_setRow, size_drew', World.size_setCell]; omega))))
      have r6 : W2.heap[w1.heap.size + 1]? = some (.cells #[.int .i64 cs.length, .int .i64 0] 39 (0, 0)) := by rw [hW2]; (repeat (first | with_reducible assumption | with_reducible exact row_new | with_reducible refine row_drew ?_ | with_reducible apply row_same | with_reducible refine row_diff ?_ (by first | omega | (simp only [World.size_alloc, size_setRow, size_drew', World.size_setCell]; omega)) | with_reducible refine row_far ?_ (by (try dsimp only); first | omega | (simp only [World.size_alloc, size_setRow, size_drew', World.size_setCell]; omega)) | with_reducible refine row_new' (by first | (simp only [World.size_alloc, size_setRow, size_drew', World.size_setCell]; done) | omega | (simp only [World.size_alloc, size_setRow, size_drew', World.size_setCell]; omega)) | with_reducible refine row_old ?_ | with_reducible refine row_below (by assumption) ?_ (by first | omega | (simp only [World.size_alloc, size_setRow, size_drew', World.size_setCell]; omega))))
      clear hW2
      have q0 : W2.cell? ⟨w1.heap.size, 0, none⟩ = some (.slice (some a) l.long.length c) := cell_row' (i := 0) r4 rfl
      have q1 : W2.cell? ⟨w1.heap.size, 1, none⟩ = some (.int .i64 l.size) := cell_row' (i := 1) r4 rfl
      have q2 : W2.cell? ⟨w1.heap.size, 2, none⟩ = some (.slice B l.knots.length d) := cell_row' (i := 2) r4 rfl
      have q3 : W2.cell? ⟨w1.heap.size, 3, none⟩ = some (.map (some m)) := cell_row' (i := 3) r4 rfl
      have H2 := Lib.hid (H1.out.below hb2)
      have HE2 := Lib.hid (HE1.out.below hb2)
      have HC2 := Lib.hid (HC1.out.below hb2)
      have HM2 := Lib.hid (HM1.out.below hb2)
      have HB2 := Lib.hid (bb HB1.out hb2)
      have R4 := Lib.hid r4
      have R6 := Lib.hid r6
      have RG2 := Lib.hid (row_below hb2 RG1.out (by omega))
      have RS2 := Lib.hid (row_below hb2 RS1.out (by omega))
      clear hb2 r4 r6 x0
      go_wp2_with fail
      refine (truths_any H2.out HE2.out HM2.out).mono ?_
      rintro e w3 ⟨bl, rfl, hb3, hneed, hbl⟩
      have z3 := hb3.size
      have HN := Lib.hid hneed
      have R4w := Lib.hid (row_below hb3 R4.out (by omega))
      have R6w := Lib.hid (row_below hb3 R6.out (by omega))
      have RGw := Lib.hid (row_below hb3 RG2.out (by omega))
      have RSw := Lib.hid (row_below hb3 RS2.out (by omega))
      have HC3 := Lib.hid (HC2.out.below hb3)
      have HB3 := Lib.hid (bb HB2.out hb3)
      have lbl : bl < w3.heap.size := World.block_lt_of_cell? w3 _ hneed.q0
      have zz := HB1.out.size
      clear hneed hb3 q0 q1 q2 q3
      go_wp2_with fail
      refine (wpIn_wide (n := 0)).1 ?_
      refine range_law (gf := 87) (lb := #[.pointer (some ⟨bl, 0, none⟩)]) rfl (enters_of Tryd.func87 (by kernel_rfl) rfl)
        (truths_yields l a B c d m bl) (fun _ => rfl) (fun i T W => W.heap[w1.heap.size + 1]? = some (.cells #[.int .i64 (l.low cs ((l.truths l.knots none72).take i)), .int .i64 (l.high cs ((l.truths l.knots none72).take i))] 39 (0, 0)) ∧ LoopsM m (fun b => b = w1.heap.size + 1) w3 T W)
        ?hI (fun b h => by subst h; omega) HN.out (fun V V' hV hsz hs => HN.out.far hV (hs.below hsz (fun b hb h => by omega))) (fun V hV => ⟨?h0a, ?h0c⟩) ?hround ?hdone
      case hI =>
        rintro i T T' V V' ⟨hr, hl⟩ hs hT
        exact ⟨hl.obj hs (by omega) (by omega) hr, hl.abides hs hT⟩
      case h0a => exact row_below hV R6w.out (by omega)
      case h0c => exact ⟨fun b h => by rcases h with h | h | h; exact .inl h; exact .inr (by omega); exact .inr (by omega), Ext.below hV, fun b hb _ _ => hV.block b hb⟩
      case hdone =>
        rintro D V ⟨hr, hl⟩ hneed hDa hDb hK
        rw [List.take_length] at hr
        have zV := hl.ext.size
        have HK := Lib.hid hK
        have hwV : w3.heap.size < V.heap.size := (Array.getElem?_eq_some_iff.1 hK).1
        have rs4 : V.heap[w.heap.size + 1 + 1]? = some (.cells #[.int .i64 0, .int .i64 0] 39 (0, 0)) := (hl.same _ (by omega) (by omega) (by omega)).trans RSw.out
        have x0 : V.cell? ⟨w1.heap.size + 1, 0, none⟩ = some (.int .i64 (l.low cs (l.truths l.knots none72))) := cell_row' (i := 0) hr rfl
        have x1 : V.cell? ⟨w1.heap.size + 1, 1, none⟩ = some (.int .i64 (l.high cs (l.truths l.knots none72))) := cell_row' (i := 1) hr rfl
        have y0 : V.cell? ⟨w.heap.size + 1 + 1, 0, none⟩ = some (.int .i64 0) := cell_row' (i := 0) rs4 rfl
        have y1 : V.cell? ⟨w.heap.size + 1 + 1, 1, none⟩ = some (.int .i64 0) := cell_row' (i := 1) rs4 rfl
        have g0 : V.frozen? ⟨w.heap.size + 1 + 1, 0, none⟩ = false := frozen_of_row _ _ 0 _ _ rs4
        have g1 : V.frozen? ⟨w.heap.size + 1 + 1, 1, none⟩ = false := frozen_of_row _ _ 1 _ _ rs4
        have hz1 : w.heap.size + 1 + 1 < V.heap.size := by omega
        have HEV := Lib.hid (HB3.out.trans (show Below w.heap.size w3 V from ⟨hl.ext.os, hl.ext.tape, hl.ext.output, hl.ext.size, fun b hb => hl.same b (by have := HB3.out.size; omega) (by omega) (by show ¬ _ = _; omega)⟩))
        have RSV := Lib.hid rs4
        clear hl hneed hK hr rs4
        gi_wp2
        go_wp2_with fail
        have hKd : ((V.setCell ⟨w.heap.size + 1 + 1, 0, none⟩ (.int .i64 (l.low cs (l.truths l.knots none72)))).setCell ⟨w.heap.size + 1 + 1, 1, none⟩ (.int .i64 (l.high cs (l.truths l.knots none72)))).heap[w3.heap.size]? = some (.deferred (some [])) := by
          rw [heap_put (by dsimp only; omega), heap_put (by dsimp only; omega)]; exact HK.out
        have hrow : (((V.setCell ⟨w.heap.size + 1 + 1, 0, none⟩ (.int .i64 (l.low cs (l.truths l.knots none72)))).setCell ⟨w.heap.size + 1 + 1, 1, none⟩ (.int .i64 (l.high cs (l.truths l.knots none72)))).putObj w3.heap.size (.deferred none)).heap[w.heap.size + 1 + 1]? = some (.cells #[.int .i64 (l.low cs (l.truths l.knots none72)), .int .i64 (l.high cs (l.truths l.knots none72))] 39 (0, 0)) := by
          rw [World.putObj_heap_other (by omega)]
          exact blk_set (blk_set RSV.out 0 _) 1 _
        refine ⟨by simp, .inl ⟨_, _, rfl, run_takeDeferred hKd, ?_⟩⟩
        refine ⟨.tuple #[.agg #[.int .i64 (l.low cs (l.truths l.knots none72)), .int .i64 (l.high cs (l.truths l.knots none72))], .int .i64 0], results_span (p := 4) (q := 5) rfl _ _ (w.heap.size + 1 + 1) _ _ _ rfl rfl hrow, rfl, ?_⟩
        have hb0 : Below w.heap.size ((V.setCell ⟨w.heap.size + 1 + 1, 0, none⟩ (.int .i64 (l.low cs (l.truths l.knots none72)))).setCell ⟨w.heap.size + 1 + 1, 1, none⟩ (.int .i64 (l.high cs (l.truths l.knots none72)))) (((V.setCell ⟨w.heap.size + 1 + 1, 0, none⟩ (.int .i64 (l.low cs (l.truths l.knots none72)))).setCell ⟨w.heap.size + 1 + 1, 1, none⟩ (.int .i64 (l.high cs (l.truths l.knots none72)))).putObj w3.heap.size (.deferred none)) := ⟨rfl, rfl, rfl, by simp [World.putObj], fun b hb => World.putObj_heap_other (by have := HB3.out.size; omega)⟩
        exact (((HEV.out).setCell (by dsimp only; omega) _).setCell (by dsimp only; omega) _).trans hb0
      case hround =>
        rintro i x D V hx hVsz ⟨hr, hl⟩ hneed hDa hDb hDbd
        dsimp only [ribV]
        rw [put_one]
        simp only [List.setIfInBounds_toArray, List.set_cons_succ, List.set_cons_zero]
        gi_wp2_with (first | ((with_reducible refine gate_alloc_in 86 rfl ?_); refine ev_alloc_rib_in rfl rfl ?_) | ((with_reducible refine gate_store_in 86 rfl ?_); refine ev_store_rib_in rfl rfl _ _ rfl _ rfl none72 x rfl (by (repeat (first | with_reducible assumption | with_reducible exact row_new | with_reducible refine row_drew ?_ | with_reducible apply row_same | with_reducible refine row_diff ?_ (by first | omega | (simp only [World.size_alloc, size_setRow, size_drew', World.size_setCell]; omega)) | with_reducible refine row_far ?_ (by (try dsimp only); first | omega | (simp only [World.size_alloc, size_setRow, size_drew', World.size_setCell]; omega)) | with_reducible refine row_new' (by first | (simp only [World.size_alloc, size_setRow, size_drew', World.size_setCell]; done) | omega | (simp only [World.size_alloc, size_setRow, size_drew', World.size_setCell]; omega)) | with_reducible refine row_old ?_ | with_reducible refine row_below (by assumption) ?_ (by first | omega | (simp only [World.size_alloc, size_setRow, size_drew', World.size_setCell]; omega))))) ?_))
        obtain ⟨V0, hV0⟩ : ∃ V0, V0 = (V.alloc (.cells (rv none72) 86)).setRow V.heap.size (rv x) := ⟨_, rfl⟩
        have hV1 : Below V.heap.size V V0 := by rw [hV0]; exact ((Below.refl _ V).alloc (Nat.le_refl _) _).trans ((only_setRow _ _ _).below (Nat.le_refl _))
        have k4 : V0.heap[V.heap.size]? = some (.cells (rv x) 86 (0, 0)) := by rw [hV0]; (repeat (first | with_reducible assumption | with_reducible exact row_new | with_reducible refine row_drew ?_ | with_reducible apply row_same | with_reducible refine row_diff ?_ (by first | omega | (simp only [World.size_alloc, size_setRow, size_drew', World.size_setCell]; omega)) | with_reducible refine row_far ?_ (by (try dsimp only); first | omega | (simp only [World.size_alloc, size_setRow, size_drew', World.size_setCell]; omega)) | with_reducible refine row_new' (by first | (simp only [World.size_alloc, size_setRow, size_drew', World.size_setCell]; done) | omega | (simp only [World.size_alloc, size_setRow, size_drew', World.size_setCell]; omega)) | with_reducible refine row_old ?_ | with_reducible refine row_below (by assumption) ?_ (by first | omega | (simp only [World.size_alloc, size_setRow, size_drew', World.size_setCell]; omega))))
        have zV0 : V0.heap.size = V.heap.size + 1 := by rw [hV0]; simp
        rw [← hV0]
        clear hV0
        refine ⟨hV1, fun V1 hst1 => ?_⟩
        have k7 := hst1.obj k4 (by omega)
        have hs01 : Stays (fun b => b = w1.heap.size + 1 ∨ w3.heap.size ≤ b) V V1 := (Stays.of_below hV1).trans (hst1.mono fun b _ h => .inr (by omega))
        obtain ⟨lo, hlo⟩ : ∃ lo, lo = l.low cs ((l.truths l.knots none72).take i) := ⟨_, rfl⟩
        obtain ⟨hi, hhi⟩ : ∃ hi, hi = l.high cs ((l.truths l.knots none72).take i) := ⟨_, rfl⟩
        obtain ⟨nn, hnn⟩ : ∃ nn, nn = l.count x cs := ⟨_, rfl⟩
        have bdl := low_bd l cs ((l.truths l.knots none72).take i)
        have bdh := high_bd l cs ((l.truths l.knots none72).take i)
        have bdn := count_bd l x cs
        rw [← hlo] at hr bdl
        rw [← hhi] at hr bdh
        rw [← hnn] at bdn
        have k6 : V1.heap[w1.heap.size + 1]? = some (.cells #[.int .i64 lo, .int .i64 hi] 39 (0, 0)) := hst1.obj (row_below hV1 hr (by have := hl.ext.size; omega)) (by omega)
        have kg : V1.heap[w.heap.size + 1]? = some (.cells #[.slice C cs.length n] 22 (0, 0)) := (hs01.block _ (by have := hl.ext.size; omega) (fun h => by rcases h with h | h <;> omega)).trans ((hl.same _ (by omega) (by omega) (by omega)).trans RGw.out)
        have k4' : V1.heap[w1.heap.size]? = some (.cells #[.slice (some a) l.long.length c, .int .i64 l.size, .slice B l.knots.length d, .map (some m)] 75 (0, 0)) := (hs01.block _ (by have := hl.ext.size; omega) (fun h => by rcases h with h | h <;> omega)).trans ((hl.same _ (by omega) (by omega) (by omega)).trans R4w.out)
        have q0 : V1.cell? ⟨w1.heap.size, 0, none⟩ = some (.slice (some a) l.long.length c) := cell_row' (i := 0) k4' rfl
        have q1 : V1.cell? ⟨w1.heap.size, 1, none⟩ = some (.int .i64 l.size) := cell_row' (i := 1) k4' rfl
        have q2 : V1.cell? ⟨w1.heap.size, 2, none⟩ = some (.slice B l.knots.length d) := cell_row' (i := 2) k4' rfl
        have q3 : V1.cell? ⟨w1.heap.size, 3, none⟩ = some (.map (some m)) := cell_row' (i := 3) k4' rfl
        have cg : V1.cell? ⟨w.heap.size + 1, 0, none⟩ = some (.slice C cs.length n) := cell_row' kg rfl
        have hCV : CutAt V1 cs C n := by
          refine HC0.out.far HC3.out ?_
          exact Below.trans (show Below w.heap.size w3 V from ⟨hl.ext.os, hl.ext.tape, hl.ext.output, hl.ext.size, fun b hb => hl.same b (by omega) (by omega) (by show ¬ _ = _; omega)⟩) (hs01.below (by have := hl.ext.size; omega) (fun b hb h => by rcases h with h | h <;> omega))
        have HCV := Lib.hid hCV
        have e0 := rangeAt_rib k7
        have hundR := undRib
        have hsizR : (Tryd.prog.info? 86).map (·.size) = some (rl x).length := by rw [rl_length]; exact sizeRib
        have hfin : ∀ (w4 : World), Below V1.heap.size V1 w4 → (((w4.setCell ⟨w1.heap.size + 1, 0, none⟩ (.int .i64 (min lo nn))).setCell ⟨w1.heap.size + 1, 1, none⟩ (.int .i64 (max hi nn))).heap[w1.heap.size + 1]? = some (.cells #[.int .i64 (l.low cs ((l.truths l.knots none72).take (i + 1))), .int .i64 (l.high cs ((l.truths l.knots none72).take (i + 1)))] 39 (0, 0)) ∧ LoopsM m (fun b => b = w1.heap.size + 1) w3 D ((w4.setCell ⟨w1.heap.size + 1, 0, none⟩ (.int .i64 (min lo nn))).setCell ⟨w1.heap.size + 1, 1, none⟩ (.int .i64 (max hi nn)))) ∧ Keeps D V1 ((w4.setCell ⟨w1.heap.size + 1, 0, none⟩ (.int .i64 (min lo nn))).setCell ⟨w1.heap.size + 1, 1, none⟩ (.int .i64 (max hi nn))) ∧ TruthsNeed l a B c d m bl ((w4.setCell ⟨w1.heap.size + 1, 0, none⟩ (.int .i64 (min lo nn))).setCell ⟨w1.heap.size + 1, 1, none⟩ (.int .i64 (max hi nn))) := by
          intro w4 hb
          obtain ⟨W5, hW5⟩ : ∃ W5, W5 = (w4.setCell ⟨w1.heap.size + 1, 0, none⟩ (.int .i64 (min lo nn))).setCell ⟨w1.heap.size + 1, 1, none⟩ (.int .i64 (max hi nn)) := ⟨_, rfl⟩
          have hs : Stays (fun b => b = w1.heap.size + 1) V1 W5 := by rw [hW5]; exact (Stays.of_below hb).trans ((stays_setCell (T := fun b => b = w1.heap.size + 1) _ ⟨w1.heap.size + 1, 0, none⟩ _ rfl).trans (stays_setCell (T := fun b => b = w1.heap.size + 1) _ ⟨w1.heap.size + 1, 1, none⟩ _ rfl))
          have hrow : W5.heap[w1.heap.size + 1]? = some (.cells #[.int .i64 (l.low cs ((l.truths l.knots none72).take (i + 1))), .int .i64 (l.high cs ((l.truths l.knots none72).take (i + 1)))] 39 (0, 0)) := by
            rw [low_succ l cs _ i x hx, high_succ l cs _ i x hx, ← hlo, ← hhi, ← hnn, hW5]
            exact blk_set (blk_set (row_below hb k6 (Array.getElem?_eq_some_iff.1 k6).1) 0 _) 1 _
          rw [← hW5]
          have hsV : Stays (fun b => b = w1.heap.size + 1 ∨ w3.heap.size ≤ b) V W5 := hs01.trans (hs.mono fun b _ h => .inl h)
          have hb0 : Below w1.heap.size V W5 := hsV.below (by have := hl.ext.size; omega) (fun b hb h => by rcases h with h | h <;> omega)
          have hcell : ∀ o' v, V.cell? ⟨bl, o', none⟩ = some v → W5.cell? ⟨bl, o', none⟩ = some v := fun o' v hv => by
            rw [← hv]
            exact World.cell?_of_block (hsV.block bl (by have := hl.ext.size; omega) (fun h => by rcases h with h | h <;> omega))
          exact ⟨⟨hrow, hl.round hsV⟩, Keeps.of_stays hs (fun b hb hD => by rcases hl.t b hD with h | h <;> omega), ⟨H1.out.far hneed.log hb0, HE1.out.far hneed.ends hb0, hcell 0 _ hneed.q0, hcell 1 _ hneed.q1, hcell 2 _ hneed.q2, hcell 3 _ hneed.q3, HM1.out.far hneed.marks hb0⟩⟩
        have HFIN := Lib.hid hfin
        have H4 : LogAt V1 l a B c d := H1.out.far hneed.log (hs01.below (by have := hl.ext.size; omega) (fun b hb h => by rcases h with h | h <;> omega))
        have HL4 := Lib.hid H4
        have zz2 : w3.heap.size ≤ V.heap.size := hl.ext.size
        have zz3 : w1.heap.size + 1 < V1.heap.size := (Array.getElem?_eq_some_iff.1 k6).1
        have HNN := Lib.hid hnn
        have K6 := Lib.hid k6
        clear hfin H4 hr hl hneed hlo hhi hnn kg k4 k4' k7 hV1 hs01 hst1 hCV k6
        try simp only [Act.put, List.setIfInBounds_toArray, List.set_cons_succ, List.set_cons_zero]
        refine wpIn_block ?_
        refine wpIn_seq ?_
        refine region_held_in (S := fun w' => w'.cell? ⟨w1.heap.size, 0, none⟩ = some (.slice (some a) l.long.length c) ∧ w'.cell? ⟨w1.heap.size, 1, none⟩ = some (.int .i64 l.size) ∧ w'.cell? ⟨w1.heap.size, 2, none⟩ = some (.slice B l.knots.length d) ∧ w'.cell? ⟨w1.heap.size, 3, none⟩ = some (.map (some m)) ∧ w'.rangeAt V.heap.size 0 (rl x) ∧ w'.cell? ⟨w.heap.size + 1, 0, none⟩ = some (.slice C cs.length n)) (by kernel_rfl) (by kernel_rfl) (by rintro ⟨a, w, h⟩; exact h) ⟨q0, q1, q2, q3, e0, cg⟩ (fun hHeld => ?_)
        refine held_take 0 27 (.agg #[.slice (some a) l.long.length c, .int .i64 l.size, .slice B l.knots.length d, .map (some m)]) rfl rfl (by kernel_rfl) (by kernel_rfl) (by kernel_rfl) (fun _ _ _ h => h) (Or.inl ⟨by rfl, fun w hw => by dsimp only at hw; obtain ⟨h0, h1, h2, h3, h4, h5⟩ := hw; go_simp⟩) hHeld ?_
        simp only [List.setIfInBounds_toArray, List.set_cons_zero, List.set_cons_succ]
        refine held_take 1 28 _ rfl rfl (by kernel_rfl) (by kernel_rfl) (by kernel_rfl) (fun _ _ _ h => h) (yieldsIf_load_mid (by rfl) _ _ rfl _ _ rfl (rl x) _ (fun _ h => h.2.2.2.2.1) hundR rfl hsizR) hHeld ?_
        simp only [List.setIfInBounds_toArray, List.set_cons_zero, List.set_cons_succ]
        refine held_take 3 30 (.slice C cs.length n) rfl rfl (by kernel_rfl) (by kernel_rfl) (by kernel_rfl) (fun _ _ _ h => h) (Or.inl ⟨by rfl, fun w hw => by dsimp only at hw; obtain ⟨h0, h1, h2, h3, h4, h5⟩ := hw; go_simp⟩) hHeld ?_
        simp only [List.setIfInBounds_toArray, List.set_cons_zero, List.set_cons_succ]
        refine wpAnyH_ready (rs := [2]) (by kernel_rfl) (by simp) ?_
        refine AllReadyH.cons rfl (fun K hK => ?_) AllReadyH.nil
        go_simp
        rw [rv_rl]
        refine (whole_any l a B c d m x).mono ?_
        rintro e w4 ⟨bi, br, rfl, hbw, hcnt⟩
        dsimp only
        have hb14 : Below V1.heap.size V1 w4 := ((Below.refl _ V1).drew).trans hbw
        refine hK.out _ _ ⟨cell_below hbw hHeld.1, cell_below hbw hHeld.2.1, cell_below hbw hHeld.2.2.1, cell_below hbw hHeld.2.2.2.1, rangeAt_below hbw hHeld.2.2.2.2.1, cell_below hbw hHeld.2.2.2.2.2⟩ (fun hHeldn => ?_)
        clear hK
        try simp only [Act.put, List.setIfInBounds_toArray, List.set_cons_zero, List.set_cons_succ]
        refine wpAnyH_ready (rs := [4]) (by kernel_rfl) (by simp) ?_
        refine AllReadyH.cons rfl (fun K hK => ?_) AllReadyH.nil
        go_simp
        refine (count_any hcnt hs1 hs6 (HCV.out.below hb14) hall.2 HIN.out).mono ?_
        rintro e w5 ⟨rfl, hbc⟩
        dsimp only
        have hb15 : Below V1.heap.size V1 w5 := bb hb14 hbc
        refine hK.out _ _ ⟨cell_below hbc hHeldn.1, cell_below hbc hHeldn.2.1, cell_below hbc hHeldn.2.2.1, cell_below hbc hHeldn.2.2.2.1, rangeAt_below hbc hHeldn.2.2.2.2.1, cell_below hbc hHeldn.2.2.2.2.2⟩ (fun hHeldnn => ?_)
        clear hK
        try simp only [Act.put, List.setIfInBounds_toArray, List.set_cons_zero, List.set_cons_succ]
        rw [← HNN.out]
        refine wpAnyH_ready (rs := [5]) (by kernel_rfl) (by simp) ?_
        refine AllReadyH.cons rfl (fun K hK => ?_) AllReadyH.nil
        go_simp
        refine hK.out _ _ hHeldnn (fun _ => ?_)
        clear hK
        try simp only [Act.put, List.setIfInBounds_toArray, List.set_cons_zero, List.set_cons_succ]
        refine wpAnyH_done (by kernel_rfl) ?_ _
        have HB15 := Lib.hid hb15
        have r6' := row_below hb15 K6.out zz3
        have c0 : w5.cell? ⟨w1.heap.size + 1, 0, none⟩ = some (.int .i64 lo) := cell_row' (i := 0) r6' rfl
        have c1 : w5.cell? ⟨w1.heap.size + 1, 1, none⟩ = some (.int .i64 hi) := cell_row' (i := 1) r6' rfl
        have zz4 : w1.heap.size + 1 < w5.heap.size := (Array.getElem?_eq_some_iff.1 r6').1
        have R6' := Lib.hid r6'
        have hw1 : IntKind.i64.wrap (-lo) = -lo := IntWalk.i64_in _ (by omega)
        have hw2 : IntKind.i64.wrap (-nn) = -nn := IntWalk.i64_in _ (by omega)
        have hw3 : IntKind.i64.wrap (min lo nn) = min lo nn := IntWalk.i64_in _ (by omega)
        clear hcnt hbw hb14 hbc hb15 hHeld hHeldn hHeldnn q0 q1 q2 q3 e0 cg r6'
        show (Code.region _ _ _).wpIn _ _ _ _ _ _
        refine region_e_in 14 (fun w' => w'.cell? ⟨w1.heap.size + 1, 0, none⟩ = some (.int .i64 lo) ∧ w'.cell? ⟨w1.heap.size + 1, 1, none⟩ = some (.int .i64 hi)) (by kernel_rfl) (by kernel_rfl) (by rintro ⟨a, w, h⟩; exact h) ⟨c0, c1⟩ (fun hHeld => ?_)
        clear c0 c1
        refine e_take 0 32 (.pointer (some ⟨w1.heap.size + 1, 0, none⟩)) rfl rfl (by kernel_rfl) (by kernel_rfl) (by kernel_rfl) (by kernel_rfl) (fun _ _ _ h => h) (Or.inl ⟨by rfl, fun w hw => by dsimp only at hw; obtain ⟨h0, h1⟩ := hw; go_simp⟩) hHeld ?_
        simp only [List.setIfInBounds_toArray, List.set_cons_zero, List.set_cons_succ]
        refine e_take 1 33 (.int .i64 lo) rfl rfl (by kernel_rfl) (by kernel_rfl) (by kernel_rfl) (by kernel_rfl) (fun _ _ _ h => h) (Or.inl ⟨by rfl, fun w hw => by dsimp only at hw; obtain ⟨h0, h1⟩ := hw; go_simp⟩) hHeld ?_
        simp only [List.setIfInBounds_toArray, List.set_cons_zero, List.set_cons_succ]
        refine e_take 2 34 (.int .i64 (-lo)) rfl rfl (by kernel_rfl) (by kernel_rfl) (by kernel_rfl) (by kernel_rfl) (fun _ _ _ h => h) (Or.inl ⟨by rfl, fun w hw => by dsimp only at hw; obtain ⟨h0, h1⟩ := hw; go_simp⟩) hHeld ?_
        simp only [List.setIfInBounds_toArray, List.set_cons_zero, List.set_cons_succ]
        refine e_take 3 35 (.int .i64 nn) rfl rfl (by kernel_rfl) (by kernel_rfl) (by kernel_rfl) (by kernel_rfl) (fun _ _ _ h => h) (Or.inl ⟨by rfl, fun w hw => by dsimp only at hw; obtain ⟨h0, h1⟩ := hw; go_simp⟩) hHeld ?_
        simp only [List.setIfInBounds_toArray, List.set_cons_zero, List.set_cons_succ]
        refine e_take 4 36 (.int .i64 (-nn)) rfl rfl (by kernel_rfl) (by kernel_rfl) (by kernel_rfl) (by kernel_rfl) (fun _ _ _ h => h) (Or.inl ⟨by rfl, fun w hw => by dsimp only at hw; obtain ⟨h0, h1⟩ := hw; go_simp⟩) hHeld ?_
        simp only [List.setIfInBounds_toArray, List.set_cons_zero, List.set_cons_succ]
        refine e_take 8 40 (.pointer (some ⟨w1.heap.size + 1, 1, none⟩)) rfl rfl (by kernel_rfl) (by kernel_rfl) (by kernel_rfl) (by kernel_rfl) (fun _ _ _ h => h) (Or.inl ⟨by rfl, fun w hw => by dsimp only at hw; obtain ⟨h0, h1⟩ := hw; go_simp⟩) hHeld ?_
        simp only [List.setIfInBounds_toArray, List.set_cons_zero, List.set_cons_succ]
        refine e_take 9 41 (.int .i64 hi) rfl rfl (by kernel_rfl) (by kernel_rfl) (by kernel_rfl) (by kernel_rfl) (fun _ _ _ h => h) (Or.inl ⟨by rfl, fun w hw => by dsimp only at hw; obtain ⟨h0, h1⟩ := hw; go_simp⟩) hHeld ?_
        simp only [List.setIfInBounds_toArray, List.set_cons_zero, List.set_cons_succ]
        refine e_take 10 42 (.int .i64 nn) rfl rfl (by kernel_rfl) (by kernel_rfl) (by kernel_rfl) (by kernel_rfl) (fun _ _ _ h => h) (Or.inl ⟨by rfl, fun w hw => by dsimp only at hw; obtain ⟨h0, h1⟩ := hw; go_simp⟩) hHeld ?_
        simp only [List.setIfInBounds_toArray, List.set_cons_zero, List.set_cons_succ]
        refine wpAnyE_ready (rs := [5, 11]) (by kernel_rfl) (by simp) ?_
        refine AllReadyE.cons rfl (fun K hK => ?_) (AllReadyE.cons rfl (fun K hK => ?_) AllReadyE.nil)
        · go_simp
          refine hK.out _ _ (fun _ => ⟨cell_old hHeld.1, cell_old hHeld.2⟩) (fun _ => ?_)
          have hHeldn := And.intro (cell_old (o := (.cells #[.int .i64 (-nn)] 3)) hHeld.1) (cell_old (o := (.cells #[.int .i64 (-nn)] 3)) hHeld.2)
          clear hK
          try simp only [Act.put, List.setIfInBounds_toArray, List.set_cons_zero, List.set_cons_succ]
          refine wpAnyE_ready (rs := [6, 11]) (by kernel_rfl) (by simp) ?_
          refine AllReadyE.cons rfl (fun K hK => ?_) (AllReadyE.cons rfl (fun K hK => ?_) AllReadyE.nil)
          · go_simp
            have cc : (w5.drew.alloc (.cells #[.int .i64 (-nn)] 3)).cell? ⟨w5.heap.size, 0, none⟩ = some (.int .i64 (-nn)) := cell_new' rfl rfl
            refine (greatest_any (-lo) (-nn) cc).mono ?_
            rintro e w6 ⟨rfl, rfl⟩
            dsimp only
            refine hK.out _ _ (fun _ => hHeldn) (fun _ => ?_)
            clear hK cc
            try simp only [Act.put, List.setIfInBounds_toArray, List.set_cons_zero, List.set_cons_succ]
            refine e_take 7 39 (.int .i64 (min lo nn)) rfl rfl (by kernel_rfl) (by kernel_rfl) (by kernel_rfl) (by kernel_rfl) (fun _ _ _ h => h) (Or.inl ⟨by rfl, fun w hw => by dsimp only at hw; obtain ⟨h0, h1⟩ := hw; go_simp⟩) hHeldn ?_
            simp only [List.setIfInBounds_toArray, List.set_cons_zero, List.set_cons_succ]
            refine wpAnyE_ready (rs := [11]) (by kernel_rfl) (by simp) ?_
            refine AllReadyE.cons rfl (fun K hK => ?_) AllReadyE.nil
            go_simp
            refine hK.out _ _ (fun _ => ⟨cell_old hHeldn.1, cell_old hHeldn.2⟩) (fun _ => ?_)
            have hHeldnn := And.intro (cell_old (o := (.cells #[.int .i64 nn] 3)) hHeldn.1) (cell_old (o := (.cells #[.int .i64 nn] 3)) hHeldn.2)
            clear hK
            try simp only [Act.put, List.setIfInBounds_toArray, List.set_cons_zero, List.set_cons_succ]
            refine wpAnyE_ready (rs := [12]) (by kernel_rfl) (by simp) ?_
            refine AllReadyE.cons rfl (fun K hK => ?_) AllReadyE.nil
            go_simp
            have cc : ((w5.drew.alloc (.cells #[.int .i64 (-nn)] 3)).alloc (.cells #[.int .i64 nn] 3)).cell? ⟨w5.heap.size + 1, 0, none⟩ = some (.int .i64 (nn)) := cell_new' (by simp) rfl
            refine (greatest_any (hi) (nn) cc).mono ?_
            rintro e w6 ⟨rfl, rfl⟩
            dsimp only
            refine hK.out _ _ (fun _ => hHeldnn) (fun _ => ?_)
            clear hK cc
            try simp only [Act.put, List.setIfInBounds_toArray, List.set_cons_zero, List.set_cons_succ]
            refine e_take 13 45 (.agg #[.int .i64 (min lo nn), .int .i64 (max hi nn)]) rfl rfl (by kernel_rfl) (by kernel_rfl) (by kernel_rfl) (by kernel_rfl) (fun _ _ _ h => h) (Or.inl ⟨by rfl, fun w hw => by dsimp only at hw; obtain ⟨h0, h1⟩ := hw; go_simp⟩) hHeldnn ?_
            simp only [List.setIfInBounds_toArray, List.set_cons_zero, List.set_cons_succ]
            obtain ⟨W6, hW6⟩ : ∃ W6, W6 = ((w5.drew.alloc (.cells #[.int .i64 (-nn)] 3)).alloc (.cells #[.int .i64 nn] 3)) := ⟨_, rfl⟩
            have hb6 : Below V1.heap.size V1 W6 := by rw [hW6]; (repeat' (first | exact Below.refl _ _ | assumption | with_reducible refine bdrew ?_ | with_reducible refine balloc ?_ _ | with_reducible refine bset ?_ _ _ (by first | omega | (simp; done) | (simp; omega) | (dsimp only; omega)) | with_reducible refine bb ?_ (by assumption)))
            rw [← hW6]
            clear hW6
            have HB6 := Lib.hid hb6
            have r6 := row_below hb6 K6.out zz3
            have c0 : W6.cell? ⟨w1.heap.size + 1, 0, none⟩ = some (.int .i64 lo) := cell_row' (i := 0) r6 rfl
            have c1 : W6.cell? ⟨w1.heap.size + 1, 1, none⟩ = some (.int .i64 hi) := cell_row' (i := 1) r6 rfl
            have f0 : W6.frozen? ⟨w1.heap.size + 1, 0, none⟩ = false := frozen_of_row _ _ 0 _ _ r6
            have f1 : W6.frozen? ⟨w1.heap.size + 1, 1, none⟩ = false := frozen_of_row _ _ 1 _ _ r6
            clear hb6 r6
            refine wpAnyE_ready (rs := [14]) (by kernel_rfl) (by simp) ?_
            refine AllReadyE.cons rfl (fun K hK => ?_) AllReadyE.nil
            go_simp
            refine hK.out _ _ (fun h => absurd rfl h) (fun _ => ?_)
            clear hK
            try simp only [Act.put, List.setIfInBounds_toArray, List.set_cons_zero, List.set_cons_succ]
            refine wpAnyE_done (by kernel_rfl) ?_ _
            exact HFIN.out W6 HB6.out
          · go_simp
            refine hK.out _ _ (fun _ => ⟨cell_old hHeldn.1, cell_old hHeldn.2⟩) (fun _ => ?_)
            have hHeldnn := And.intro (cell_old (o := (.cells #[.int .i64 nn] 3)) hHeldn.1) (cell_old (o := (.cells #[.int .i64 nn] 3)) hHeldn.2)
            clear hK
            try simp only [Act.put, List.setIfInBounds_toArray, List.set_cons_zero, List.set_cons_succ]
            refine wpAnyE_ready (rs := [6]) (by kernel_rfl) (by simp) ?_
            refine AllReadyE.cons rfl (fun K hK => ?_) AllReadyE.nil
            go_simp
            have cc : ((w5.drew.alloc (.cells #[.int .i64 (-nn)] 3)).alloc (.cells #[.int .i64 nn] 3)).cell? ⟨w5.heap.size, 0, none⟩ = some (.int .i64 (-nn)) := cell_old (cell_new' rfl rfl)
            refine (greatest_any (-lo) (-nn) cc).mono ?_
            rintro e w6 ⟨rfl, rfl⟩
            dsimp only
            refine hK.out _ _ (fun _ => hHeldnn) (fun _ => ?_)
            clear hK cc
            try simp only [Act.put, List.setIfInBounds_toArray, List.set_cons_zero, List.set_cons_succ]
            refine e_take 7 39 (.int .i64 (min lo nn)) rfl rfl (by kernel_rfl) (by kernel_rfl) (by kernel_rfl) (by kernel_rfl) (fun _ _ _ h => h) (Or.inl ⟨by rfl, fun w hw => by dsimp only at hw; obtain ⟨h0, h1⟩ := hw; go_simp⟩) hHeldnn ?_
            simp only [List.setIfInBounds_toArray, List.set_cons_zero, List.set_cons_succ]
            refine wpAnyE_ready (rs := [12]) (by kernel_rfl) (by simp) ?_
            refine AllReadyE.cons rfl (fun K hK => ?_) AllReadyE.nil
            go_simp
            have cc : ((w5.drew.alloc (.cells #[.int .i64 (-nn)] 3)).alloc (.cells #[.int .i64 nn] 3)).cell? ⟨w5.heap.size + 1, 0, none⟩ = some (.int .i64 (nn)) := cell_new' (by simp) rfl
            refine (greatest_any (hi) (nn) cc).mono ?_
            rintro e w6 ⟨rfl, rfl⟩
            dsimp only
            refine hK.out _ _ (fun _ => hHeldnn) (fun _ => ?_)
            clear hK cc
            try simp only [Act.put, List.setIfInBounds_toArray, List.set_cons_zero, List.set_cons_succ]
            refine e_take 13 45 (.agg #[.int .i64 (min lo nn), .int .i64 (max hi nn)]) rfl rfl (by kernel_rfl) (by kernel_rfl) (by kernel_rfl) (by kernel_rfl) (fun _ _ _ h => h) (Or.inl ⟨by rfl, fun w hw => by dsimp only at hw; obtain ⟨h0, h1⟩ := hw; go_simp⟩) hHeldnn ?_
            simp only [List.setIfInBounds_toArray, List.set_cons_zero, List.set_cons_succ]
            obtain ⟨W6, hW6⟩ : ∃ W6, W6 = ((w5.drew.alloc (.cells #[.int .i64 (-nn)] 3)).alloc (.cells #[.int .i64 nn] 3)) := ⟨_, rfl⟩
            have hb6 : Below V1.heap.size V1 W6 := by rw [hW6]; (repeat' (first | exact Below.refl _ _ | assumption | with_reducible refine bdrew ?_ | with_reducible refine balloc ?_ _ | with_reducible refine bset ?_ _ _ (by first | omega | (simp; done) | (simp; omega) | (dsimp only; omega)) | with_reducible refine bb ?_ (by assumption)))
            rw [← hW6]
            clear hW6
            have HB6 := Lib.hid hb6
            have r6 := row_below hb6 K6.out zz3
            have c0 : W6.cell? ⟨w1.heap.size + 1, 0, none⟩ = some (.int .i64 lo) := cell_row' (i := 0) r6 rfl
            have c1 : W6.cell? ⟨w1.heap.size + 1, 1, none⟩ = some (.int .i64 hi) := cell_row' (i := 1) r6 rfl
            have f0 : W6.frozen? ⟨w1.heap.size + 1, 0, none⟩ = false := frozen_of_row _ _ 0 _ _ r6
            have f1 : W6.frozen? ⟨w1.heap.size + 1, 1, none⟩ = false := frozen_of_row _ _ 1 _ _ r6
            clear hb6 r6
            refine wpAnyE_ready (rs := [14]) (by kernel_rfl) (by simp) ?_
            refine AllReadyE.cons rfl (fun K hK => ?_) AllReadyE.nil
            go_simp
            refine hK.out _ _ (fun h => absurd rfl h) (fun _ => ?_)
            clear hK
            try simp only [Act.put, List.setIfInBounds_toArray, List.set_cons_zero, List.set_cons_succ]
            refine wpAnyE_done (by kernel_rfl) ?_ _
            exact HFIN.out W6 HB6.out
        · go_simp
          refine hK.out _ _ (fun _ => ⟨cell_old hHeld.1, cell_old hHeld.2⟩) (fun _ => ?_)
          have hHeldn := And.intro (cell_old (o := (.cells #[.int .i64 nn] 3)) hHeld.1) (cell_old (o := (.cells #[.int .i64 nn] 3)) hHeld.2)
          clear hK
          try simp only [Act.put, List.setIfInBounds_toArray, List.set_cons_zero, List.set_cons_succ]
          refine wpAnyE_ready (rs := [5]) (by kernel_rfl) (by simp) ?_
          refine AllReadyE.cons rfl (fun K hK => ?_) AllReadyE.nil
          go_simp
          refine hK.out _ _ (fun _ => ⟨cell_old hHeldn.1, cell_old hHeldn.2⟩) (fun _ => ?_)
          have hHeldnn := And.intro (cell_old (o := (.cells #[.int .i64 (-nn)] 3)) hHeldn.1) (cell_old (o := (.cells #[.int .i64 (-nn)] 3)) hHeldn.2)
          clear hK
          try simp only [Act.put, List.setIfInBounds_toArray, List.set_cons_zero, List.set_cons_succ]
          refine wpAnyE_ready (rs := [6]) (by kernel_rfl) (by simp) ?_
          refine AllReadyE.cons rfl (fun K hK => ?_) AllReadyE.nil
          go_simp
          have cc : ((w5.drew.alloc (.cells #[.int .i64 nn] 3)).alloc (.cells #[.int .i64 (-nn)] 3)).cell? ⟨w5.heap.size + 1, 0, none⟩ = some (.int .i64 (-nn)) := cell_new' (by simp) rfl
          refine (greatest_any (-lo) (-nn) cc).mono ?_
          rintro e w6 ⟨rfl, rfl⟩
          dsimp only
          refine hK.out _ _ (fun _ => hHeldnn) (fun _ => ?_)
          clear hK cc
          try simp only [Act.put, List.setIfInBounds_toArray, List.set_cons_zero, List.set_cons_succ]
          refine e_take 7 39 (.int .i64 (min lo nn)) rfl rfl (by kernel_rfl) (by kernel_rfl) (by kernel_rfl) (by kernel_rfl) (fun _ _ _ h => h) (Or.inl ⟨by rfl, fun w hw => by dsimp only at hw; obtain ⟨h0, h1⟩ := hw; go_simp⟩) hHeldnn ?_
          simp only [List.setIfInBounds_toArray, List.set_cons_zero, List.set_cons_succ]
          refine wpAnyE_ready (rs := [12]) (by kernel_rfl) (by simp) ?_
          refine AllReadyE.cons rfl (fun K hK => ?_) AllReadyE.nil
          go_simp
          have cc : ((w5.drew.alloc (.cells #[.int .i64 nn] 3)).alloc (.cells #[.int .i64 (-nn)] 3)).cell? ⟨w5.heap.size, 0, none⟩ = some (.int .i64 (nn)) := cell_old (cell_new' rfl rfl)
          refine (greatest_any (hi) (nn) cc).mono ?_
          rintro e w6 ⟨rfl, rfl⟩
          dsimp only
          refine hK.out _ _ (fun _ => hHeldnn) (fun _ => ?_)
          clear hK cc
          try simp only [Act.put, List.setIfInBounds_toArray, List.set_cons_zero, List.set_cons_succ]
          refine e_take 13 45 (.agg #[.int .i64 (min lo nn), .int .i64 (max hi nn)]) rfl rfl (by kernel_rfl) (by kernel_rfl) (by kernel_rfl) (by kernel_rfl) (fun _ _ _ h => h) (Or.inl ⟨by rfl, fun w hw => by dsimp only at hw; obtain ⟨h0, h1⟩ := hw; go_simp⟩) hHeldnn ?_
          simp only [List.setIfInBounds_toArray, List.set_cons_zero, List.set_cons_succ]
          obtain ⟨W6, hW6⟩ : ∃ W6, W6 = ((w5.drew.alloc (.cells #[.int .i64 nn] 3)).alloc (.cells #[.int .i64 (-nn)] 3)) := ⟨_, rfl⟩
          have hb6 : Below V1.heap.size V1 W6 := by rw [hW6]; (repeat' (first | exact Below.refl _ _ | assumption | with_reducible refine bdrew ?_ | with_reducible refine balloc ?_ _ | with_reducible refine bset ?_ _ _ (by first | omega | (simp; done) | (simp; omega) | (dsimp only; omega)) | with_reducible refine bb ?_ (by assumption)))
          rw [← hW6]
          clear hW6
          have HB6 := Lib.hid hb6
          have r6 := row_below hb6 K6.out zz3
          have c0 : W6.cell? ⟨w1.heap.size + 1, 0, none⟩ = some (.int .i64 lo) := cell_row' (i := 0) r6 rfl
          have c1 : W6.cell? ⟨w1.heap.size + 1, 1, none⟩ = some (.int .i64 hi) := cell_row' (i := 1) r6 rfl
          have f0 : W6.frozen? ⟨w1.heap.size + 1, 0, none⟩ = false := frozen_of_row _ _ 0 _ _ r6
          have f1 : W6.frozen? ⟨w1.heap.size + 1, 1, none⟩ = false := frozen_of_row _ _ 1 _ _ r6
          clear hb6 r6
          refine wpAnyE_ready (rs := [14]) (by kernel_rfl) (by simp) ?_
          refine AllReadyE.cons rfl (fun K hK => ?_) AllReadyE.nil
          go_simp
          refine hK.out _ _ (fun h => absurd rfl h) (fun _ => ?_)
          clear hK
          try simp only [Act.put, List.setIfInBounds_toArray, List.set_cons_zero, List.set_cons_succ]
          refine wpAnyE_done (by kernel_rfl) ?_ _
          exact HFIN.out W6 HB6.out
    · have HO := Lib.hid (show wholeS l cs = ((0, 0), 11) by unfold wholeS; rw [if_pos ok, if_neg hin])
      rw [HO.out]
      have hin' : l.isCut 0 cs = false := by simpa using hin
      rw [hin'] at HR
      clear hin hin'
      go_enter Tryd.func28, Tryd.ntmps28
      go_wp2_with fail
      refine (asked_no H.out _ _ HR.out).mono ?_
      rintro e w1 ⟨rfl, hb1⟩
      obtain ⟨hc1, hf1⟩ := bcell hb1
      have hz1 : w.heap.size + 1 + 1 < w1.heap.size := by have := hb1.size; simp at this; omega
      have hz2 : w.heap.size + 1 < w1.heap.size := by omega
      have HB := Lib.hid (bb hB hb1)
      clear hb1
      unfold zeroLog
      go_wp2_with fail
      refine bodyPost_ret (v := .tuple #[.agg #[.int .i64 0, .int .i64 0], .int .i64 11]) (by simp [results, Tryd.results28, go_sem, hc1, hz1]) rfl ⟨rfl, ?_⟩
      have hbx := HB.out
      (repeat' (first | exact Below.refl _ _ | assumption | with_reducible refine bdrew ?_ | with_reducible refine balloc ?_ _ | with_reducible refine bset ?_ _ _ (by first | omega | (simp; done) | (simp; omega) | (dsimp only; omega)) | with_reducible refine bb ?_ (by assumption)))
  · have hB := (((Below.refl _ w).alloc (Nat.le_refl _) (.cells #[.slice A l.long.length c, .int .i64 l.size, .slice B l.knots.length d] 25)).alloc (by simp) (.cells #[.slice C cs.length n] 22)).alloc (by simp; omega) (.cells #[.int .i64 0, .int .i64 0] 39)
    have H := Lib.hid (h.below hB)
    have HO := Lib.hid (show wholeS l cs = ((0, 0), 10) from if_neg ok)
    clear h he hC
    rw [HO.out]
    go_enter Tryd.func28, Tryd.ntmps28
    go_wp2_with fail
    refine (asked_bad H.out _ _ ok).mono ?_
    rintro e w1 ⟨rfl, hb1⟩
    obtain ⟨hc1, hf1⟩ := bcell hb1
    have hz1 : w.heap.size + 1 + 1 < w1.heap.size := by have := hb1.size; simp at this; omega
    have hz2 : w.heap.size + 1 < w1.heap.size := by omega
    have HB := Lib.hid (bb hB hb1)
    clear hb1
    unfold zeroLog
    go_wp2_with fail
    refine bodyPost_ret (v := .tuple #[.agg #[.int .i64 0, .int .i64 0], .int .i64 10]) (by simp [results, Tryd.results28, go_sem, hc1, hz1]) rfl ⟨rfl, ?_⟩
    have hbx := HB.out
    (repeat' (first | exact Below.refl _ _ | assumption | with_reducible refine bdrew ?_ | with_reducible refine balloc ?_ _ | with_reducible refine bset ?_ _ _ (by first | omega | (simp; done) | (simp; omega) | (dsimp only; omega)) | with_reducible refine bb ?_ (by assumption)))
end Go.Proofs.YtigofgdmefobaaaDoor.Peel
