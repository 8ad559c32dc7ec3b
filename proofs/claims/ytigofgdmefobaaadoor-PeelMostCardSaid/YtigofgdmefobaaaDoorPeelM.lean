/- Walks of package peel: mark. -/
import Derived.Test.YtigofgdmefobaaaDoorMap
import Derived.Test.YtigofgdmefobaaaDoorRow
import Derived.Test.YtigofgdmefobaaaDoorIter
set_option linter.unusedVariables false
set_option linter.unusedSimpArgs false
namespace Go.Proofs.YtigofgdmefobaaaDoor.Peel
open Go.RowKit Go.Proofs.YtigofgdmefobaaaDoor.Iter

theorem blk_set' {w : World} {g : Nat} {t : TypeId} {cs : Array Value} (h : w.heap[g]? = some (.cells cs t (0, 0))) (i : Nat) (u : Value) : (w.setCell ⟨g, i, none⟩ u).heap[g]? = some (.cells (cs.setIfInBounds i u) t (0, 0)) := by
  simp [World.setCell, Array.getElem?_modify, h]
/-- Only what lies in block m, of what lay before, has been turned. -/
abbrev Turned (m : Nat) (w w1 : World) : Prop := Stays (fun b => b = m) w w1
theorem turned_below {m : Nat} {w w1 w2 : World} (h : Below w.heap.size w w1) (k : Turned m w1 w2) : Turned m w w2 := (Stays.of_below h).trans k
set_option maxHeartbeats 2000000 in
theorem mark_any {w : World} {l : PL} {a : Addr} {B : Option Addr} {c d m : Nat} (h : LogAt w l a B c d) (s1 s2 : Int) (h1 : 0 ≤ s1) (h2 : s1 ≤ 23) (h3 : 0 ≤ s2) (h4 : s2 ≤ l.long.length) (hm : MarksAt l m w) :
    Calls Tryd.prog 89 #[.agg #[.slice (some a) l.long.length c, .int .i64 l.size, .slice B l.knots.length d, .map (some m)], .agg #[.int .i64 s1, .int .i64 s2]] w fun e w' => e = .returned (.agg (rv (l.mark (s1, s2)))) ∧ Turned m w w' ∧ MarksAt l m w' := by
  obtain ⟨es, clock, hm0, hc⟩ := hm
  have hm00 := hm0
  have hmlt : m < w.heap.size := (Array.getElem?_eq_some_iff.1 hm0).1
  have hB := (((Below.refl _ w).alloc (Nat.le_refl _) (.cells #[.slice (some a) l.long.length c, .int .i64 l.size, .slice B l.knots.length d, .map (some m)] 75)).alloc (by simp) (.cells #[.int .i64 s1, .int .i64 s2] 102)).alloc (by simp; omega) (.cells (rv none72) 86)
  have hm1 := (hB.block m hmlt).trans hm0
  rcases findKey_spot (s1, s2) es hc with hs | ⟨j, hs⟩
  · have hr := lookup_missing (s1, s2) hm1 hs
    dsimp only [keyV] at hr
    have HC := Lib.hid hc
    have HS := Lib.hid hs
    have HM := Lib.hid hm00
    have H := Lib.hid h
    have hlen := h.ok.turns
    clear h hs hB hc hm1 hm0 hm00
    go_enter Tryd.func89, Tryd.ntmps89
    go_upto_region 4 with (first | ((with_reducible refine gate_alloc 86 rfl ?_); refine ev_alloc_rib rfl rfl ?_) | ((with_reducible refine gate_load 86 rfl ?_); refine ev_load_rib rfl _ rfl _ rfl none72 (by (repeat (first | with_reducible assumption | with_reducible exact row_new | with_reducible refine row_drew ?_ | with_reducible apply row_same | with_reducible refine row_diff ?_ (by first | omega | (simp only [World.size_alloc, size_setRow, size_drew', World.size_setCell]; omega)) | with_reducible refine row_far ?_ (by (try dsimp only); first | omega | (simp only [World.size_alloc, size_setRow, size_drew', World.size_setCell]; omega)) | with_reducible refine row_new' (by first | (simp only [World.size_alloc, size_setRow, size_drew', World.size_setCell]; done) | omega | (simp only [World.size_alloc, size_setRow, size_drew', World.size_setCell]; omega)) | with_reducible refine row_old ?_ | with_reducible refine row_below (by assumption) ?_ (by first | omega | (simp only [World.size_alloc, size_setRow, size_drew', World.size_setCell]; omega))))) ?_) | ((with_reducible refine gate_store 86 rfl ?_); refine ev_store_rib rfl rfl _ _ rfl _ rfl none72 none72 rfl (by (repeat (first | with_reducible assumption | with_reducible exact row_new | with_reducible refine row_drew ?_ | with_reducible apply row_same | with_reducible refine row_diff ?_ (by first | omega | (simp only [World.size_alloc, size_setRow, size_drew', World.size_setCell]; omega)) | with_reducible refine row_far ?_ (by (try dsimp only); first | omega | (simp only [World.size_alloc, size_setRow, size_drew', World.size_setCell]; omega)) | with_reducible refine row_new' (by first | (simp only [World.size_alloc, size_setRow, size_drew', World.size_setCell]; done) | omega | (simp only [World.size_alloc, size_setRow, size_drew', World.size_setCell]; omega)) | with_reducible refine row_old ?_ | with_reducible refine row_below (by assumption) ?_ (by first | omega | (simp only [World.size_alloc, size_setRow, size_drew', World.size_setCell]; omega))))) ?_))
    clear hr
    -- the world behind the look-up
    generalize hW5 : ((((w.alloc (.cells #[.slice (some a) l.long.length c, .int .i64 l.size, .slice B l.knots.length d, .map (some m)] 75)).alloc (.cells #[.int .i64 s1, .int .i64 s2] 102)).alloc (.cells (rv none72) 86)).alloc (.cells (rv none72) 86)).setRow (w.heap.size + 1 + 1 + 1) (rv none72) = W5
    have hb5 : Below w.heap.size w W5 := by rw [← hW5]; exact ((((Below.refl _ w).alloc (Nat.le_refl _) _).alloc (by simp) _).alloc (by simp; omega) _).alloc (by simp; omega) _ |>.trans ((only_setRow _ _ _).below (by omega))
    have z5 : W5.heap.size = w.heap.size + 4 := by rw [← hW5]; simp
    have r0 : W5.heap[w.heap.size]? = some (.cells #[.slice (some a) l.long.length c, .int .i64 l.size, .slice B l.knots.length d, .map (some m)] 75 (0, 0)) := by rw [← hW5]; (repeat (first | with_reducible assumption | with_reducible exact row_new | with_reducible refine row_drew ?_ | with_reducible apply row_same | with_reducible refine row_diff ?_ (by first | omega | (simp only [World.size_alloc, size_setRow, size_drew', World.size_setCell]; omega)) | with_reducible refine row_far ?_ (by (try dsimp only); first | omega | (simp only [World.size_alloc, size_setRow, size_drew', World.size_setCell]; omega)) | with_reducible refine row_new' (by first | (simp only [World.size_alloc, size_setRow, size_drew', World.size_setCell]; done) | omega | (simp only [World.size_alloc, size_setRow, size_drew', World.size_setCell]; omega)) | with_reducible refine row_old ?_ | with_reducible refine row_below (by assumption) ?_ (by first | omega | (simp only [World.size_alloc, size_setRow, size_drew', World.size_setCell]; omega))))
    have r1 : W5.heap[w.heap.size + 1]? = some (.cells #[.int .i64 s1, .int .i64 s2] 102 (0, 0)) := by rw [← hW5]; (repeat (first | with_reducible assumption | with_reducible exact row_new | with_reducible refine row_drew ?_ | with_reducible apply row_same | with_reducible refine row_diff ?_ (by first | omega | (simp only [World.size_alloc, size_setRow, size_drew', World.size_setCell]; omega)) | with_reducible refine row_far ?_ (by (try dsimp only); first | omega | (simp only [World.size_alloc, size_setRow, size_drew', World.size_setCell]; omega)) | with_reducible refine row_new' (by first | (simp only [World.size_alloc, size_setRow, size_drew', World.size_setCell]; done) | omega | (simp only [World.size_alloc, size_setRow, size_drew', World.size_setCell]; omega)) | with_reducible refine row_old ?_ | with_reducible refine row_below (by assumption) ?_ (by first | omega | (simp only [World.size_alloc, size_setRow, size_drew', World.size_setCell]; omega))))
    have r2 : W5.heap[w.heap.size + 1 + 1]? = some (.cells (rv none72) 86 (0, 0)) := by rw [← hW5]; (repeat (first | with_reducible assumption | with_reducible exact row_new | with_reducible refine row_drew ?_ | with_reducible apply row_same | with_reducible refine row_diff ?_ (by first | omega | (simp only [World.size_alloc, size_setRow, size_drew', World.size_setCell]; omega)) | with_reducible refine row_far ?_ (by (try dsimp only); first | omega | (simp only [World.size_alloc, size_setRow, size_drew', World.size_setCell]; omega)) | with_reducible refine row_new' (by first | (simp only [World.size_alloc, size_setRow, size_drew', World.size_setCell]; done) | omega | (simp only [World.size_alloc, size_setRow, size_drew', World.size_setCell]; omega)) | with_reducible refine row_old ?_ | with_reducible refine row_below (by assumption) ?_ (by first | omega | (simp only [World.size_alloc, size_setRow, size_drew', World.size_setCell]; omega))))
    have H5 := Lib.hid hb5
    clear hW5 hb5
    go_wp2_with fail
    refine (clean_any W5).mono ?_
    rintro e w6 ⟨rfl, hb6⟩
    have z6 := hb6.size
    have p0 := row_below hb6 r0 (by omega)
    have p1 := row_below hb6 r1 (by omega)
    have p2 := row_below hb6 r2 (by omega)
    have H6 := Lib.hid (bb H5.out hb6)
    clear hb6 r0 r1 r2
    go_upto_region 5 with (first | ((with_reducible refine gate_alloc 86 rfl ?_); refine ev_alloc_rib rfl rfl ?_) | ((with_reducible refine gate_store 86 rfl ?_); refine ev_store_rib rfl rfl _ _ rfl _ rfl none72 none72 rfl (by (repeat (first | with_reducible assumption | with_reducible exact row_new | with_reducible refine row_drew ?_ | with_reducible apply row_same | with_reducible refine row_diff ?_ (by first | omega | (simp only [World.size_alloc, size_setRow, size_drew', World.size_setCell]; omega)) | with_reducible refine row_far ?_ (by (try dsimp only); first | omega | (simp only [World.size_alloc, size_setRow, size_drew', World.size_setCell]; omega)) | with_reducible refine row_new' (by first | (simp only [World.size_alloc, size_setRow, size_drew', World.size_setCell]; done) | omega | (simp only [World.size_alloc, size_setRow, size_drew', World.size_setCell]; omega)) | with_reducible refine row_old ?_ | with_reducible refine row_below (by assumption) ?_ (by first | omega | (simp only [World.size_alloc, size_setRow, size_drew', World.size_setCell]; omega))))) ?_))
    have hal : Below w6.heap.size w6 ((w6.alloc (.cells (rv none72) 86)).setRow w6.heap.size (rv none72)) := ((Below.refl _ w6).alloc (Nat.le_refl _) _).trans ((only_setRow _ _ _).below (Nat.le_refl _))
    have s0 := cell_row' (i := 1) (row_below hal p1 (by omega)) rfl
    have g0 : ((w6.alloc (.cells (rv none72) 86)).setRow w6.heap.size (rv none72)).heap[w6.heap.size]? = some (.cells (rv none72) 86 (0, 0)) := by (repeat (first | with_reducible assumption | with_reducible exact row_new | with_reducible refine row_drew ?_ | with_reducible apply row_same | with_reducible refine row_diff ?_ (by first | omega | (simp only [World.size_alloc, size_setRow, size_drew', World.size_setCell]; omega)) | with_reducible refine row_far ?_ (by (try dsimp only); first | omega | (simp only [World.size_alloc, size_setRow, size_drew', World.size_setCell]; omega)) | with_reducible refine row_new' (by first | (simp only [World.size_alloc, size_setRow, size_drew', World.size_setCell]; done) | omega | (simp only [World.size_alloc, size_setRow, size_drew', World.size_setCell]; omega)) | with_reducible refine row_old ?_ | with_reducible refine row_below (by assumption) ?_ (by first | omega | (simp only [World.size_alloc, size_setRow, size_drew', World.size_setCell]; omega))))
    obtain ⟨u, rfl⟩ := Int.eq_ofNat_of_zero_le h3
    have G0 := Lib.hid g0
    have HAL := Lib.hid hal
    clear g0 hal
    go_wp2_with fail
    go_loopw [8] (fun p wr => ∃ k : Nat, p = .int .i64 k ∧ u ≤ k ∧ k ≤ l.long.length ∧ wr.heap[w6.heap.size]? = some (.cells (rv (l.markTo (s1, u) k)) 86 (0, 0)) ∧ Below w6.heap.size w6 wr)
      (fun p _ => l.long.length - (intOf p).toNat)
    case atStart => exact ⟨u, rfl, Nat.le_refl _, by omega, by rw [markTo_first l (s1, (u : Int)) u (Int.le_refl _)]; exact G0.out, HAL.out⟩
    case round =>
      obtain ⟨k, rfl, hk1, hk2, hrow, hbr⟩ := hrel
      have q0 := row_below hbr p0 (by omega)
      have q1 := row_below hbr p1 (by omega)
      have q2 := row_below hbr p2 (by omega)
      have c0 := cell_row' (i := 0) q0 rfl
      have c1 := cell_row' (i := 1) q0 rfl
      have c2 := cell_row' (i := 2) q0 rfl
      have c3 := cell_row' (i := 3) q0 rfl
      have d0 := cell_row' (i := 0) q1 rfl
      have d1 := cell_row' (i := 1) q1 rfl
      have HQ := Lib.hid q0
      have HROW := Lib.hid hrow
      have HBR := Lib.hid hbr
      have zr := hbr.size
      clear hrow hbr
      by_cases hlt : k < l.long.length
      · have hcol := col_all (H.out.ok) k s1 hlt h1 h2
        have hall := all_bd (H.out.ok)
        have HSU := Lib.hid (markTo_succ l (s1, (u : Int)) k (by simpa using hk1))
        clear q0 q1
        go_wp2_with fail
        refine (column_any m (H.out.below (bb H6.out HBR.out)) (k : Int) s1 (by omega) (by omega) h1 h2).mono ?_
        rintro e w7 ⟨rfl, hb7⟩
        simp only [Int.toNat_natCast]
        have hw7 := Lib.hid (row_below hb7 HROW.out (Array.getElem?_eq_some_iff.1 HROW.out).1)
        have HB7 := Lib.hid hb7
        have z7 := hb7.size
        clear hb7
        obtain ⟨cc, hcc⟩ := Int.eq_ofNat_of_zero_le hcol.1
        simp only [hcc] at hcol HSU ⊢
        have hlt7 : cc < 72 := by omega
        have x0 : w7.cell? ⟨w6.heap.size, cc, none⟩ = some (.bool (l.markTo (s1, (u : Int)) k cc)) := cell_row' hw7.out (rv_get _ cc hlt7)
        have x1 : w7.frozen? ⟨w6.heap.size, cc, none⟩ = false := frozen_of_row w7 w6.heap.size cc _ _ hw7.out
        have hc72 : (cc : Int) < 72 := by omega
        have hc0 : (0 : Int) ≤ (cc : Int) := by omega
        clear c0 c1 c2 c3 d0 d1
        go_wp2_with fail
        refine ⟨⟨k + 1, by go_num, by omega, by omega, ?_, ((HBR.out.trans (HB7.out.mono zr)).setCell (Nat.le_refl _) _)⟩, by simp [intOf]; omega⟩
        rw [blk_set' hw7.out cc (.bool true), rv_set]
        congr 2
        refine rv_congr fun i hi => ?_
        rw [HSU.out i]
        by_cases hic : i = cc
        · subst hic; simp
        · have : ¬ (cc : Int) = (i : Int) := by omega
          simp [hic, this]
      · obtain rfl : k = l.long.length := by omega
        have hmw : wr.heap[m]? = some (.map es clock) := row_below HBR.out (row_below H6.out HM.out hmlt) (by have := H6.out.size; omega)
        have hup := update_marks (s1, (u : Int)) (.agg (rv (l.markTo (s1, (u : Int)) l.long.length))) hmw HS.out
        dsimp only [keyV] at hup
        have hrow := HROW.out
        obtain ⟨W8, hW8⟩ : ∃ W8 : World, W8 = wr.putObj m (.map (es.push { key := keyV (s1, (u : Int)), val := .agg (rv (l.markTo (s1, (u : Int)) l.long.length)), born := clock }) (clock + 1)) := ⟨_, rfl⟩
        have hup' : (Instr.mapUpdate 73 (.map (some m)) (.agg #[.int .i64 s1, .int .i64 u]) (.agg (rv (l.markTo (s1, (u : Int)) l.long.length)))).run Tryd.prog wr = .ok () W8 := by rw [hW8]; exact hup
        have o7 : W8.heap[w6.heap.size]? = some (.cells (rv (l.markTo (s1, (u : Int)) l.long.length)) 86 (0, 0)) := by rw [hW8]; exact (World.putObj_heap_other (by have := H6.out.size; omega)).trans hrow
        have o2 : W8.heap[w.heap.size + 1 + 1]? = some (.cells (rv none72) 86 (0, 0)) := by rw [hW8]; exact (World.putObj_heap_other (by omega)).trans q2
        have om : W8.heap[m]? = some (.map (es.push { key := keyV (s1, (u : Int)), val := .agg (rv (l.markTo (s1, (u : Int)) l.long.length)), born := clock }) (clock + 1)) := by rw [hW8]; exact World.putObj_heap_same (by have := H6.out.size; omega)
        have hst : Turned m w W8 := by
          rw [hW8]
          exact (turned_below (H6.out.trans (HBR.out.mono (H6.out.size))) (stays_putObj _ _ _ rfl))
        have HST := Lib.hid hst
        have HOM := Lib.hid om
        have HWR := Lib.hid hW8
        clear hW8 hup hmw q0 q1 q2 hst om
        go_wp2_with (first | ((with_reducible refine gate_load 86 rfl ?_); refine ev_load_rib rfl _ rfl _ rfl (l.markTo (s1, (u : Int)) l.long.length) (by (repeat (first | with_reducible assumption | with_reducible exact row_new | with_reducible refine row_drew ?_ | with_reducible apply row_same | with_reducible refine row_diff ?_ (by first | omega | (simp only [World.size_alloc, size_setRow, size_drew', World.size_setCell]; omega)) | with_reducible refine row_far ?_ (by (try dsimp only); first | omega | (simp only [World.size_alloc, size_setRow, size_drew', World.size_setCell]; omega)) | with_reducible refine row_new' (by first | (simp only [World.size_alloc, size_setRow, size_drew', World.size_setCell]; done) | omega | (simp only [World.size_alloc, size_setRow, size_drew', World.size_setCell]; omega)) | with_reducible refine row_old ?_ | with_reducible refine row_below (by assumption) ?_ (by first | omega | (simp only [World.size_alloc, size_setRow, size_drew', World.size_setCell]; omega))))) ?_) | ((with_reducible refine gate_store 86 rfl ?_); refine ev_store_rib rfl rfl _ _ rfl _ rfl none72 (l.markTo (s1, (u : Int)) l.long.length) rfl (by (repeat (first | with_reducible assumption | with_reducible exact row_new | with_reducible refine row_drew ?_ | with_reducible apply row_same | with_reducible refine row_diff ?_ (by first | omega | (simp only [World.size_alloc, size_setRow, size_drew', World.size_setCell]; omega)) | with_reducible refine row_far ?_ (by (try dsimp only); first | omega | (simp only [World.size_alloc, size_setRow, size_drew', World.size_setCell]; omega)) | with_reducible refine row_new' (by first | (simp only [World.size_alloc, size_setRow, size_drew', World.size_setCell]; done) | omega | (simp only [World.size_alloc, size_setRow, size_drew', World.size_setCell]; omega)) | with_reducible refine row_old ?_ | with_reducible refine row_below (by assumption) ?_ (by first | omega | (simp only [World.size_alloc, size_setRow, size_drew', World.size_setCell]; omega))))) ?_))
        have hg : (W8.setRow (w.heap.size + 1 + 1) (rv (l.markTo (s1, (u : Int)) l.long.length))).heap[w.heap.size + 1 + 1]? = some (.cells (rv (l.markTo (s1, (u : Int)) l.long.length)) 86 (0, 0)) := by (repeat (first | with_reducible assumption | with_reducible exact row_new | with_reducible refine row_drew ?_ | with_reducible apply row_same | with_reducible refine row_diff ?_ (by first | omega | (simp only [World.size_alloc, size_setRow, size_drew', World.size_setCell]; omega)) | with_reducible refine row_far ?_ (by (try dsimp only); first | omega | (simp only [World.size_alloc, size_setRow, size_drew', World.size_setCell]; omega)) | with_reducible refine row_new' (by first | (simp only [World.size_alloc, size_setRow, size_drew', World.size_setCell]; done) | omega | (simp only [World.size_alloc, size_setRow, size_drew', World.size_setCell]; omega)) | with_reducible refine row_old ?_ | with_reducible refine row_below (by assumption) ?_ (by first | omega | (simp only [World.size_alloc, size_setRow, size_drew', World.size_setCell]; omega))))
        have hmz : m < W8.heap.size := (Array.getElem?_eq_some_iff.1 HOM.out).1
        refine bodyPost_ret (results_cell_row rfl _ _ _ _ _ _ _ rfl hg undRib rfl (by rw [rv_size]; exact sizeRib)) rfl ⟨rfl, ?_, ?_⟩
        · have := HST.out.ext.size
          refine ⟨HST.out.ext.trans (Ext.below ((only_setRow _ _ _).below (Nat.zero_le _))), fun b hb hne => ?_⟩
          exact (setRow_other _ _ _ _ (by omega)).trans (HST.out.block b hb hne)
        · exact ⟨_, _, row_diff HOM.out (by omega), HC.out.push (s1, (u : Int)) clock⟩
  · have hr := lookup_found (s1, s2) hm1 hs
    dsimp only [keyV] at hr
    have HC := Lib.hid hc
    have HB := Lib.hid hB
    have HM := Lib.hid hm00
    clear h hs hB hc hm1 hm0 hmlt hm00
    go_enter Tryd.func89, Tryd.ntmps89
    go_upto_region 1 with (first | ((with_reducible refine gate_alloc 86 rfl ?_); refine ev_alloc_rib rfl rfl ?_))
    go_wp2_with (first | ((with_reducible refine gate_alloc 86 rfl ?_); refine ev_alloc_rib rfl rfl ?_) | ((with_reducible refine gate_load 86 rfl ?_); refine ev_load_rib rfl _ rfl _ rfl (l.mark (s1, s2)) (by (repeat (first | with_reducible assumption | with_reducible exact row_new | with_reducible refine row_drew ?_ | with_reducible apply row_same | with_reducible refine row_diff ?_ (by first | omega | (simp only [World.size_alloc, size_setRow, size_drew', World.size_setCell]; omega)) | with_reducible refine row_far ?_ (by (try dsimp only); first | omega | (simp only [World.size_alloc, size_setRow, size_drew', World.size_setCell]; omega)) | with_reducible refine row_new' (by first | (simp only [World.size_alloc, size_setRow, size_drew', World.size_setCell]; done) | omega | (simp only [World.size_alloc, size_setRow, size_drew', World.size_setCell]; omega)) | with_reducible refine row_old ?_ | with_reducible refine row_below (by assumption) ?_ (by first | omega | (simp only [World.size_alloc, size_setRow, size_drew', World.size_setCell]; omega))))) ?_) | ((with_reducible refine gate_store 86 rfl ?_); refine ev_store_rib rfl rfl _ _ rfl _ rfl none72 (l.mark (s1, s2)) rfl (by (repeat (first | with_reducible assumption | with_reducible exact row_new | with_reducible refine row_drew ?_ | with_reducible apply row_same | with_reducible refine row_diff ?_ (by first | omega | (simp only [World.size_alloc, size_setRow, size_drew', World.size_setCell]; omega)) | with_reducible refine row_far ?_ (by (try dsimp only); first | omega | (simp only [World.size_alloc, size_setRow, size_drew', World.size_setCell]; omega)) | with_reducible refine row_new' (by first | (simp only [World.size_alloc, size_setRow, size_drew', World.size_setCell]; done) | omega | (simp only [World.size_alloc, size_setRow, size_drew', World.size_setCell]; omega)) | with_reducible refine row_old ?_ | with_reducible refine row_below (by assumption) ?_ (by first | omega | (simp only [World.size_alloc, size_setRow, size_drew', World.size_setCell]; omega))))) ?_))
    have hb5 : Below w.heap.size w (((((((w.alloc (.cells #[.slice (some a) l.long.length c, .int .i64 l.size, .slice B l.knots.length d, .map (some m)] 75)).alloc (.cells #[.int .i64 s1, .int .i64 s2] 102)).alloc (.cells (rv none72) 86)).alloc (.cells (rv none72) 86)).setRow (w.heap.size + 1 + 1 + 1) (rv (l.mark (s1, s2)))).setRow (w.heap.size + 1 + 1) (rv (l.mark (s1, s2))))) :=
      (((HB.out.alloc (HB.out.size) _).trans ((only_setRow _ _ _).below (by omega))).trans ((only_setRow _ _ _).below (by omega)))
    exact bodyPost_ret (results_cell_row rfl _ _ _ _ _ _ _ rfl (by (repeat (first | with_reducible assumption | with_reducible exact row_new | with_reducible refine row_drew ?_ | with_reducible apply row_same | with_reducible refine row_diff ?_ (by first | omega | (simp only [World.size_alloc, size_setRow, size_drew', World.size_setCell]; omega)) | with_reducible refine row_far ?_ (by (try dsimp only); first | omega | (simp only [World.size_alloc, size_setRow, size_drew', World.size_setCell]; omega)) | with_reducible refine row_new' (by first | (simp only [World.size_alloc, size_setRow, size_drew', World.size_setCell]; done) | omega | (simp only [World.size_alloc, size_setRow, size_drew', World.size_setCell]; omega)) | with_reducible refine row_old ?_ | with_reducible refine row_below (by assumption) ?_ (by first | omega | (simp only [World.size_alloc, size_setRow, size_drew', World.size_setCell]; omega))))) undRib rfl (by rw [rv_size]; exact sizeRib)) rfl ⟨rfl, Stays.of_below hb5, (MarksAt.below ⟨es, clock, HM.out, HC.out⟩ hb5)⟩
end Go.Proofs.YtigofgdmefobaaaDoor.Peel
