/- Walks of package peel: Hope. -/
import Derived.Test.YtigofgdmefobaaaDoorPeelU
import Derived.Test.YtigofgdmefobaaaDoorBridge
set_option linter.unusedVariables false
set_option linter.unusedSimpArgs false
namespace Go.Proofs.YtigofgdmefobaaaDoor.Peel
open Go.RowKit Go.Proofs.YtigofgdmefobaaaDoor.Iter
attribute [local go_sem] Oper.semAt_some

/-- The most pieces that can be whole, of several truths. -/
def PL.most (l : PL) (rs : List (Nat → Bool)) : Int := rs.foldl (fun n r => max n ((l.cut r).length : Int)) 0
def PL.hope (l : PL) : Int := l.most (l.truths l.knots none72)
theorem most_succ (l : PL) (rs : List (Nat → Bool)) (i : Nat) (x : Nat → Bool) (h : rs[i]? = some x) : l.most (rs.take (i + 1)) = max (l.most (rs.take i)) ((l.cut x).length : Int) := by
  obtain ⟨hi, he⟩ := List.getElem?_eq_some_iff.1 h
  unfold PL.most
  rw [List.take_succ_eq_append_getElem hi, List.foldl_append, he]
  rfl
def hopeS (l : PL) : Int × Int := if l.Ok then (l.hope, 0) else (0, 10)
set_option maxRecDepth 8000 in
set_option maxHeartbeats 8000000 in
theorem hope_any {w : World} {l : PL} {A B : Option Addr} {c d : Nat} (h : RawAt w l A B c d) (he : EndsAt w) :
    Calls Tryd.prog 35 #[.agg #[.slice A l.long.length c, .int .i64 l.size, .slice B l.knots.length d]] w fun e w' => e = .returned (.tuple #[.int .i64 (hopeS l).1, .int .i64 (hopeS l).2]) ∧ Below w.heap.size w w' := by
  by_cases ok : l.Ok
  · obtain ⟨a, rfl, hl⟩ := h.at ok
    have hB := (Below.refl _ w).alloc (Nat.le_refl _) (.cells #[.slice (some a) l.long.length c, .int .i64 l.size, .slice B l.knots.length d] 25)
    have H := Lib.hid (hl.below hB)
    have HE := Lib.hid (he.below hB)
    have HO := Lib.hid (show hopeS l = (l.hope, 0) from if_pos ok)
    clear h hl he
    rw [HO.out]
    refine callsIn_wide.1 (callsIn_of_wp_marks (n := 0) Tryd.func35 rfl trivial ?_)
    simp only [Tryd.ntmps35, List.size_toArray, List.length_cons, List.length_nil, Nat.reduceAdd, Nat.reduceSub, Array.replicate_succ, Array.replicate_zero, List.push_toArray, List.append_toArray, List.nil_append, List.cons_append]
    refine wpIn_wide.2 ?_
    go_wp2_with fail
    refine (asked_yes H.out _ _ (anything_right _ l a B c d)).mono ?_
    rintro e w1 ⟨m, rfl, hb1, hm1, hm2⟩
    have hmw : m < w1.heap.size := (Array.getElem?_eq_some_iff.1 hm1).1
    have hmz : w.heap.size ≤ m := by have := hB.size; omega
    have H1 := Lib.hid (H.out.below hb1)
    have HE1 := Lib.hid (HE.out.below hb1)
    have HM1 := Lib.hid (marks_new (l := l) hm1)
    have HB1 := Lib.hid (bb hB hb1)
    clear hb1 hm1 hB
    go_upto_region 5 with (fail)
    obtain ⟨W2, hW2⟩ : ∃ W2, W2 = (w1.alloc (.cells #[.slice (some a) l.long.length c, .int .i64 l.size, .slice B l.knots.length d, .map (some m)] 75)).alloc (.cells #[.int .i64 0] 3) := ⟨_, rfl⟩
    rw [← hW2]
    have z2 : W2.heap.size = w1.heap.size + 2 := by rw [hW2]; simp
    have hb2 : Below w1.heap.size w1 W2 := by rw [hW2]; exact ((Below.refl _ w1).alloc (Nat.le_refl _) _).alloc (by simp) _
    have r4 : W2.heap[w1.heap.size]? = some (.cells #[.slice (some a) l.long.length c, .int .i64 l.size, .slice B l.knots.length d, .map (some m)] 75 (0, 0)) := by rw [hW2]; (repeat (first | with_reducible assumption | with_reducible exact row_new | with_reducible refine row_drew ?_ | with_reducible apply row_same | with_reducible refine row_diff ?_ (by first | omega | (simp only [World.size_alloc, size_setRow, size_drew', World.size_setCell]; omega)) | with_reducible refine row_far ?_ (by (try dsimp only); first | omega | (simp only [World.size_alloc, size_setRow, size_drew', World.size_setCell]; omega)) | with_reducible refine row_new' (by first | (simp only [World.size_alloc, size_setRow, size_drew', World.size_setCell]; done) | omega | (simp only [World.size_alloc, size_setRow, size_drew', World.size_setCell]; omega)) | with_reducible refine row_old ?_ | with_reducible refine row_below (by assumption) ?_ (by first | omega | (simp only [World.size_alloc, size_setRow, size_drew', World.size_setCell]; omega))))
    have r6 : W2.heap[w1.heap.size + 1]? = some (.cells #[.int .i64 0] 3 (0, 0)) := by rw [hW2]; (repeat (first | with_reducible assumption | with_reducible exact row_new | with_reducible refine row_drew ?_ | with_reducible apply row_same | with_reducible refine row_diff ?_ (by first | omega | (simp only [World.size_alloc, size_setRow, size_drew', World.size_setCell]; omega)) | with_reducible refine row_far ?_ (by (try dsimp only); first | omega | (simp only [World.size_alloc, size_setRow, size_drew', World.size_setCell]; omega)) | with_reducible refine row_new' (by first | (simp only [World.size_alloc, size_setRow, size_drew', World.size_setCell]; done) | omega | (simp only [World.size_alloc, size_setRow, size_drew', World.size_setCell]; omega)) | with_reducible refine row_old ?_ | with_reducible refine row_below (by assumption) ?_ (by first | omega | (simp only [World.size_alloc, size_setRow, size_drew', World.size_setCell]; omega))))
    clear hW2
    have q0 : W2.cell? ⟨w1.heap.size, 0, none⟩ = some (.slice (some a) l.long.length c) := cell_row' (i := 0) r4 rfl
    have q1 : W2.cell? ⟨w1.heap.size, 1, none⟩ = some (.int .i64 l.size) := cell_row' (i := 1) r4 rfl
    have q2 : W2.cell? ⟨w1.heap.size, 2, none⟩ = some (.slice B l.knots.length d) := cell_row' (i := 2) r4 rfl
    have q3 : W2.cell? ⟨w1.heap.size, 3, none⟩ = some (.map (some m)) := cell_row' (i := 3) r4 rfl
    have H2 := Lib.hid (H1.out.below hb2)
    have HE2 := Lib.hid (HE1.out.below hb2)
    have HM2 := Lib.hid (HM1.out.below hb2)
    have HB2 := Lib.hid (bb HB1.out hb2)
    have R4 := Lib.hid r4
    have R6 := Lib.hid r6
    clear hb2 r4 r6
    go_wp2_with fail
    refine (truths_any H2.out HE2.out HM2.out).mono ?_
    rintro e w3 ⟨bl, rfl, hb3, hneed, hbl⟩
    have z3 := hb3.size
    have HN := Lib.hid hneed
    have R4w := Lib.hid (row_below hb3 R4.out (by omega))
    have R6w := Lib.hid (row_below hb3 R6.out (by omega))
    have HB3 := Lib.hid (bb HB2.out hb3)
    have lbl : bl < w3.heap.size := World.block_lt_of_cell? w3 _ hneed.q0
    have zz := HB1.out.size
    clear hneed hb3 q0 q1 q2 q3
    go_wp2_with fail
    refine (wpIn_wide (n := 0)).1 ?_
    refine range_law (gf := 87) (lb := #[.pointer (some ⟨bl, 0, none⟩)]) rfl (enters_of Tryd.func87 (by kernel_rfl) rfl)
      (truths_yields l a B c d m bl) (fun _ => rfl) (fun i T W => W.heap[w1.heap.size + 1]? = some (.cells #[.int .i64 (l.most ((l.truths l.knots none72).take i))] 3 (0, 0)) ∧ Loops m (w1.heap.size + 1) w3 T W)
      ?hI (fun b h => by subst h; omega) HN.out (fun V V' hV hsz hs => HN.out.far hV (hs.below hsz (fun b hb h => by omega))) (fun V hV => ⟨?h0a, ?h0b⟩) ?hround ?hdone
    case hI =>
      rintro i T T' V V' ⟨hr, hl⟩ hs hT
      exact ⟨hl.obj hs (by omega) (by omega) hr, hl.abides hs hT⟩
    case h0a => exact row_below hV R6w.out (by omega)
    case h0b => exact ⟨fun b h => by rcases h with h | h | h; exact .inl h; exact .inr (by omega); exact .inr (by omega), Ext.below hV, fun b hb _ _ => hV.block b hb⟩
    case hdone =>
      rintro D V ⟨hr, hl⟩ hneed hDa hDb hK
      rw [List.take_length] at hr
      have zV := hl.ext.size
      have x0 : V.cell? ⟨w1.heap.size + 1, 0, none⟩ = some (.int .i64 l.hope) := cell_row' hr rfl
      have HL2 := Lib.hid hl
      have HK := Lib.hid hK
      have hwV : w3.heap.size < V.heap.size := (Array.getElem?_eq_some_iff.1 hK).1
      clear hl hneed hK hr
      gi_wp2
      go_wp2_with fail
      have hb0 : Below w.heap.size V (V.putObj w3.heap.size (.deferred none)) := ⟨rfl, rfl, rfl, by simp [World.putObj], fun b hb => World.putObj_heap_other (by have := HB3.out.size; omega)⟩
      refine ⟨by simp, .inl ⟨_, _, rfl, run_takeDeferred HK.out, ?_⟩⟩
      refine ⟨.tuple #[.int .i64 l.hope, .int .i64 0], (by simp [results, Tryd.results35, go_sem]), rfl, ?_⟩
      exact HB3.out.trans (Below.trans ⟨HL2.out.ext.os, HL2.out.ext.tape, HL2.out.ext.output, HL2.out.ext.size, fun b hb => HL2.out.same b (by have := HB3.out.size; omega) (by omega) (by omega)⟩ hb0)
    case hround =>
      rintro i x D V hx hVsz ⟨hr, hl⟩ hneed hDa hDb hDbd
      dsimp only [ribV]
      rw [put_one]
      simp only [List.setIfInBounds_toArray, List.set_cons_succ, List.set_cons_zero]
      gi_wp2_with (first | ((with_reducible refine gate_alloc_in 86 rfl ?_); refine ev_alloc_rib_in rfl rfl ?_) | ((with_reducible refine gate_store_in 86 rfl ?_); refine ev_store_rib_in rfl rfl _ _ rfl _ rfl none72 x rfl (by (repeat (first | with_reducible assumption | with_reducible exact row_new | with_reducible refine row_drew ?_ | with_reducible apply row_same | with_reducible refine row_diff ?_ (by first | omega | (simp only [World.size_alloc, size_setRow, size_drew', World.size_setCell]; omega)) | with_reducible refine row_far ?_ (by (try dsimp only); first | omega | (simp only [World.size_alloc, size_setRow, size_drew', World.size_setCell]; omega)) | with_reducible refine row_new' (by first | (simp only [World.size_alloc, size_setRow, size_drew', World.size_setCell]; done) | omega | (simp only [World.size_alloc, size_setRow, size_drew', World.size_setCell]; omega)) | with_reducible refine row_old ?_ | with_reducible refine row_below (by assumption) ?_ (by first | omega | (simp only [World.size_alloc, size_setRow, size_drew', World.size_setCell]; omega))))) ?_))
      obtain ⟨V0, hV0⟩ : ∃ V0, V0 = (V.alloc (.cells (rv none72) 86)).setRow V.heap.size (rv x) := ⟨_, rfl⟩
      have hV1 : Below V.heap.size V V0 := by rw [hV0]; exact ((Below.refl _ V).alloc (Nat.le_refl _) _).trans ((only_setRow _ _ _).below (Nat.le_refl _))
      have k4 : V0.heap[V.heap.size]? = some (.cells (rv x) 86 (0, 0)) := by rw [hV0]; (repeat (first | with_reducible assumption | with_reducible exact row_new | with_reducible refine row_drew ?_ | with_reducible apply row_same | with_reducible refine row_diff ?_ (by first | omega | (simp only [World.size_alloc, size_setRow, size_drew', World.size_setCell]; omega)) | with_reducible refine row_far ?_ (by (try dsimp only); first | omega | (simp only [World.size_alloc, size_setRow, size_drew', World.size_setCell]; omega)) | with_reducible refine row_new' (by first | (simp only [World.size_alloc, size_setRow, size_drew', World.size_setCell]; done) | omega | (simp only [World.size_alloc, size_setRow, size_drew', World.size_setCell]; omega)) | with_reducible refine row_old ?_ | with_reducible refine row_below (by assumption) ?_ (by first | omega | (simp only [World.size_alloc, size_setRow, size_drew', World.size_setCell]; omega))))
      have zV0 : V0.heap.size = V.heap.size + 1 := by rw [hV0]; simp
      rw [← hV0]
      clear hV0
      refine ⟨hV1, fun V1 hst1 => ?_⟩
      have k7 := hst1.obj k4 (by omega)
      have hs01 : Stays (fun b => b = w1.heap.size + 1 ∨ w3.heap.size ≤ b) V V1 := (Stays.of_below hV1).trans (hst1.mono fun b _ h => .inr (by omega))
      have k6 : V1.heap[w1.heap.size + 1]? = some (.cells #[.int .i64 (l.most ((l.truths l.knots none72).take i))] 3 (0, 0)) := hst1.obj (row_below hV1 hr (by have := hl.ext.size; omega)) (by omega)
      have k4' : V1.heap[w1.heap.size]? = some (.cells #[.slice (some a) l.long.length c, .int .i64 l.size, .slice B l.knots.length d, .map (some m)] 75 (0, 0)) := (hs01.block _ (by have := hl.ext.size; omega) (fun h => by rcases h with h | h <;> omega)).trans ((hl.same _ (by omega) (by omega) (by omega)).trans R4w.out)
      have q0 : V1.cell? ⟨w1.heap.size, 0, none⟩ = some (.slice (some a) l.long.length c) := cell_row' (i := 0) k4' rfl
      have q1 : V1.cell? ⟨w1.heap.size, 1, none⟩ = some (.int .i64 l.size) := cell_row' (i := 1) k4' rfl
      have q2 : V1.cell? ⟨w1.heap.size, 2, none⟩ = some (.slice B l.knots.length d) := cell_row' (i := 2) k4' rfl
      have q3 : V1.cell? ⟨w1.heap.size, 3, none⟩ = some (.map (some m)) := cell_row' (i := 3) k4' rfl
      have e0 := rangeAt_rib k7
      have hundR := undRib
      have hsizR : (Tryd.prog.info? 86).map (·.size) = some (rl x).length := by rw [rl_length]; exact sizeRib
      have hfin : ∀ (w4 : World) (o : Obj), Below V1.heap.size V1 w4 → (((w4.alloc o).setCell ⟨w1.heap.size + 1, 0, none⟩ (.int .i64 (max (l.most ((l.truths l.knots none72).take i)) ((l.cut x).length : Int)))).heap[w1.heap.size + 1]? = some (.cells #[.int .i64 (l.most ((l.truths l.knots none72).take (i + 1)))] 3 (0, 0)) ∧ Loops m (w1.heap.size + 1) w3 D ((w4.alloc o).setCell ⟨w1.heap.size + 1, 0, none⟩ (.int .i64 (max (l.most ((l.truths l.knots none72).take i)) ((l.cut x).length : Int))))) ∧ Keeps D V1 ((w4.alloc o).setCell ⟨w1.heap.size + 1, 0, none⟩ (.int .i64 (max (l.most ((l.truths l.knots none72).take i)) ((l.cut x).length : Int)))) ∧ TruthsNeed l a B c d m bl ((w4.alloc o).setCell ⟨w1.heap.size + 1, 0, none⟩ (.int .i64 (max (l.most ((l.truths l.knots none72).take i)) ((l.cut x).length : Int)))) := by
        intro w4 o hb
        have hs : Stays (fun b => b = w1.heap.size + 1) V1 ((w4.alloc o).setCell ⟨w1.heap.size + 1, 0, none⟩ (.int .i64 (max (l.most ((l.truths l.knots none72).take i)) ((l.cut x).length : Int)))) := (Stays.of_below hb).trans ((stays_alloc w4 o).trans (stays_setCell _ _ _ rfl))
        have hsV : Stays (fun b => b = w1.heap.size + 1 ∨ w3.heap.size ≤ b) V ((w4.alloc o).setCell ⟨w1.heap.size + 1, 0, none⟩ (.int .i64 (max (l.most ((l.truths l.knots none72).take i)) ((l.cut x).length : Int)))) := hs01.trans (hs.mono fun b _ h => .inl h)
        have hb0 : Below w1.heap.size V ((w4.alloc o).setCell ⟨w1.heap.size + 1, 0, none⟩ (.int .i64 (max (l.most ((l.truths l.knots none72).take i)) ((l.cut x).length : Int)))) := hsV.below (by have := hl.ext.size; omega) (fun b hb h => by rcases h with h | h <;> omega)
        have hcell : ∀ o' v, V.cell? ⟨bl, o', none⟩ = some v → ((w4.alloc o).setCell ⟨w1.heap.size + 1, 0, none⟩ (.int .i64 (max (l.most ((l.truths l.knots none72).take i)) ((l.cut x).length : Int)))).cell? ⟨bl, o', none⟩ = some v := fun o' v hv => by
          rw [← hv]
          exact World.cell?_of_block (hsV.block bl (by have := hl.ext.size; omega) (fun h => by rcases h with h | h <;> omega))
        refine ⟨⟨?_, hl.round hsV⟩, Keeps.of_stays hs (fun b hb hD => by rcases hl.t b hD with h | h <;> omega), ⟨H1.out.far hneed.log hb0, HE1.out.far hneed.ends hb0, hcell 0 _ hneed.q0, hcell 1 _ hneed.q1, hcell 2 _ hneed.q2, hcell 3 _ hneed.q3, HM1.out.far hneed.marks hb0⟩⟩
        rw [blk_set (row_old (row_below hb k6 (by have := hs01.ext.size; have := hl.ext.size; omega))) 0 _, most_succ l _ i x hx]
        rfl
      have HFIN := Lib.hid hfin
      have c6 : V1.cell? ⟨w1.heap.size + 1, 0, none⟩ = some (.int .i64 (l.most ((l.truths l.knots none72).take i))) := cell_row' k6 rfl
      have f6 : V1.frozen? ⟨w1.heap.size + 1, 0, none⟩ = false := frozen_of_row V1 _ 0 _ _ k6
      have H4 : LogAt V1 l a B c d := H1.out.far hneed.log (hs01.below (by have := hl.ext.size; omega) (fun b hb h => by rcases h with h | h <;> omega))
      have HL4 := Lib.hid H4
      clear hfin H4
      have zz1 : w1.heap.size + 1 < w3.heap.size := by omega
      have zz2 : w3.heap.size ≤ V.heap.size := hl.ext.size
      try simp only [Act.put, List.setIfInBounds_toArray, List.set_cons_succ, List.set_cons_zero]
      refine wpIn_block ?_
      refine region_held_in (S := fun w' => w'.cell? ⟨w1.heap.size, 0, none⟩ = some (.slice (some a) l.long.length c) ∧ w'.cell? ⟨w1.heap.size, 1, none⟩ = some (.int .i64 l.size) ∧ w'.cell? ⟨w1.heap.size, 2, none⟩ = some (.slice B l.knots.length d) ∧ w'.cell? ⟨w1.heap.size, 3, none⟩ = some (.map (some m)) ∧ w'.rangeAt V.heap.size 0 (rl x)) (by kernel_rfl) (by kernel_rfl) (by rintro ⟨a, w, h⟩; exact h) ⟨q0, q1, q2, q3, e0⟩ (fun hHeld => ?_)
      refine held_take 1 20 (.agg #[.slice (some a) l.long.length c, .int .i64 l.size, .slice B l.knots.length d, .map (some m)]) rfl rfl (by kernel_rfl) (by kernel_rfl) (by kernel_rfl) (fun _ _ _ h => h) (Or.inl ⟨by rfl, fun w hw => by dsimp only at hw; obtain ⟨h0, h1, h2, h3, h4⟩ := hw; go_simp⟩) hHeld ?_
      simp only [List.setIfInBounds_toArray, List.set_cons_zero, List.set_cons_succ]
      refine held_take 2 21 _ rfl rfl (by kernel_rfl) (by kernel_rfl) (by kernel_rfl) (fun _ _ _ h => h) (yieldsIf_load_mid (by rfl) _ _ rfl _ _ rfl (rl x) _ (fun _ h => h.2.2.2.2) hundR rfl hsizR) hHeld ?_
      simp only [List.setIfInBounds_toArray, List.set_cons_zero, List.set_cons_succ]
      refine wpAnyH_ready (rs := [0, 3]) (by kernel_rfl) (by simp) ?_
      refine AllReadyH.cons rfl (fun K hK => ?_) (AllReadyH.cons rfl (fun K hK => ?_) AllReadyH.nil)
      · go_simp
        refine hK.out _ _ hHeld (fun hHeldn => ?_)
        clear hK
        try simp only [Act.put, List.setIfInBounds_toArray, List.set_cons_zero, List.set_cons_succ]
        refine wpAnyH_ready (rs := [3]) (by kernel_rfl) (by simp) ?_
        refine AllReadyH.cons rfl (fun K hK => ?_) AllReadyH.nil
        go_simp
        rw [rv_rl]
        refine (cut_any m (HL4.out.below (by exact (Below.refl _ _).drew)) x).mono ?_
        rintro e w4 ⟨ao, cv, rfl, hbc, hcut, hnil⟩
        dsimp only
        have hb14 : Below V1.heap.size V1 w4 := ((Below.refl _ V1).drew).trans hbc
        refine hK.out _ _ ⟨cell_below hbc hHeldn.1, cell_below hbc hHeldn.2.1, cell_below hbc hHeldn.2.2.1, cell_below hbc hHeldn.2.2.2.1, rangeAt_below hbc hHeldn.2.2.2.2⟩ (fun hHeldnn => ?_)
        clear hK
        try simp only [Act.put, List.setIfInBounds_toArray, List.set_cons_zero, List.set_cons_succ]
        have hcap := hcut.cap
        have hlen := hcut.len
        refine held_take 4 23 (.int .i64 ((l.cut x).length : Int)) rfl rfl (by kernel_rfl) (by kernel_rfl) (by kernel_rfl) (fun _ _ _ h => h) (Or.inl ⟨by rfl, fun w _ => by go_simp⟩) hHeldnn ?_
        try simp only [Act.put, List.setIfInBounds_toArray, List.set_cons_zero, List.set_cons_succ]
        refine wpAnyH_ready (rs := [5]) (by kernel_rfl) (by simp) ?_
        refine AllReadyH.cons rfl (fun K hK => ?_) AllReadyH.nil
        go_simp
        have hba := (Below.refl _ w4).alloc (Nat.le_refl _) (.cells #[.int .i64 ((l.cut x).length : Int)] 3)
        refine hK.out _ _ ⟨cell_below hba hHeldnn.1, cell_below hba hHeldnn.2.1, cell_below hba hHeldnn.2.2.1, cell_below hba hHeldnn.2.2.2.1, rangeAt_below hba hHeldnn.2.2.2.2⟩ (fun hHeldnnn => ?_)
        clear hK
        try simp only [Act.put, List.setIfInBounds_toArray, List.set_cons_zero, List.set_cons_succ]
        refine wpAnyH_ready (rs := [6]) (by kernel_rfl) (by simp) ?_
        refine AllReadyH.cons rfl (fun K hK => ?_) AllReadyH.nil
        go_simp
        refine (greatest_any _ _ (cell_new' rfl rfl)).mono ?_
        rintro e w6 ⟨rfl, rfl⟩
        dsimp only
        refine hK.out _ _ hHeldnnn (fun hHeldnnnn => ?_)
        clear hK
        try simp only [Act.put, List.setIfInBounds_toArray, List.set_cons_zero, List.set_cons_succ]
        refine wpAnyH_ready (rs := [7]) (by kernel_rfl) (by simp) ?_
        refine AllReadyH.cons rfl (fun K hK => ?_) AllReadyH.nil
        have c67 : (w4.alloc (.cells #[.int .i64 ((l.cut x).length : Int)] 3)).cell? ⟨w1.heap.size + 1, 0, none⟩ = some (.int .i64 (l.most ((l.truths l.knots none72).take i))) := cell_below hba (cell_below hb14 c6)
        have k67 := row_old (o' := .cells #[.int .i64 ((l.cut x).length : Int)] 3) (row_below hb14 k6 (Array.getElem?_eq_some_iff.1 k6).1)
        have f67 := frozen_of_row _ (w1.heap.size + 1) 0 _ _ k67
        go_simp
        refine hK.out _ _ ⟨cset_blk hHeldnnnn.1 (by (try dsimp only); omega), cset_blk hHeldnnnn.2.1 (by (try dsimp only); omega), cset_blk hHeldnnnn.2.2.1 (by (try dsimp only); omega), cset_blk hHeldnnnn.2.2.2.1 (by (try dsimp only); omega), fun j v hv => cset_blk (hHeldnnnn.2.2.2.2 j v hv) (by (try dsimp only); omega)⟩ (fun hHeldnnnnn => ?_)
        clear hK
        try simp only [Act.put, List.setIfInBounds_toArray, List.set_cons_zero, List.set_cons_succ]
        refine wpAnyH_done (by kernel_rfl) ?_ _
        exact HFIN.out w4 _ hb14
      · go_simp
        rw [rv_rl]
        refine (cut_any m (HL4.out.below (by exact (Below.refl _ _).drew)) x).mono ?_
        rintro e w4 ⟨ao, cv, rfl, hbc, hcut, hnil⟩
        dsimp only
        have hb14 : Below V1.heap.size V1 w4 := ((Below.refl _ V1).drew).trans hbc
        refine hK.out _ _ ⟨cell_below hbc hHeld.1, cell_below hbc hHeld.2.1, cell_below hbc hHeld.2.2.1, cell_below hbc hHeld.2.2.2.1, rangeAt_below hbc hHeld.2.2.2.2⟩ (fun hHeldn => ?_)
        clear hK
        try simp only [Act.put, List.setIfInBounds_toArray, List.set_cons_zero, List.set_cons_succ]
        have hcap := hcut.cap
        have hlen := hcut.len
        refine held_take 4 23 (.int .i64 ((l.cut x).length : Int)) rfl rfl (by kernel_rfl) (by kernel_rfl) (by kernel_rfl) (fun _ _ _ h => h) (Or.inl ⟨by rfl, fun w _ => by go_simp⟩) hHeldn ?_
        try simp only [Act.put, List.setIfInBounds_toArray, List.set_cons_zero, List.set_cons_succ]
        refine wpAnyH_ready (rs := [0, 5]) (by kernel_rfl) (by simp) ?_
        refine AllReadyH.cons rfl (fun K hK => ?_) (AllReadyH.cons rfl (fun K hK => ?_) AllReadyH.nil)
        · have c64 := cell_below hb14 c6
          go_simp
          refine hK.out _ _ hHeldn (fun hHeldnn => ?_)
          clear hK
          try simp only [Act.put, List.setIfInBounds_toArray, List.set_cons_zero, List.set_cons_succ]
          refine wpAnyH_ready (rs := [5]) (by kernel_rfl) (by simp) ?_
          refine AllReadyH.cons rfl (fun K hK => ?_) AllReadyH.nil
          go_simp
          have hba := (Below.refl _ w4).alloc (Nat.le_refl _) (.cells #[.int .i64 ((l.cut x).length : Int)] 3)
          refine hK.out _ _ ⟨cell_below hba hHeldnn.1, cell_below hba hHeldnn.2.1, cell_below hba hHeldnn.2.2.1, cell_below hba hHeldnn.2.2.2.1, rangeAt_below hba hHeldnn.2.2.2.2⟩ (fun hHeldnnn => ?_)
          clear hK
          try simp only [Act.put, List.setIfInBounds_toArray, List.set_cons_zero, List.set_cons_succ]
          refine wpAnyH_ready (rs := [6]) (by kernel_rfl) (by simp) ?_
          refine AllReadyH.cons rfl (fun K hK => ?_) AllReadyH.nil
          go_simp
          refine (greatest_any _ _ (cell_new' rfl rfl)).mono ?_
          rintro e w6 ⟨rfl, rfl⟩
          dsimp only
          refine hK.out _ _ hHeldnnn (fun hHeldnnnn => ?_)
          clear hK
          try simp only [Act.put, List.setIfInBounds_toArray, List.set_cons_zero, List.set_cons_succ]
          refine wpAnyH_ready (rs := [7]) (by kernel_rfl) (by simp) ?_
          refine AllReadyH.cons rfl (fun K hK => ?_) AllReadyH.nil
          have c67 : (w4.alloc (.cells #[.int .i64 ((l.cut x).length : Int)] 3)).cell? ⟨w1.heap.size + 1, 0, none⟩ = some (.int .i64 (l.most ((l.truths l.knots none72).take i))) := cell_below hba (cell_below hb14 c6)
          have k67 := row_old (o' := .cells #[.int .i64 ((l.cut x).length : Int)] 3) (row_below hb14 k6 (Array.getElem?_eq_some_iff.1 k6).1)
          have f67 := frozen_of_row _ (w1.heap.size + 1) 0 _ _ k67
          go_simp
          refine hK.out _ _ ⟨cset_blk hHeldnnnn.1 (by (try dsimp only); omega), cset_blk hHeldnnnn.2.1 (by (try dsimp only); omega), cset_blk hHeldnnnn.2.2.1 (by (try dsimp only); omega), cset_blk hHeldnnnn.2.2.2.1 (by (try dsimp only); omega), fun j v hv => cset_blk (hHeldnnnn.2.2.2.2 j v hv) (by (try dsimp only); omega)⟩ (fun hHeldnnnnn => ?_)
          clear hK
          try simp only [Act.put, List.setIfInBounds_toArray, List.set_cons_zero, List.set_cons_succ]
          refine wpAnyH_done (by kernel_rfl) ?_ _
          exact HFIN.out w4 _ hb14
        · go_simp
          have hba := (Below.refl _ w4).alloc (Nat.le_refl _) (.cells #[.int .i64 ((l.cut x).length : Int)] 3)
          refine hK.out _ _ ⟨cell_below hba hHeldn.1, cell_below hba hHeldn.2.1, cell_below hba hHeldn.2.2.1, cell_below hba hHeldn.2.2.2.1, rangeAt_below hba hHeldn.2.2.2.2⟩ (fun hHeldnn => ?_)
          clear hK
          try simp only [Act.put, List.setIfInBounds_toArray, List.set_cons_zero, List.set_cons_succ]
          refine wpAnyH_ready (rs := [0]) (by kernel_rfl) (by simp) ?_
          refine AllReadyH.cons rfl (fun K hK => ?_) AllReadyH.nil
          have c66 : (w4.alloc (.cells #[.int .i64 ((l.cut x).length : Int)] 3)).cell? ⟨w1.heap.size + 1, 0, none⟩ = some (.int .i64 (l.most ((l.truths l.knots none72).take i))) := cell_below hba (cell_below hb14 c6)
          go_simp
          refine hK.out _ _ hHeldnn (fun hHeldnnn => ?_)
          clear hK
          try simp only [Act.put, List.setIfInBounds_toArray, List.set_cons_zero, List.set_cons_succ]
          refine wpAnyH_ready (rs := [6]) (by kernel_rfl) (by simp) ?_
          refine AllReadyH.cons rfl (fun K hK => ?_) AllReadyH.nil
          go_simp
          refine (greatest_any _ _ (cell_new' rfl rfl)).mono ?_
          rintro e w6 ⟨rfl, rfl⟩
          dsimp only
          refine hK.out _ _ hHeldnnn (fun hHeldnnnn => ?_)
          clear hK
          try simp only [Act.put, List.setIfInBounds_toArray, List.set_cons_zero, List.set_cons_succ]
          refine wpAnyH_ready (rs := [7]) (by kernel_rfl) (by simp) ?_
          refine AllReadyH.cons rfl (fun K hK => ?_) AllReadyH.nil
          have c67 : (w4.alloc (.cells #[.int .i64 ((l.cut x).length : Int)] 3)).cell? ⟨w1.heap.size + 1, 0, none⟩ = some (.int .i64 (l.most ((l.truths l.knots none72).take i))) := cell_below hba (cell_below hb14 c6)
          have k67 := row_old (o' := .cells #[.int .i64 ((l.cut x).length : Int)] 3) (row_below hb14 k6 (Array.getElem?_eq_some_iff.1 k6).1)
          have f67 := frozen_of_row _ (w1.heap.size + 1) 0 _ _ k67
          go_simp
          refine hK.out _ _ ⟨cset_blk hHeldnnnn.1 (by (try dsimp only); omega), cset_blk hHeldnnnn.2.1 (by (try dsimp only); omega), cset_blk hHeldnnnn.2.2.1 (by (try dsimp only); omega), cset_blk hHeldnnnn.2.2.2.1 (by (try dsimp only); omega), fun j v hv => cset_blk (hHeldnnnn.2.2.2.2 j v hv) (by (try dsimp only); omega)⟩ (fun hHeldnnnnn => ?_)
          clear hK
          try simp only [Act.put, List.setIfInBounds_toArray, List.set_cons_zero, List.set_cons_succ]
          refine wpAnyH_done (by kernel_rfl) ?_ _
          exact HFIN.out w4 _ hb14
  · have hB := (Below.refl _ w).alloc (Nat.le_refl _) (.cells #[.slice A l.long.length c, .int .i64 l.size, .slice B l.knots.length d] 25)
    have H := Lib.hid (h.below hB)
    have HO := Lib.hid (show hopeS l = (0, 10) from if_neg ok)
    clear h he
    rw [HO.out]
    go_enter Tryd.func35, Tryd.ntmps35
    go_wp2_with fail
    refine (asked_bad H.out _ _ ok).mono ?_
    rintro e w1 ⟨rfl, hb1⟩
    have HB := Lib.hid (bb hB hb1)
    clear hb1
    unfold zeroLog
    go_wp2_with fail
    go_ret2
    exact ⟨rfl, (HB.out.alloc HB.out.size _)⟩
end Go.Proofs.YtigofgdmefobaaaDoor.Peel
