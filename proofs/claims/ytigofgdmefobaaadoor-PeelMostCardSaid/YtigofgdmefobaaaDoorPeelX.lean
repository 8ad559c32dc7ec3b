/- Walks of package peel: Knotty, the question that may be asked. -/
import Derived.Test.YtigofgdmefobaaaDoorPeelW
import Derived.Test.YtigofgdmefobaaaDoorHeld
set_option linter.unusedVariables false
set_option linter.unusedSimpArgs false
namespace Go.Proofs.YtigofgdmefobaaaDoor.Peel
open Go.RowKit Go.Proofs.YtigofgdmefobaaaDoor.Iter
attribute [local go_sem] Oper.semAt_some
/-- A loop over truths that turns some blocks of its own, from w on. -/
structure LoopsM (m : Nat) (M : Nat → Prop) (w : World) (T : Nat → Prop) (W : World) : Prop where
  t : ∀ b, T b → b = m ∨ w.heap.size ≤ b
  ext : Ext w W
  same : ∀ b, b < w.heap.size → b ≠ m → ¬ M b → W.heap[b]? = w.heap[b]?
theorem LoopsM.abides {m : Nat} {M : Nat → Prop} {w : World} {T T' : Nat → Prop} {W W' : World} (h : LoopsM m M w T W) (hs : Stays T W W') (hT : ∀ b, b < W.heap.size → ¬ T b → ¬ T' b) : LoopsM m M w T' W' := by
  refine ⟨fun b hb => ?_, h.ext.trans hs.ext, fun b hb h1 h2 => (hs.block b (by have := h.ext.size; omega) (fun ht => ?_)).trans (h.same b hb h1 h2)⟩
  · rcases Nat.lt_or_ge b W.heap.size with hlt | hge
    · exact h.t b (Classical.byContradiction fun hn => hT b hlt hn hb)
    · exact .inr (by have := h.ext.size; omega)
  · rcases h.t b ht with h | h <;> omega
theorem LoopsM.obj {m : Nat} {M : Nat → Prop} {w : World} {T : Nat → Prop} {W W' : World} (h : LoopsM m M w T W) (hs : Stays T W W') {b : Nat} (hb : b < w.heap.size) (hm : b ≠ m) {o : Obj} (ho : W.heap[b]? = some o) : W'.heap[b]? = some o :=
  hs.obj ho fun ht => by rcases h.t b ht with h | h <;> omega
theorem LoopsM.round {m : Nat} {M : Nat → Prop} {w : World} {T : Nat → Prop} {W W1 : World} (h : LoopsM m M w T W) (hs : Stays (fun b => M b ∨ w.heap.size ≤ b) W W1) : LoopsM m M w T W1 :=
  ⟨h.t, h.ext.trans hs.ext, fun b hb h1 h2 => (hs.block b (by have := h.ext.size; omega) (fun ht => by rcases ht with h | h; exact h2 h; omega)).trans (h.same b hb h1 h2)⟩
theorem any_succ (rs : List (Nat → Bool)) (i n : Nat) (x : Nat → Bool) (h : rs[i]? = some x) : (rs.take (i + 1)).any (fun r => r n) = ((rs.take i).any (fun r => r n) || x n) := by
  obtain ⟨hi, he⟩ := List.getElem?_eq_some_iff.1 h
  rw [List.take_succ_eq_append_getElem hi, List.any_append, he]
  simp
theorem all_succ (rs : List (Nat → Bool)) (i n : Nat) (x : Nat → Bool) (h : rs[i]? = some x) : (rs.take (i + 1)).all (fun r => r n) = ((rs.take i).all (fun r => r n) && x n) := by
  obtain ⟨hi, he⟩ := List.getElem?_eq_some_iff.1 h
  rw [List.take_succ_eq_append_getElem hi, List.all_append, he]
  simp
set_option maxRecDepth 8000 in
set_option maxHeartbeats 8000000 in
theorem knotty_any {w : World} {l : PL} {A B : Option Addr} {c d : Nat} (h : RawAt w l A B c d) (he : EndsAt w) (X : Int) :
    Calls Tryd.prog 21 #[.agg #[.slice A l.long.length c, .int .i64 l.size, .slice B l.knots.length d], .int .i64 X] w fun e w' => e = .returned (.tuple #[.int .i64 (knottyS l X).1, .int .i64 (knottyS l X).2]) ∧ Below w.heap.size w w' := by
  by_cases hgood : l.Ok ∧ 0 ≤ X ∧ X ≤ l.all - 1
  · obtain ⟨ok, hX⟩ := hgood
    obtain ⟨n, rfl⟩ : ∃ n : Nat, X = n := ⟨X.toNat, by omega⟩
    obtain ⟨a, rfl, hl⟩ := h.at ok
    have hall := all_bd ok
    have b0 : (0 : Int) ≤ (n : Int) := by omega
    have b1 : (n : Int) < 72 := by omega
    have HBD := Lib.hid (And.intro b0 b1)
    have hB := ((Below.refl _ w).alloc (Nat.le_refl _) (.cells #[.slice (some a) l.long.length c, .int .i64 l.size, .slice B l.knots.length d] 25)).alloc (by simp) (.cells #[.int .i64 n] 3)
    have H := Lib.hid (hl.below hB)
    have HE := Lib.hid (he.below hB)
    have rg : ((w.alloc (.cells #[.slice (some a) l.long.length c, .int .i64 l.size, .slice B l.knots.length d] 25)).alloc (.cells #[.int .i64 n] 3)).heap[w.heap.size + 1]? = some (.cells #[.int .i64 n] 3 (0, 0)) := by (repeat (first | with_reducible assumption | with_reducible exact row_new | with_reducible refine row_drew ?_ | with_reducible apply row_same | with_reducible refine row_diff ?_ (by first | omega | (simp only [World.size_alloc, size_setRow, size_drew', World.size_setCell]; omega)) | with_reducible refine row_far ?_ (by (try dsimp only); first | omega | (simp only [World.size_alloc, size_setRow, size_drew', World.size_setCell]; omega)) | with_reducible refine row_new' (by first | (simp only [World.size_alloc, size_setRow, size_drew', World.size_setCell]; done) | omega | (simp only [World.size_alloc, size_setRow, size_drew', World.size_setCell]; omega)) | with_reducible refine row_old ?_ | with_reducible refine row_below (by assumption) ?_ (by first | omega | (simp only [World.size_alloc, size_setRow, size_drew', World.size_setCell]; omega))))
    have HR := Lib.hid (knotty_right H.out n (w.heap.size + 1) (cell_row' (i := 0) rg rfl))
    have RG := Lib.hid rg
    have HO := Lib.hid (show knottyS l n = (l.knottyAt (l.truths l.knots none72) n, 0) by unfold knottyS; rw [if_pos ok, if_pos hX]; simp)
    rw [HO.out]
    rw [decide_eq_true hX] at HR
    clear h hl he rg hX hall b0 b1
    refine callsIn_wide.1 (callsIn_of_wp_marks (n := 0) Tryd.func21 rfl trivial ?_)
    simp only [Tryd.ntmps21, List.size_toArray, List.length_cons, List.length_nil, Nat.reduceAdd, Nat.reduceSub, Array.replicate_succ, Array.replicate_zero, List.push_toArray, List.append_toArray, List.nil_append, List.cons_append]
    refine wpIn_wide.2 ?_
    go_wp2_with fail
    refine (asked_yes H.out _ _ HR.out).mono ?_
    rintro e w1 ⟨m, rfl, hb1, hm1, hm2⟩
    have hmw : m < w1.heap.size := (Array.getElem?_eq_some_iff.1 hm1).1
    have hmz : w.heap.size + 2 ≤ m := by simpa using hm2
    have H1 := Lib.hid (H.out.below hb1)
    have HE1 := Lib.hid (HE.out.below hb1)
    have HM1 := Lib.hid (marks_new (l := l) hm1)
    have RG1 := Lib.hid (row_below hb1 RG.out (by simp))
    have zw1 := hb1.size
    simp only [World.size_alloc] at zw1
    have HB1 := Lib.hid (bb hB hb1)
    clear hb1 hm1 hm2 hB
    go_upto_region 5 with (fail)
    obtain ⟨W2, hW2⟩ : ∃ W2, W2 = ((w1.alloc (.cells #[.slice (some a) l.long.length c, .int .i64 l.size, .slice B l.knots.length d, .map (some m)] 75)).alloc (.cells #[.bool false] 4)).alloc (.cells #[.bool true] 4) := ⟨_, rfl⟩
    rw [← hW2]
    have z2 : W2.heap.size = w1.heap.size + 3 := by rw [hW2]; simp
    have hb2 : Below w1.heap.size w1 W2 := by rw [hW2]; exact (((Below.refl _ w1).alloc (Nat.le_refl _) _).alloc (by simp) _).alloc (by simp; omega) _
    have r4 : W2.heap[w1.heap.size]? = some (.cells #[.slice (some a) l.long.length c, .int .i64 l.size, .slice B l.knots.length d, .map (some m)] 75 (0, 0)) := by rw [hW2]; (repeat (first | with_reducible assumption | with_reducible exact row_new | with_reducible refine row_drew ?_ | with_reducible apply row_same | with_reducible refine row_diff ?_ (by first | omega | (simp only [World.size_alloc, size_setRow, size_drew', World.size_setCell]; omega)) | with_reducible refine row_far ?_ (by (try dsimp only); first | omega | (simp only [World.size_alloc, size_setRow, size_drew', World.size_setCell]; omega)) | with_reducible refine row_new' (by first | (simp only [World.size_alloc, size_setRow, size_drew', World.size_setCell]; done) | omega | (simp only [World.size_alloc, size_setRow, size_drew', World.size_setCell]; omega)) | with_reducible refine row_old ?_ | with_reducible refine row_below (by assumption) ?_ (by first | omega | (simp only [World.size_alloc, size_setRow, size_drew', World.size_setCell]; omega))))
    have r6 : W2.heap[w1.heap.size + 1]? = some (.cells #[.bool false] 4 (0, 0)) := by rw [hW2]; (repeat (first | with_reducible assumption | with_reducible exact row_new | with_reducible refine row_drew ?_ | with_reducible apply row_same | with_reducible refine row_diff ?_ (by first | omega | (simp only [World.size_alloc, size_setRow, size_drew', World.size_setCell]; omega)) | with_reducible refine row_far ?_ (by (try dsimp only); first | omega | (simp only [World.size_alloc, size_setRow, size_drew', World.size_setCell]; omega)) | with_reducible refine row_new' (by first | (simp only [World.size_alloc, size_setRow, size_drew', World.size_setCell]; done) | omega | (simp only [World.size_alloc, size_setRow, size_drew', World.size_setCell]; omega)) | with_reducible refine row_old ?_ | with_reducible refine row_below (by assumption) ?_ (by first | omega | (simp only [World.size_alloc, size_setRow, size_drew', World.size_setCell]; omega))))
    have r7 : W2.heap[w1.heap.size + 1 + 1]? = some (.cells #[.bool true] 4 (0, 0)) := by rw [hW2]; (repeat (first | with_reducible assumption | with_reducible exact row_new | with_reducible refine row_drew ?_ | with_reducible apply row_same | with_reducible refine row_diff ?_ (by first | omega | (simp only [World.size_alloc, size_setRow, size_drew', World.size_setCell]; omega)) | with_reducible refine row_far ?_ (by (try dsimp only); first | omega | (simp only [World.size_alloc, size_setRow, size_drew', World.size_setCell]; omega)) | with_reducible refine row_new' (by first | (simp only [World.size_alloc, size_setRow, size_drew', World.size_setCell]; done) | omega | (simp only [World.size_alloc, size_setRow, size_drew', World.size_setCell]; omega)) | with_reducible refine row_old ?_ | with_reducible refine row_below (by assumption) ?_ (by first | omega | (simp only [World.size_alloc, size_setRow, size_drew', World.size_setCell]; omega))))
    clear hW2
    have q0 : W2.cell? ⟨w1.heap.size, 0, none⟩ = some (.slice (some a) l.long.length c) := cell_row' (i := 0) r4 rfl
    have q1 : W2.cell? ⟨w1.heap.size, 1, none⟩ = some (.int .i64 l.size) := cell_row' (i := 1) r4 rfl
    have q2 : W2.cell? ⟨w1.heap.size, 2, none⟩ = some (.slice B l.knots.length d) := cell_row' (i := 2) r4 rfl
    have q3 : W2.cell? ⟨w1.heap.size, 3, none⟩ = some (.map (some m)) := cell_row' (i := 3) r4 rfl
    have H2 := Lib.hid (H1.out.below hb2)
    have HE2 := Lib.hid (HE1.out.below hb2)
    have HM2 := Lib.hid (HM1.out.below hb2)
    have HB2 := Lib.hid (bb HB1.out hb2)
    have R6 := Lib.hid r6
    have R7 := Lib.hid r7
    have RG2 := Lib.hid (row_below hb2 RG1.out (by omega))
    clear hb2 r4 r6 r7
    go_wp2_with fail
    refine (truths_any H2.out HE2.out HM2.out).mono ?_
    rintro e w3 ⟨bl, rfl, hb3, hneed, hbl⟩
    have z3 := hb3.size
    have HN := Lib.hid hneed
    have R6w := Lib.hid (row_below hb3 R6.out (by omega))
    have R7w := Lib.hid (row_below hb3 R7.out (by omega))
    have RGw := Lib.hid (row_below hb3 RG2.out (by omega))
    have HB3 := Lib.hid (bb HB2.out hb3)
    have lbl : bl < w3.heap.size := World.block_lt_of_cell? w3 _ hneed.q0
    have zz := HB1.out.size
    clear hneed hb3 q0 q1 q2 q3
    go_wp2_with fail
    refine (wpIn_wide (n := 0)).1 ?_
    refine range_law (gf := 87) (lb := #[.pointer (some ⟨bl, 0, none⟩)]) rfl (enters_of Tryd.func87 (by kernel_rfl) rfl)
      (truths_yields l a B c d m bl) (fun _ => rfl) (fun i T W => W.heap[w1.heap.size + 1]? = some (.cells #[.bool (((l.truths l.knots none72).take i).any fun r => r n)] 4 (0, 0)) ∧ W.heap[w1.heap.size + 1 + 1]? = some (.cells #[.bool (((l.truths l.knots none72).take i).all fun r => r n)] 4 (0, 0)) ∧ LoopsM m (fun b => b = w1.heap.size + 1 ∨ b = w1.heap.size + 1 + 1) w3 T W)
      ?hI (fun b h => by subst h; omega) HN.out (fun V V' hV hsz hs => HN.out.far hV (hs.below hsz (fun b hb h => by omega))) (fun V hV => ⟨?h0a, ?h0b, ?h0c⟩) ?hround ?hdone
    case hI =>
      rintro i T T' V V' ⟨hr, hr2, hl⟩ hs hT
      exact ⟨hl.obj hs (by omega) (by omega) hr, hl.obj hs (by omega) (by omega) hr2, hl.abides hs hT⟩
    case h0a => exact row_below hV R6w.out (by omega)
    case h0b => exact row_below hV R7w.out (by omega)
    case h0c => exact ⟨fun b h => by rcases h with h | h | h; exact .inl h; exact .inr (by omega); exact .inr (by omega), Ext.below hV, fun b hb _ _ => hV.block b hb⟩
    case hdone =>
      rintro D V ⟨hr, hr2, hl⟩ hneed hDa hDb hK
      rw [List.take_length] at hr hr2
      have zV := hl.ext.size
      have HL2 := Lib.hid hl
      have HK := Lib.hid hK
      have hwV : w3.heap.size < V.heap.size := (Array.getElem?_eq_some_iff.1 hK).1
      have hb0 : Below w.heap.size V (V.putObj w3.heap.size (.deferred none)) := ⟨rfl, rfl, rfl, by simp [World.putObj], fun b hb => World.putObj_heap_other (by have := HB3.out.size; omega)⟩
      have HEND := Lib.hid (HB3.out.trans (Below.trans ⟨HL2.out.ext.os, HL2.out.ext.tape, HL2.out.ext.output, HL2.out.ext.size, fun b hb => HL2.out.same b (by have := HB3.out.size; omega) (by omega) (by omega)⟩ hb0))
      obtain ⟨S1, hS1⟩ : ∃ S1, S1 = (l.truths l.knots none72).any fun r => r n := ⟨_, rfl⟩
      obtain ⟨S2, hS2⟩ : ∃ S2, S2 = (l.truths l.knots none72).all fun r => r n := ⟨_, rfl⟩
      rw [← hS1] at hr
      rw [← hS2] at hr2
      have HV := Lib.hid (show l.knottyAt (l.truths l.knots none72) n = if S2 = true then 2 else if S1 = true then 1 else 0 by rw [hS1, hS2]; rfl)

      have x0 : V.cell? ⟨w1.heap.size + 1, 0, none⟩ = some (.bool S1) := cell_row' hr rfl
      have x1 : V.cell? ⟨w1.heap.size + 1 + 1, 0, none⟩ = some (.bool S2) := cell_row' hr2 rfl
      clear hl hneed hK hr hr2 hS1 hS2 hb0
      gi_wp2
      cases S2
      · cases S1
        · go_wp2_with fail
          refine ⟨by simp, .inl ⟨_, _, rfl, run_takeDeferred HK.out, ?_⟩⟩
          exact ⟨.tuple #[.int .i64 0, .int .i64 0], (by simp [results, Tryd.results21, go_sem]), by rw [HV.out]; rfl, HEND.out⟩
        · go_wp2_with fail
          refine ⟨by simp, .inl ⟨_, _, rfl, run_takeDeferred HK.out, ?_⟩⟩
          exact ⟨.tuple #[.int .i64 1, .int .i64 0], (by simp [results, Tryd.results21, go_sem]), by rw [HV.out]; rfl, HEND.out⟩
      · go_wp2_with fail
        refine ⟨by simp, .inl ⟨_, _, rfl, run_takeDeferred HK.out, ?_⟩⟩
        exact ⟨.tuple #[.int .i64 2, .int .i64 0], (by simp [results, Tryd.results21, go_sem]), by rw [HV.out]; rfl, HEND.out⟩
    case hround =>
      rintro i x D V hx hVsz ⟨hr, hr2, hl⟩ hneed hDa hDb hDbd
      dsimp only [ribV]
      rw [put_one]
      simp only [List.setIfInBounds_toArray, List.set_cons_succ, List.set_cons_zero]
      gi_wp2_with (first | ((with_reducible refine gate_alloc_in 86 rfl ?_); refine ev_alloc_rib_in rfl rfl ?_) | ((with_reducible refine gate_store_in 86 rfl ?_); refine ev_store_rib_in rfl rfl _ _ rfl _ rfl none72 x rfl (by (repeat (first | with_reducible assumption | with_reducible exact row_new | with_reducible refine row_drew ?_ | with_reducible apply row_same | with_reducible refine row_diff ?_ (by first | omega | (simp only [World.size_alloc, size_setRow, size_drew', World.size_setCell]; omega)) | with_reducible refine row_far ?_ (by (try dsimp only); first | omega | (simp only [World.size_alloc, size_setRow, size_drew', World.size_setCell]; omega)) | with_reducible refine row_new' (by first | (simp only [World.size_alloc, size_setRow, size_drew', World.size_setCell]; done) | omega | (simp only [World.size_alloc, size_setRow, size_drew', World.size_setCell]; omega)) | with_reducible refine row_old ?_ | with_reducible refine row_below (by assumption) ?_ (by first | omega | (simp only [World.size_alloc, size_setRow, size_drew', World.size_setCell]; omega))))) ?_))
      obtain ⟨V0, hV0⟩ : ∃ V0, V0 = (V.alloc (.cells (rv none72) 86)).setRow V.heap.size (rv x) := ⟨_, rfl⟩
      have hV1 : Below V.heap.size V V0 := by rw [hV0]; exact ((Below.refl _ V).alloc (Nat.le_refl _) _).trans ((only_setRow _ _ _).below (Nat.le_refl _))
      have k4 : V0.heap[V.heap.size]? = some (.cells (rv x) 86 (0, 0)) := by rw [hV0]; (repeat (first | with_reducible assumption | with_reducible exact row_new | with_reducible refine row_drew ?_ | with_reducible apply row_same | with_reducible refine row_diff ?_ (by first | omega | (simp only [World.size_alloc, size_setRow, size_drew', World.size_setCell]; omega)) | with_reducible refine row_far ?_ (by (try dsimp only); first | omega | (simp only [World.size_alloc, size_setRow, size_drew', World.size_setCell]; omega)) | with_reducible refine row_new' (by first | (simp only [World.size_alloc, size_setRow, size_drew', World.size_setCell]; done) | omega | (simp only [World.size_alloc, size_setRow, size_drew', World.size_setCell]; omega)) | with_reducible refine row_old ?_ | with_reducible refine row_below (by assumption) ?_ (by first | omega | (simp only [World.size_alloc, size_setRow, size_drew', World.size_setCell]; omega))))
      have zV0 : V0.heap.size = V.heap.size + 1 := by rw [hV0]; simp
      rw [← hV0]
      clear hV0
      refine ⟨hV1, fun V1 hst1 => ?_⟩
      have k7 := hst1.obj k4 (by omega)
      have hs01 : Stays (fun b => (b = w1.heap.size + 1 ∨ b = w1.heap.size + 1 + 1) ∨ w3.heap.size ≤ b) V V1 := (Stays.of_below hV1).trans (hst1.mono fun b _ h => .inr (by omega))
      obtain ⟨S1, hS1⟩ : ∃ S1, S1 = ((l.truths l.knots none72).take i).any fun r => r n := ⟨_, rfl⟩
      obtain ⟨S2, hS2⟩ : ∃ S2, S2 = ((l.truths l.knots none72).take i).all fun r => r n := ⟨_, rfl⟩
      rw [← hS1] at hr
      rw [← hS2] at hr2
      have k6 : V1.heap[w1.heap.size + 1]? = some (.cells #[.bool S1] 4 (0, 0)) := hst1.obj (row_below hV1 hr (by have := hl.ext.size; omega)) (by omega)
      have k9 : V1.heap[w1.heap.size + 1 + 1]? = some (.cells #[.bool S2] 4 (0, 0)) := hst1.obj (row_below hV1 hr2 (by have := hl.ext.size; omega)) (by omega)
      have kg : V1.heap[w.heap.size + 1]? = some (.cells #[.int .i64 n] 3 (0, 0)) := (hs01.block _ (by have := hl.ext.size; omega) (fun h => by rcases h with h | h <;> omega)).trans ((hl.same _ (by omega) (by omega) (by omega)).trans RGw.out)
      have cg : V1.cell? ⟨w.heap.size + 1, 0, none⟩ = some (.int .i64 n) := cell_row' kg rfl
      have e1 : V1.cell? ⟨V.heap.size, n, none⟩ = some (.bool (x n)) := cell_row' k7 (rv_get x n (by have := HBD.out; omega))
      have hfin : ∀ (s1 s2 : Bool), s1 = (S1 || x n) → s2 = (S2 && x n) → ((((V1.drew.setCell ⟨w1.heap.size + 1, 0, none⟩ (.bool s1)).setCell ⟨w1.heap.size + 1 + 1, 0, none⟩ (.bool s2))).heap[w1.heap.size + 1]? = some (.cells #[.bool (((l.truths l.knots none72).take (i + 1)).any fun r => r n)] 4 (0, 0)) ∧ (((V1.drew.setCell ⟨w1.heap.size + 1, 0, none⟩ (.bool s1)).setCell ⟨w1.heap.size + 1 + 1, 0, none⟩ (.bool s2))).heap[w1.heap.size + 1 + 1]? = some (.cells #[.bool (((l.truths l.knots none72).take (i + 1)).all fun r => r n)] 4 (0, 0)) ∧ LoopsM m (fun b => b = w1.heap.size + 1 ∨ b = w1.heap.size + 1 + 1) w3 D (((V1.drew.setCell ⟨w1.heap.size + 1, 0, none⟩ (.bool s1)).setCell ⟨w1.heap.size + 1 + 1, 0, none⟩ (.bool s2)))) ∧ Keeps D V1 (((V1.drew.setCell ⟨w1.heap.size + 1, 0, none⟩ (.bool s1)).setCell ⟨w1.heap.size + 1 + 1, 0, none⟩ (.bool s2))) ∧ TruthsNeed l a B c d m bl (((V1.drew.setCell ⟨w1.heap.size + 1, 0, none⟩ (.bool s1)).setCell ⟨w1.heap.size + 1 + 1, 0, none⟩ (.bool s2))) := by
        rintro s1 s2 rfl rfl
        have hs : Stays (fun b => b = w1.heap.size + 1 ∨ b = w1.heap.size + 1 + 1) V1 (((V1.drew.setCell ⟨w1.heap.size + 1, 0, none⟩ (.bool (S1 || x n))).setCell ⟨w1.heap.size + 1 + 1, 0, none⟩ (.bool (S2 && x n)))) := (Stays.of_below ((Below.refl _ V1).drew)).trans ((stays_setCell _ _ _ (.inl rfl)).trans (stays_setCell _ _ _ (.inr rfl)))
        have hsV : Stays (fun b => (b = w1.heap.size + 1 ∨ b = w1.heap.size + 1 + 1) ∨ w3.heap.size ≤ b) V (((V1.drew.setCell ⟨w1.heap.size + 1, 0, none⟩ (.bool (S1 || x n))).setCell ⟨w1.heap.size + 1 + 1, 0, none⟩ (.bool (S2 && x n)))) := hs01.trans (hs.mono fun b _ h => .inl h)
        have hb0 : Below w1.heap.size V (((V1.drew.setCell ⟨w1.heap.size + 1, 0, none⟩ (.bool (S1 || x n))).setCell ⟨w1.heap.size + 1 + 1, 0, none⟩ (.bool (S2 && x n)))) := hsV.below (by have := hl.ext.size; omega) (fun b hb h => by rcases h with h | h <;> omega)
        have hcell : ∀ o' v, V.cell? ⟨bl, o', none⟩ = some v → (((V1.drew.setCell ⟨w1.heap.size + 1, 0, none⟩ (.bool (S1 || x n))).setCell ⟨w1.heap.size + 1 + 1, 0, none⟩ (.bool (S2 && x n)))).cell? ⟨bl, o', none⟩ = some v := fun o' v hv => by
          rw [← hv]
          exact World.cell?_of_block (hsV.block bl (by have := hl.ext.size; omega) (fun h => by rcases h with h | h <;> omega))
        refine ⟨⟨?_, ?_, hl.round hsV⟩, Keeps.of_stays hs (fun b hb hD => by rcases hl.t b hD with h | h <;> omega), ⟨H1.out.far hneed.log hb0, HE1.out.far hneed.ends hb0, hcell 0 _ hneed.q0, hcell 1 _ hneed.q1, hcell 2 _ hneed.q2, hcell 3 _ hneed.q3, HM1.out.far hneed.marks hb0⟩⟩
        · rw [any_succ _ i n x hx, ← hS1, heap_put (by dsimp only; omega), blk_set (row_drew k6) 0 _]
          rfl
        · rw [all_succ _ i n x hx, ← hS2, blk_set (by rw [heap_put (by dsimp only; omega)]; exact row_drew k9) 0 _]
          rfl
      have HFIN := Lib.hid hfin
      have c6 : V1.drew.cell? ⟨w1.heap.size + 1, 0, none⟩ = some (.bool S1) := cell_row' (row_drew k6) rfl
      have f6 : V1.drew.frozen? ⟨w1.heap.size + 1, 0, none⟩ = false := frozen_of_row _ _ 0 _ _ (row_drew k6)
      have c9 : ∀ v, (V1.drew.setCell ⟨w1.heap.size + 1, 0, none⟩ v).cell? ⟨w1.heap.size + 1 + 1, 0, none⟩ = some (.bool S2) := fun v => cell_row' (by rw [heap_put (by dsimp only; omega)]; exact row_drew k9) rfl
      have f9 : ∀ v, (V1.drew.setCell ⟨w1.heap.size + 1, 0, none⟩ v).frozen? ⟨w1.heap.size + 1 + 1, 0, none⟩ = false := fun v => frozen_of_row _ _ 0 _ _ (by rw [heap_put (by dsimp only; omega)]; exact row_drew k9)
      have f9o : V1.frozen? ⟨w1.heap.size + 1 + 1, 0, none⟩ = false := frozen_of_row _ _ 0 _ _ k9
      have c9' : V1.cell? ⟨w1.heap.size + 1 + 1, 0, none⟩ = some (.bool S2) := cell_row' k9 rfl
      have zz2 : w3.heap.size ≤ V.heap.size := hl.ext.size
      have zzg : w.heap.size + 1 < w1.heap.size := by omega
      have zzv : w1.heap.size + 1 + 1 < V.heap.size := by omega
      obtain ⟨b0, b1⟩ := HBD.out
      clear hfin hr hr2 hl hneed hS1 hS2 k6 k9 kg k4 k7 hV1 hs01 hst1
      try simp only [Act.put, List.setIfInBounds_toArray, List.set_cons_succ, List.set_cons_zero]
      refine wpIn_block ?_
      refine region_e_in 13 (fun w' => w'.cell? ⟨w.heap.size + 1, 0, none⟩ = some (.int .i64 n) ∧ w'.cell? ⟨V.heap.size, n, none⟩ = some (.bool (x n)) ∧ w'.cell? ⟨w1.heap.size + 1 + 1, 0, none⟩ = some (.bool S2)) (by kernel_rfl) (by kernel_rfl) (by rintro ⟨a, w, h⟩; exact h) ⟨cg, e1, c9'⟩ (fun hHeld => ?_)
      clear cg e1 c9'
      cases S2
      · refine e_take 6 29 (.bool false) rfl rfl (by kernel_rfl) (by kernel_rfl) (by kernel_rfl) (by kernel_rfl) (fun _ _ _ h => h) (Or.inl ⟨by rfl, fun w hw => by dsimp only at hw; obtain ⟨h0, h1, h2⟩ := hw; go_simp⟩) hHeld ?_
        simp only [List.setIfInBounds_toArray, List.set_cons_zero, List.set_cons_succ]
        refine wpAnyE_ready (rs := [0]) (by kernel_rfl) (by simp) ?_
        refine AllReadyE.cons rfl (fun K hK => ?_) AllReadyE.nil
        go_simp
        refine hK.out _ _ (fun _ => hHeld) (fun _ => ?_)
        clear hK
        try simp only [Act.put, List.setIfInBounds_toArray, List.set_cons_zero, List.set_cons_succ]
        cases S1
        · refine e_take 1 24 (.bool false) rfl rfl (by kernel_rfl) (by kernel_rfl) (by kernel_rfl) (by kernel_rfl) (fun _ _ _ h => h) (Or.inl ⟨by rfl, fun w hw => by dsimp only at hw; obtain ⟨h0, h1, h2⟩ := hw; go_simp⟩) hHeld ?_
          simp only [List.setIfInBounds_toArray, List.set_cons_zero, List.set_cons_succ]
          refine e_take 2 25 (.int .i64 n) rfl rfl (by kernel_rfl) (by kernel_rfl) (by kernel_rfl) (by kernel_rfl) (fun _ _ _ h => h) (Or.inl ⟨by rfl, fun w hw => by dsimp only at hw; obtain ⟨h0, h1, h2⟩ := hw; go_simp⟩) hHeld ?_
          simp only [List.setIfInBounds_toArray, List.set_cons_zero, List.set_cons_succ]
          refine e_take 3 26 (.pointer (some ⟨V.heap.size, n, none⟩)) rfl rfl (by kernel_rfl) (by kernel_rfl) (by kernel_rfl) (by kernel_rfl) (fun _ _ _ h => h) (Or.inl ⟨by rfl, fun w hw => by dsimp only at hw; obtain ⟨h0, h1, h2⟩ := hw; go_simp⟩) hHeld ?_
          simp only [List.setIfInBounds_toArray, List.set_cons_zero, List.set_cons_succ]
          refine e_take 4 27 (.bool (x n)) rfl rfl (by kernel_rfl) (by kernel_rfl) (by kernel_rfl) (by kernel_rfl) (fun _ _ _ h => h) (Or.inl ⟨by rfl, fun w hw => by dsimp only at hw; obtain ⟨h0, h1, h2⟩ := hw; go_simp⟩) hHeld ?_
          simp only [List.setIfInBounds_toArray, List.set_cons_zero, List.set_cons_succ]
          refine e_take 5 28 (.bool (x n)) rfl rfl (by kernel_rfl) (by kernel_rfl) (by kernel_rfl) (by kernel_rfl) (fun _ _ _ h => h) (Or.inl ⟨by rfl, fun w hw => by dsimp only at hw; obtain ⟨h0, h1, h2⟩ := hw; go_simp⟩) hHeld ?_
          simp only [List.setIfInBounds_toArray, List.set_cons_zero, List.set_cons_succ]
          refine e_take 7 30 (.bool false) rfl rfl (by kernel_rfl) (by kernel_rfl) (by kernel_rfl) (by kernel_rfl) (fun _ _ _ h => h) (Or.inl ⟨by rfl, fun w hw => by dsimp only at hw; obtain ⟨h0, h1, h2⟩ := hw; go_simp⟩) hHeld ?_
          simp only [List.setIfInBounds_toArray, List.set_cons_zero, List.set_cons_succ]
          refine e_take 8 31 (undef) rfl rfl (by kernel_rfl) (by kernel_rfl) (by kernel_rfl) (by kernel_rfl) (fun _ _ _ h => h) (Or.inr ⟨by rfl, rfl⟩) hHeld ?_
          simp only [List.setIfInBounds_toArray, List.set_cons_zero, List.set_cons_succ]
          refine e_take 9 32 (undef) rfl rfl (by kernel_rfl) (by kernel_rfl) (by kernel_rfl) (by kernel_rfl) (fun _ _ _ h => h) (Or.inr ⟨by rfl, rfl⟩) hHeld ?_
          simp only [List.setIfInBounds_toArray, List.set_cons_zero, List.set_cons_succ]
          refine e_take 10 33 (undef) rfl rfl (by kernel_rfl) (by kernel_rfl) (by kernel_rfl) (by kernel_rfl) (fun _ _ _ h => h) (Or.inr ⟨by rfl, rfl⟩) hHeld ?_
          simp only [List.setIfInBounds_toArray, List.set_cons_zero, List.set_cons_succ]
          refine e_take 11 34 (.bool false) rfl rfl (by kernel_rfl) (by kernel_rfl) (by kernel_rfl) (by kernel_rfl) (fun _ _ _ h => h) (Or.inl ⟨by rfl, fun w hw => by dsimp only at hw; obtain ⟨h0, h1, h2⟩ := hw; go_simp⟩) hHeld ?_
          simp only [List.setIfInBounds_toArray, List.set_cons_zero, List.set_cons_succ]
          refine wpAnyE_ready (rs := [12]) (by kernel_rfl) (by simp) ?_
          refine AllReadyE.cons rfl (fun K hK => ?_) AllReadyE.nil
          go_simp
          refine hK.out _ _ (fun _ => ⟨cset_blk hHeld.1 (by (try dsimp only); omega), cset_blk hHeld.2.1 (by (try dsimp only); omega), cset_blk hHeld.2.2 (by (try dsimp only); omega)⟩) (fun _ => ?_)
          clear hK
          try simp only [Act.put, List.setIfInBounds_toArray, List.set_cons_zero, List.set_cons_succ]
          have c9v := c9 (.bool (x n))
          have f9v := f9 (.bool (x n))
          refine wpAnyE_ready (rs := [13]) (by kernel_rfl) (by simp) ?_
          refine AllReadyE.cons rfl (fun K hK => ?_) AllReadyE.nil
          go_simp
          refine hK.out _ _ (fun h => absurd rfl h) (fun _ => ?_)
          clear hK
          try simp only [Act.put, List.setIfInBounds_toArray, List.set_cons_zero, List.set_cons_succ]
          refine wpAnyE_done (by kernel_rfl) ?_ _
          exact HFIN.out (x n) false (by simp) (by simp)
        · refine e_take 1 24 (.bool true) rfl rfl (by kernel_rfl) (by kernel_rfl) (by kernel_rfl) (by kernel_rfl) (fun _ _ _ h => h) (Or.inl ⟨by rfl, fun w hw => by dsimp only at hw; obtain ⟨h0, h1, h2⟩ := hw; go_simp⟩) hHeld ?_
          simp only [List.setIfInBounds_toArray, List.set_cons_zero, List.set_cons_succ]
          refine e_take 2 25 (undef) rfl rfl (by kernel_rfl) (by kernel_rfl) (by kernel_rfl) (by kernel_rfl) (fun _ _ _ h => h) (Or.inr ⟨by rfl, rfl⟩) hHeld ?_
          simp only [List.setIfInBounds_toArray, List.set_cons_zero, List.set_cons_succ]
          refine e_take 3 26 (undef) rfl rfl (by kernel_rfl) (by kernel_rfl) (by kernel_rfl) (by kernel_rfl) (fun _ _ _ h => h) (Or.inr ⟨by rfl, rfl⟩) hHeld ?_
          simp only [List.setIfInBounds_toArray, List.set_cons_zero, List.set_cons_succ]
          refine e_take 4 27 (undef) rfl rfl (by kernel_rfl) (by kernel_rfl) (by kernel_rfl) (by kernel_rfl) (fun _ _ _ h => h) (Or.inr ⟨by rfl, rfl⟩) hHeld ?_
          simp only [List.setIfInBounds_toArray, List.set_cons_zero, List.set_cons_succ]
          refine e_take 5 28 (.bool true) rfl rfl (by kernel_rfl) (by kernel_rfl) (by kernel_rfl) (by kernel_rfl) (fun _ _ _ h => h) (Or.inl ⟨by rfl, fun w hw => by dsimp only at hw; obtain ⟨h0, h1, h2⟩ := hw; go_simp⟩) hHeld ?_
          simp only [List.setIfInBounds_toArray, List.set_cons_zero, List.set_cons_succ]
          refine e_take 7 30 (.bool false) rfl rfl (by kernel_rfl) (by kernel_rfl) (by kernel_rfl) (by kernel_rfl) (fun _ _ _ h => h) (Or.inl ⟨by rfl, fun w hw => by dsimp only at hw; obtain ⟨h0, h1, h2⟩ := hw; go_simp⟩) hHeld ?_
          simp only [List.setIfInBounds_toArray, List.set_cons_zero, List.set_cons_succ]
          refine e_take 8 31 (undef) rfl rfl (by kernel_rfl) (by kernel_rfl) (by kernel_rfl) (by kernel_rfl) (fun _ _ _ h => h) (Or.inr ⟨by rfl, rfl⟩) hHeld ?_
          simp only [List.setIfInBounds_toArray, List.set_cons_zero, List.set_cons_succ]
          refine e_take 9 32 (undef) rfl rfl (by kernel_rfl) (by kernel_rfl) (by kernel_rfl) (by kernel_rfl) (fun _ _ _ h => h) (Or.inr ⟨by rfl, rfl⟩) hHeld ?_
          simp only [List.setIfInBounds_toArray, List.set_cons_zero, List.set_cons_succ]
          refine e_take 10 33 (undef) rfl rfl (by kernel_rfl) (by kernel_rfl) (by kernel_rfl) (by kernel_rfl) (fun _ _ _ h => h) (Or.inr ⟨by rfl, rfl⟩) hHeld ?_
          simp only [List.setIfInBounds_toArray, List.set_cons_zero, List.set_cons_succ]
          refine e_take 11 34 (.bool false) rfl rfl (by kernel_rfl) (by kernel_rfl) (by kernel_rfl) (by kernel_rfl) (fun _ _ _ h => h) (Or.inl ⟨by rfl, fun w hw => by dsimp only at hw; obtain ⟨h0, h1, h2⟩ := hw; go_simp⟩) hHeld ?_
          simp only [List.setIfInBounds_toArray, List.set_cons_zero, List.set_cons_succ]
          refine wpAnyE_ready (rs := [12]) (by kernel_rfl) (by simp) ?_
          refine AllReadyE.cons rfl (fun K hK => ?_) AllReadyE.nil
          go_simp
          refine hK.out _ _ (fun _ => ⟨cset_blk hHeld.1 (by (try dsimp only); omega), cset_blk hHeld.2.1 (by (try dsimp only); omega), cset_blk hHeld.2.2 (by (try dsimp only); omega)⟩) (fun _ => ?_)
          clear hK
          try simp only [Act.put, List.setIfInBounds_toArray, List.set_cons_zero, List.set_cons_succ]
          have c9v := c9 (.bool true)
          have f9v := f9 (.bool true)
          refine wpAnyE_ready (rs := [13]) (by kernel_rfl) (by simp) ?_
          refine AllReadyE.cons rfl (fun K hK => ?_) AllReadyE.nil
          go_simp
          refine hK.out _ _ (fun h => absurd rfl h) (fun _ => ?_)
          clear hK
          try simp only [Act.put, List.setIfInBounds_toArray, List.set_cons_zero, List.set_cons_succ]
          refine wpAnyE_done (by kernel_rfl) ?_ _
          exact HFIN.out true false (by simp) (by simp)
      · refine e_take 6 29 (.bool true) rfl rfl (by kernel_rfl) (by kernel_rfl) (by kernel_rfl) (by kernel_rfl) (fun _ _ _ h => h) (Or.inl ⟨by rfl, fun w hw => by dsimp only at hw; obtain ⟨h0, h1, h2⟩ := hw; go_simp⟩) hHeld ?_
        simp only [List.setIfInBounds_toArray, List.set_cons_zero, List.set_cons_succ]
        refine wpAnyE_ready (rs := [0]) (by kernel_rfl) (by simp) ?_
        refine AllReadyE.cons rfl (fun K hK => ?_) AllReadyE.nil
        go_simp
        refine hK.out _ _ (fun _ => hHeld) (fun _ => ?_)
        clear hK
        try simp only [Act.put, List.setIfInBounds_toArray, List.set_cons_zero, List.set_cons_succ]
        cases S1
        · refine e_take 1 24 (.bool false) rfl rfl (by kernel_rfl) (by kernel_rfl) (by kernel_rfl) (by kernel_rfl) (fun _ _ _ h => h) (Or.inl ⟨by rfl, fun w hw => by dsimp only at hw; obtain ⟨h0, h1, h2⟩ := hw; go_simp⟩) hHeld ?_
          simp only [List.setIfInBounds_toArray, List.set_cons_zero, List.set_cons_succ]
          refine e_take 2 25 (.int .i64 n) rfl rfl (by kernel_rfl) (by kernel_rfl) (by kernel_rfl) (by kernel_rfl) (fun _ _ _ h => h) (Or.inl ⟨by rfl, fun w hw => by dsimp only at hw; obtain ⟨h0, h1, h2⟩ := hw; go_simp⟩) hHeld ?_
          simp only [List.setIfInBounds_toArray, List.set_cons_zero, List.set_cons_succ]
          refine e_take 3 26 (.pointer (some ⟨V.heap.size, n, none⟩)) rfl rfl (by kernel_rfl) (by kernel_rfl) (by kernel_rfl) (by kernel_rfl) (fun _ _ _ h => h) (Or.inl ⟨by rfl, fun w hw => by dsimp only at hw; obtain ⟨h0, h1, h2⟩ := hw; go_simp⟩) hHeld ?_
          simp only [List.setIfInBounds_toArray, List.set_cons_zero, List.set_cons_succ]
          refine e_take 4 27 (.bool (x n)) rfl rfl (by kernel_rfl) (by kernel_rfl) (by kernel_rfl) (by kernel_rfl) (fun _ _ _ h => h) (Or.inl ⟨by rfl, fun w hw => by dsimp only at hw; obtain ⟨h0, h1, h2⟩ := hw; go_simp⟩) hHeld ?_
          simp only [List.setIfInBounds_toArray, List.set_cons_zero, List.set_cons_succ]
          refine e_take 5 28 (.bool (x n)) rfl rfl (by kernel_rfl) (by kernel_rfl) (by kernel_rfl) (by kernel_rfl) (fun _ _ _ h => h) (Or.inl ⟨by rfl, fun w hw => by dsimp only at hw; obtain ⟨h0, h1, h2⟩ := hw; go_simp⟩) hHeld ?_
          simp only [List.setIfInBounds_toArray, List.set_cons_zero, List.set_cons_succ]
          refine e_take 7 30 (.bool true) rfl rfl (by kernel_rfl) (by kernel_rfl) (by kernel_rfl) (by kernel_rfl) (fun _ _ _ h => h) (Or.inl ⟨by rfl, fun w hw => by dsimp only at hw; obtain ⟨h0, h1, h2⟩ := hw; go_simp⟩) hHeld ?_
          simp only [List.setIfInBounds_toArray, List.set_cons_zero, List.set_cons_succ]
          refine e_take 8 31 (.int .i64 n) rfl rfl (by kernel_rfl) (by kernel_rfl) (by kernel_rfl) (by kernel_rfl) (fun _ _ _ h => h) (Or.inl ⟨by rfl, fun w hw => by dsimp only at hw; obtain ⟨h0, h1, h2⟩ := hw; go_simp⟩) hHeld ?_
          simp only [List.setIfInBounds_toArray, List.set_cons_zero, List.set_cons_succ]
          refine e_take 9 32 (.pointer (some ⟨V.heap.size, n, none⟩)) rfl rfl (by kernel_rfl) (by kernel_rfl) (by kernel_rfl) (by kernel_rfl) (fun _ _ _ h => h) (Or.inl ⟨by rfl, fun w hw => by dsimp only at hw; obtain ⟨h0, h1, h2⟩ := hw; go_simp⟩) hHeld ?_
          simp only [List.setIfInBounds_toArray, List.set_cons_zero, List.set_cons_succ]
          refine e_take 10 33 (.bool (x n)) rfl rfl (by kernel_rfl) (by kernel_rfl) (by kernel_rfl) (by kernel_rfl) (fun _ _ _ h => h) (Or.inl ⟨by rfl, fun w hw => by dsimp only at hw; obtain ⟨h0, h1, h2⟩ := hw; go_simp⟩) hHeld ?_
          simp only [List.setIfInBounds_toArray, List.set_cons_zero, List.set_cons_succ]
          refine e_take 11 34 (.bool (x n)) rfl rfl (by kernel_rfl) (by kernel_rfl) (by kernel_rfl) (by kernel_rfl) (fun _ _ _ h => h) (Or.inl ⟨by rfl, fun w hw => by dsimp only at hw; obtain ⟨h0, h1, h2⟩ := hw; go_simp⟩) hHeld ?_
          simp only [List.setIfInBounds_toArray, List.set_cons_zero, List.set_cons_succ]
          refine wpAnyE_ready (rs := [12]) (by kernel_rfl) (by simp) ?_
          refine AllReadyE.cons rfl (fun K hK => ?_) AllReadyE.nil
          go_simp
          refine hK.out _ _ (fun _ => ⟨cset_blk hHeld.1 (by (try dsimp only); omega), cset_blk hHeld.2.1 (by (try dsimp only); omega), cset_blk hHeld.2.2 (by (try dsimp only); omega)⟩) (fun _ => ?_)
          clear hK
          try simp only [Act.put, List.setIfInBounds_toArray, List.set_cons_zero, List.set_cons_succ]
          have c9v := c9 (.bool (x n))
          have f9v := f9 (.bool (x n))
          refine wpAnyE_ready (rs := [13]) (by kernel_rfl) (by simp) ?_
          refine AllReadyE.cons rfl (fun K hK => ?_) AllReadyE.nil
          go_simp
          refine hK.out _ _ (fun h => absurd rfl h) (fun _ => ?_)
          clear hK
          try simp only [Act.put, List.setIfInBounds_toArray, List.set_cons_zero, List.set_cons_succ]
          refine wpAnyE_done (by kernel_rfl) ?_ _
          exact HFIN.out (x n) (x n) (by simp) (by simp)
        · refine e_take 1 24 (.bool true) rfl rfl (by kernel_rfl) (by kernel_rfl) (by kernel_rfl) (by kernel_rfl) (fun _ _ _ h => h) (Or.inl ⟨by rfl, fun w hw => by dsimp only at hw; obtain ⟨h0, h1, h2⟩ := hw; go_simp⟩) hHeld ?_
          simp only [List.setIfInBounds_toArray, List.set_cons_zero, List.set_cons_succ]
          refine e_take 2 25 (undef) rfl rfl (by kernel_rfl) (by kernel_rfl) (by kernel_rfl) (by kernel_rfl) (fun _ _ _ h => h) (Or.inr ⟨by rfl, rfl⟩) hHeld ?_
          simp only [List.setIfInBounds_toArray, List.set_cons_zero, List.set_cons_succ]
          refine e_take 3 26 (undef) rfl rfl (by kernel_rfl) (by kernel_rfl) (by kernel_rfl) (by kernel_rfl) (fun _ _ _ h => h) (Or.inr ⟨by rfl, rfl⟩) hHeld ?_
          simp only [List.setIfInBounds_toArray, List.set_cons_zero, List.set_cons_succ]
          refine e_take 4 27 (undef) rfl rfl (by kernel_rfl) (by kernel_rfl) (by kernel_rfl) (by kernel_rfl) (fun _ _ _ h => h) (Or.inr ⟨by rfl, rfl⟩) hHeld ?_
          simp only [List.setIfInBounds_toArray, List.set_cons_zero, List.set_cons_succ]
          refine e_take 5 28 (.bool true) rfl rfl (by kernel_rfl) (by kernel_rfl) (by kernel_rfl) (by kernel_rfl) (fun _ _ _ h => h) (Or.inl ⟨by rfl, fun w hw => by dsimp only at hw; obtain ⟨h0, h1, h2⟩ := hw; go_simp⟩) hHeld ?_
          simp only [List.setIfInBounds_toArray, List.set_cons_zero, List.set_cons_succ]
          refine e_take 7 30 (.bool true) rfl rfl (by kernel_rfl) (by kernel_rfl) (by kernel_rfl) (by kernel_rfl) (fun _ _ _ h => h) (Or.inl ⟨by rfl, fun w hw => by dsimp only at hw; obtain ⟨h0, h1, h2⟩ := hw; go_simp⟩) hHeld ?_
          simp only [List.setIfInBounds_toArray, List.set_cons_zero, List.set_cons_succ]
          refine e_take 8 31 (.int .i64 n) rfl rfl (by kernel_rfl) (by kernel_rfl) (by kernel_rfl) (by kernel_rfl) (fun _ _ _ h => h) (Or.inl ⟨by rfl, fun w hw => by dsimp only at hw; obtain ⟨h0, h1, h2⟩ := hw; go_simp⟩) hHeld ?_
          simp only [List.setIfInBounds_toArray, List.set_cons_zero, List.set_cons_succ]
          refine e_take 9 32 (.pointer (some ⟨V.heap.size, n, none⟩)) rfl rfl (by kernel_rfl) (by kernel_rfl) (by kernel_rfl) (by kernel_rfl) (fun _ _ _ h => h) (Or.inl ⟨by rfl, fun w hw => by dsimp only at hw; obtain ⟨h0, h1, h2⟩ := hw; go_simp⟩) hHeld ?_
          simp only [List.setIfInBounds_toArray, List.set_cons_zero, List.set_cons_succ]
          refine e_take 10 33 (.bool (x n)) rfl rfl (by kernel_rfl) (by kernel_rfl) (by kernel_rfl) (by kernel_rfl) (fun _ _ _ h => h) (Or.inl ⟨by rfl, fun w hw => by dsimp only at hw; obtain ⟨h0, h1, h2⟩ := hw; go_simp⟩) hHeld ?_
          simp only [List.setIfInBounds_toArray, List.set_cons_zero, List.set_cons_succ]
          refine e_take 11 34 (.bool (x n)) rfl rfl (by kernel_rfl) (by kernel_rfl) (by kernel_rfl) (by kernel_rfl) (fun _ _ _ h => h) (Or.inl ⟨by rfl, fun w hw => by dsimp only at hw; obtain ⟨h0, h1, h2⟩ := hw; go_simp⟩) hHeld ?_
          simp only [List.setIfInBounds_toArray, List.set_cons_zero, List.set_cons_succ]
          refine wpAnyE_ready (rs := [12]) (by kernel_rfl) (by simp) ?_
          refine AllReadyE.cons rfl (fun K hK => ?_) AllReadyE.nil
          go_simp
          refine hK.out _ _ (fun _ => ⟨cset_blk hHeld.1 (by (try dsimp only); omega), cset_blk hHeld.2.1 (by (try dsimp only); omega), cset_blk hHeld.2.2 (by (try dsimp only); omega)⟩) (fun _ => ?_)
          clear hK
          try simp only [Act.put, List.setIfInBounds_toArray, List.set_cons_zero, List.set_cons_succ]
          have c9v := c9 (.bool true)
          have f9v := f9 (.bool true)
          refine wpAnyE_ready (rs := [13]) (by kernel_rfl) (by simp) ?_
          refine AllReadyE.cons rfl (fun K hK => ?_) AllReadyE.nil
          go_simp
          refine hK.out _ _ (fun h => absurd rfl h) (fun _ => ?_)
          clear hK
          try simp only [Act.put, List.setIfInBounds_toArray, List.set_cons_zero, List.set_cons_succ]
          refine wpAnyE_done (by kernel_rfl) ?_ _
          exact HFIN.out true (x n) (by simp) (by simp)
  · exact knotty_refused h X hgood
end Go.Proofs.YtigofgdmefobaaaDoor.Peel
