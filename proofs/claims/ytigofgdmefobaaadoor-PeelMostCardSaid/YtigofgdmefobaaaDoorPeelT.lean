/- Walks of package peel: the columns that have a knot in some truth. -/
import Derived.Test.YtigofgdmefobaaaDoorPeelS
set_option linter.unusedVariables false
set_option linter.unusedSimpArgs false
namespace Go.Proofs.YtigofgdmefobaaaDoor.Peel
open Go.RowKit Go.Proofs.YtigofgdmefobaaaDoor.Iter
attribute [local go_sem] Oper.semAt_some

theorem put_one (t : Array Value) (p : Tmp) (v : Value) : ((#[p] : Array Tmp).zip #[v]).foldl (fun t (p, v) => t.setIfInBounds p v) t = t.setIfInBounds p v := by simp
/-- What is in some of several ribbons. -/
def anyOf (xs : List (Nat → Bool)) : Nat → Bool := fun i => xs.any fun r => r i
def PL.possible (l : PL) : Nat → Bool := anyOf (l.truths l.knots none72)
theorem anyOf_succ (xs : List (Nat → Bool)) (i : Nat) (x : Nat → Bool) (h : xs[i]? = some x) : anyOf (xs.take (i + 1)) = fun j => anyOf (xs.take i) j || x j := by
  have hi := (List.getElem?_eq_some_iff.1 h)
  obtain ⟨hi, he⟩ := hi
  funext j
  unfold anyOf
  rw [List.take_succ_eq_append_getElem hi, List.any_append, he]
  simp
/-- A loop over truths that turns one block of its own, b3, from w on. -/
structure Loops (m b3 : Nat) (w : World) (T : Nat → Prop) (W : World) : Prop where
  t : ∀ b, T b → b = m ∨ w.heap.size ≤ b
  ext : Ext w W
  same : ∀ b, b < w.heap.size → b ≠ m → b ≠ b3 → W.heap[b]? = w.heap[b]?
theorem Loops.abides {m b3 : Nat} {w : World} {T T' : Nat → Prop} {W W' : World} (h : Loops m b3 w T W) (hs : Stays T W W') (hT : ∀ b, b < W.heap.size → ¬ T b → ¬ T' b) : Loops m b3 w T' W' := by
  refine ⟨fun b hb => ?_, h.ext.trans hs.ext, fun b hb h1 h2 => (hs.block b (by have := h.ext.size; omega) (fun ht => ?_)).trans (h.same b hb h1 h2)⟩
  · rcases Nat.lt_or_ge b W.heap.size with hlt | hge
    · exact h.t b (Classical.byContradiction fun hn => hT b hlt hn hb)
    · exact .inr (by have := h.ext.size; omega)
  · rcases h.t b ht with h | h <;> omega
theorem Loops.obj {m b3 : Nat} {w : World} {T : Nat → Prop} {W W' : World} (h : Loops m b3 w T W) (hs : Stays T W W') (hb : b3 < w.heap.size) (hm : b3 ≠ m) {o : Obj} (ho : W.heap[b3]? = some o) : W'.heap[b3]? = some o :=
  hs.obj ho fun ht => by rcases h.t b3 ht with h | h <;> omega
/-- A round that turned b3 alone, of what lay before. -/
theorem Loops.round {m b3 : Nat} {w : World} {T : Nat → Prop} {W W1 : World} (h : Loops m b3 w T W) (hs : Stays (fun b => b = b3 ∨ w.heap.size ≤ b) W W1) : Loops m b3 w T W1 :=
  ⟨h.t, h.ext.trans hs.ext, fun b hb h1 h2 => (hs.block b (by have := h.ext.size; omega) (fun ht => by rcases ht with h | h <;> omega)).trans (h.same b hb h1 h2)⟩
set_option maxRecDepth 8000 in
set_option maxHeartbeats 8000000 in
theorem possible_any {w0 : World} {l : PL} {a : Addr} {B : Option Addr} {c d m : Nat} (h : LogAt w0 l a B c d) (he : EndsAt w0) (hm : MarksAt l m w0) :
    Calls Tryd.prog 72 #[.agg #[.slice (some a) l.long.length c, .int .i64 l.size, .slice B l.knots.length d, .map (some m)]] w0 fun e w' => e = .returned (.agg (rv l.possible)) ∧ Turned m w0 w' ∧ MarksAt l m w' := by
  have hml : m < w0.heap.size := by obtain ⟨es, cl, h1, _⟩ := hm; exact (Array.getElem?_eq_some_iff.1 h1).1
  have hB := ((Below.refl _ w0).alloc (Nat.le_refl _) (.cells #[.slice (some a) l.long.length c, .int .i64 l.size, .slice B l.knots.length d, .map (some m)] 75)).alloc (by simp) (.cells (rv none72) 86)
  obtain ⟨W1, hW1⟩ : ∃ W1, W1 = (w0.alloc (.cells #[.slice (some a) l.long.length c, .int .i64 l.size, .slice B l.knots.length d, .map (some m)] 75)).alloc (.cells (rv none72) 86) := ⟨_, rfl⟩
  have z1 : W1.heap.size = w0.heap.size + 2 := by rw [hW1]; simp
  have r1 : W1.heap[w0.heap.size]? = some (.cells #[.slice (some a) l.long.length c, .int .i64 l.size, .slice B l.knots.length d, .map (some m)] 75 (0, 0)) := by rw [hW1]; (repeat (first | with_reducible assumption | with_reducible exact row_new | with_reducible refine row_drew ?_ | with_reducible apply row_same | with_reducible refine row_diff ?_ (by first | omega | (simp only [World.size_alloc, size_setRow, size_drew', World.size_setCell]; omega)) | with_reducible refine row_far ?_ (by (try dsimp only); first | omega | (simp only [World.size_alloc, size_setRow, size_drew', World.size_setCell]; omega)) | with_reducible refine row_new' (by first | (simp only [World.size_alloc, size_setRow, size_drew', World.size_setCell]; done) | omega | (simp only [World.size_alloc, size_setRow, size_drew', World.size_setCell]; omega)) | with_reducible refine row_old ?_ | with_reducible refine row_below (by assumption) ?_ (by first | omega | (simp only [World.size_alloc, size_setRow, size_drew', World.size_setCell]; omega))))
  have r2 : W1.heap[w0.heap.size + 1]? = some (.cells (rv none72) 86 (0, 0)) := by rw [hW1]; (repeat (first | with_reducible assumption | with_reducible exact row_new | with_reducible refine row_drew ?_ | with_reducible apply row_same | with_reducible refine row_diff ?_ (by first | omega | (simp only [World.size_alloc, size_setRow, size_drew', World.size_setCell]; omega)) | with_reducible refine row_far ?_ (by (try dsimp only); first | omega | (simp only [World.size_alloc, size_setRow, size_drew', World.size_setCell]; omega)) | with_reducible refine row_new' (by first | (simp only [World.size_alloc, size_setRow, size_drew', World.size_setCell]; done) | omega | (simp only [World.size_alloc, size_setRow, size_drew', World.size_setCell]; omega)) | with_reducible refine row_old ?_ | with_reducible refine row_below (by assumption) ?_ (by first | omega | (simp only [World.size_alloc, size_setRow, size_drew', World.size_setCell]; omega))))
  rw [← hW1] at hB
  have HB := Lib.hid hB
  have HL := Lib.hid h
  have HE := Lib.hid he
  have HM := Lib.hid hm
  have R1 := Lib.hid r1
  have R2 := Lib.hid r2
  clear h he hm hB r1 r2
  refine callsIn_wide.1 (callsIn_of_wp_marks (n := 0) Tryd.func72 rfl trivial ?_)
  simp only [Tryd.ntmps72, List.size_toArray, List.length_cons, List.length_nil, Nat.reduceAdd, Nat.reduceSub, Array.replicate_succ, Array.replicate_zero, List.push_toArray, List.append_toArray, List.nil_append, List.cons_append]
  refine wpIn_wide.2 ?_
  go_upto_region 1 with (first | ((with_reducible refine gate_alloc 86 rfl ?_); refine ev_alloc_rib rfl rfl ?_))
  rw [← hW1]
  clear hW1
  go_wp2_with fail
  refine (clean_any W1).mono ?_
  rintro e W2 ⟨rfl, hb2⟩
  have z2 := hb2.size
  have HB2 := Lib.hid hb2
  clear hb2
  go_upto_region 2 with (first | ((with_reducible refine gate_alloc 86 rfl ?_); refine ev_alloc_rib rfl rfl ?_) | ((with_reducible refine gate_store 86 rfl ?_); refine ev_store_rib rfl rfl _ _ rfl _ rfl none72 none72 rfl (by (repeat (first | with_reducible assumption | with_reducible exact row_new | with_reducible refine row_drew ?_ | with_reducible apply row_same | with_reducible refine row_diff ?_ (by first | omega | (simp only [World.size_alloc, size_setRow, size_drew', World.size_setCell]; omega)) | with_reducible refine row_far ?_ (by (try dsimp only); first | omega | (simp only [World.size_alloc, size_setRow, size_drew', World.size_setCell]; omega)) | with_reducible refine row_new' (by first | (simp only [World.size_alloc, size_setRow, size_drew', World.size_setCell]; done) | omega | (simp only [World.size_alloc, size_setRow, size_drew', World.size_setCell]; omega)) | with_reducible refine row_old ?_ | with_reducible refine row_below (by assumption) ?_ (by first | omega | (simp only [World.size_alloc, size_setRow, size_drew', World.size_setCell]; omega))))) ?_))
  obtain ⟨W3, hW3⟩ : ∃ W3, W3 = (W2.alloc (.cells (rv none72) 86)).setRow W2.heap.size (rv none72) := ⟨_, rfl⟩
  have z3 : W3.heap.size = W2.heap.size + 1 := by rw [hW3]; simp
  have hb3 : Below W2.heap.size W2 W3 := by rw [hW3]; exact ((Below.refl _ W2).alloc (Nat.le_refl _) _).trans ((only_setRow _ _ _).below (Nat.le_refl _))
  have r3 : W3.heap[W2.heap.size]? = some (.cells (rv none72) 86 (0, 0)) := by rw [hW3]; (repeat (first | with_reducible assumption | with_reducible exact row_new | with_reducible refine row_drew ?_ | with_reducible apply row_same | with_reducible refine row_diff ?_ (by first | omega | (simp only [World.size_alloc, size_setRow, size_drew', World.size_setCell]; omega)) | with_reducible refine row_far ?_ (by (try dsimp only); first | omega | (simp only [World.size_alloc, size_setRow, size_drew', World.size_setCell]; omega)) | with_reducible refine row_new' (by first | (simp only [World.size_alloc, size_setRow, size_drew', World.size_setCell]; done) | omega | (simp only [World.size_alloc, size_setRow, size_drew', World.size_setCell]; omega)) | with_reducible refine row_old ?_ | with_reducible refine row_below (by assumption) ?_ (by first | omega | (simp only [World.size_alloc, size_setRow, size_drew', World.size_setCell]; omega))))
  rw [← hW3]
  clear hW3
  have hb13 := bb HB2.out hb3
  have r1' := row_below hb13 R1.out (by omega)
  have q0 : W3.cell? ⟨w0.heap.size, 0, none⟩ = some (.slice (some a) l.long.length c) := cell_row' (i := 0) r1' rfl
  have q1 : W3.cell? ⟨w0.heap.size, 1, none⟩ = some (.int .i64 l.size) := cell_row' (i := 1) r1' rfl
  have q2 : W3.cell? ⟨w0.heap.size, 2, none⟩ = some (.slice B l.knots.length d) := cell_row' (i := 2) r1' rfl
  have q3 : W3.cell? ⟨w0.heap.size, 3, none⟩ = some (.map (some m)) := cell_row' (i := 3) r1' rfl
  have hb03 := bb HB.out hb13
  have HB03 := Lib.hid hb03
  have R3 := Lib.hid r3
  have R23 := Lib.hid (row_below hb13 R2.out (by omega))
  clear hb3 hb13 hb03 r3 r1'
  go_wp2_with fail
  refine (truths_any (HL.out.below HB03.out) (HE.out.below HB03.out) (HM.out.below HB03.out)).mono ?_
  rintro e w ⟨bl, rfl, hb4, hneed, hbl⟩
  have z4 := hb4.size
  have HN := Lib.hid hneed
  have HB4 := Lib.hid hb4
  have R3w := Lib.hid (row_below hb4 R3.out (by omega))
  have R2w := Lib.hid (row_below hb4 R23.out (by omega))
  have HB0 := Lib.hid (bb HB03.out hb4)
  have lbl : bl < w.heap.size := World.block_lt_of_cell? w _ hneed.q0
  clear hneed hb4 q0 q1 q2 q3
  go_wp2_with fail
  refine (wpIn_wide (n := 0)).1 ?_
  refine range_law (gf := 87) (lb := #[.pointer (some ⟨bl, 0, none⟩)]) rfl (enters_of Tryd.func87 (by kernel_rfl) rfl)
    (truths_yields l a B c d m bl) (fun _ => rfl) (fun i T W => W.heap[W2.heap.size]? = some (.cells (rv (anyOf ((l.truths l.knots none72).take i))) 86 (0, 0)) ∧ Loops m W2.heap.size w T W)
    ?hI (fun b h => by subst h; omega) HN.out (fun V V' hV hsz hs => HN.out.far hV (hs.below hsz (fun b hb h => by omega))) (fun V hV => ⟨?h0a, ?h0b⟩) ?hround ?hdone
  case hI =>
    rintro i T T' V V' ⟨hr, hl⟩ hs hT
    exact ⟨hl.obj hs (by omega) (by omega) hr, hl.abides hs hT⟩
  case h0a => exact row_below hV R3w.out (by omega)
  case h0b => exact ⟨fun b h => by rcases h with h | h | h; exact .inl h; exact .inr (by omega); exact .inr (by omega), Ext.below hV, fun b hb _ _ => hV.block b hb⟩
  case hdone =>
    rintro D V ⟨hr, hl⟩ hneed hDa hDb hK
    rw [List.take_length] at hr
    have zV := hl.ext.size
    have k2 : V.heap[w0.heap.size + 1]? = some (.cells (rv none72) 86 (0, 0)) := (hl.same _ (by omega) (by omega) (by omega)).trans R2w.out
    have HR := Lib.hid hr
    have HL2 := Lib.hid hl
    have HN2 := Lib.hid hneed
    have HK := Lib.hid hK
    have hwV : w.heap.size < V.heap.size := (Array.getElem?_eq_some_iff.1 hK).1
    clear hl hneed hK
    gi_wp2
    go_wp2_with (first | ((with_reducible refine gate_load 86 rfl ?_); refine ev_load_rib rfl _ rfl _ rfl (anyOf (l.truths l.knots none72)) (by (repeat (first | with_reducible assumption | with_reducible exact row_new | with_reducible refine row_drew ?_ | with_reducible apply row_same | with_reducible refine row_diff ?_ (by first | omega | (simp only [World.size_alloc, size_setRow, size_drew', World.size_setCell]; omega)) | with_reducible refine row_far ?_ (by (try dsimp only); first | omega | (simp only [World.size_alloc, size_setRow, size_drew', World.size_setCell]; omega)) | with_reducible refine row_new' (by first | (simp only [World.size_alloc, size_setRow, size_drew', World.size_setCell]; done) | omega | (simp only [World.size_alloc, size_setRow, size_drew', World.size_setCell]; omega)) | with_reducible refine row_old ?_ | with_reducible refine row_below (by assumption) ?_ (by first | omega | (simp only [World.size_alloc, size_setRow, size_drew', World.size_setCell]; omega))))) ?_) | ((with_reducible refine gate_store 86 rfl ?_); refine ev_store_rib rfl rfl _ _ rfl _ rfl none72 (anyOf (l.truths l.knots none72)) rfl (by (repeat (first | with_reducible assumption | with_reducible exact row_new | with_reducible refine row_drew ?_ | with_reducible apply row_same | with_reducible refine row_diff ?_ (by first | omega | (simp only [World.size_alloc, size_setRow, size_drew', World.size_setCell]; omega)) | with_reducible refine row_far ?_ (by (try dsimp only); first | omega | (simp only [World.size_alloc, size_setRow, size_drew', World.size_setCell]; omega)) | with_reducible refine row_new' (by first | (simp only [World.size_alloc, size_setRow, size_drew', World.size_setCell]; done) | omega | (simp only [World.size_alloc, size_setRow, size_drew', World.size_setCell]; omega)) | with_reducible refine row_old ?_ | with_reducible refine row_below (by assumption) ?_ (by first | omega | (simp only [World.size_alloc, size_setRow, size_drew', World.size_setCell]; omega))))) ?_))
    have hg : (V.setRow (w0.heap.size + 1) (rv (anyOf (l.truths l.knots none72)))).heap[w0.heap.size + 1]? = some (.cells (rv (anyOf (l.truths l.knots none72))) 86 (0, 0)) := by (repeat (first | with_reducible assumption | with_reducible exact row_new | with_reducible refine row_drew ?_ | with_reducible apply row_same | with_reducible refine row_diff ?_ (by first | omega | (simp only [World.size_alloc, size_setRow, size_drew', World.size_setCell]; omega)) | with_reducible refine row_far ?_ (by (try dsimp only); first | omega | (simp only [World.size_alloc, size_setRow, size_drew', World.size_setCell]; omega)) | with_reducible refine row_new' (by first | (simp only [World.size_alloc, size_setRow, size_drew', World.size_setCell]; done) | omega | (simp only [World.size_alloc, size_setRow, size_drew', World.size_setCell]; omega)) | with_reducible refine row_old ?_ | with_reducible refine row_below (by assumption) ?_ (by first | omega | (simp only [World.size_alloc, size_setRow, size_drew', World.size_setCell]; omega))))
    have hKd : (V.setRow (w0.heap.size + 1) (rv (anyOf (l.truths l.knots none72)))).heap[w.heap.size]? = some (.deferred (some [])) := (setRow_other _ _ _ _ (by omega)).trans HK.out
    have hg2 : ((V.setRow (w0.heap.size + 1) (rv (anyOf (l.truths l.knots none72)))).putObj w.heap.size (.deferred none)).heap[w0.heap.size + 1]? = some (.cells (rv (anyOf (l.truths l.knots none72))) 86 (0, 0)) := (World.putObj_heap_other (by omega)).trans hg
    have hb0 : Below w0.heap.size V ((V.setRow (w0.heap.size + 1) (rv (anyOf (l.truths l.knots none72)))).putObj w.heap.size (.deferred none)) :=
      ⟨rfl, rfl, rfl, by simp [World.putObj], fun b hb => (World.putObj_heap_other (by omega)).trans (setRow_other _ _ _ _ (by omega))⟩
    refine ⟨by simp, .inl ⟨_, _, rfl, run_takeDeferred hKd, ?_⟩⟩
    refine ⟨.agg (rv l.possible), results_cell_row rfl _ _ _ _ _ _ _ rfl hg2 undRib rfl (by rw [rv_size]; exact sizeRib), rfl, ?_, HM.out.far HN2.out.marks hb0⟩
    refine ⟨(Ext.below HB0.out).trans (HL2.out.ext.trans (Ext.below hb0)), fun b hb hne => ?_⟩
    exact (hb0.block b hb).trans ((HL2.out.same b (by omega) hne (by omega)).trans (HB0.out.block b hb))
  case hround =>
    rintro i x D V hx hVsz ⟨hr, hl⟩ hneed hDa hDb hDbd
    dsimp only [ribV]
    rw [put_one]
    simp only [List.setIfInBounds_toArray, List.set_cons_succ, List.set_cons_zero]
    gi_wp2_with (first | ((with_reducible refine gate_alloc_in 86 rfl ?_); refine ev_alloc_rib_in rfl rfl ?_) | ((with_reducible refine gate_store_in 86 rfl ?_); refine ev_store_rib_in rfl rfl _ _ rfl _ rfl none72 x rfl (by (repeat (first | with_reducible assumption | with_reducible exact row_new | with_reducible refine row_drew ?_ | with_reducible apply row_same | with_reducible refine row_diff ?_ (by first | omega | (simp only [World.size_alloc, size_setRow, size_drew', World.size_setCell]; omega)) | with_reducible refine row_far ?_ (by (try dsimp only); first | omega | (simp only [World.size_alloc, size_setRow, size_drew', World.size_setCell]; omega)) | with_reducible refine row_new' (by first | (simp only [World.size_alloc, size_setRow, size_drew', World.size_setCell]; done) | omega | (simp only [World.size_alloc, size_setRow, size_drew', World.size_setCell]; omega)) | with_reducible refine row_old ?_ | with_reducible refine row_below (by assumption) ?_ (by first | omega | (simp only [World.size_alloc, size_setRow, size_drew', World.size_setCell]; omega))))) ?_))
    obtain ⟨V0, hV0⟩ : ∃ V0, V0 = (V.alloc (.cells (rv none72) 86)).setRow V.heap.size (rv x) := ⟨_, rfl⟩
    have hV1 : Below V.heap.size V V0 := by rw [hV0]; exact ((Below.refl _ V).alloc (Nat.le_refl _) _).trans ((only_setRow _ _ _).below (Nat.le_refl _))
    have k4 : V0.heap[V.heap.size]? = some (.cells (rv x) 86 (0, 0)) := by rw [hV0]; (repeat (first | with_reducible assumption | with_reducible exact row_new | with_reducible refine row_drew ?_ | with_reducible apply row_same | with_reducible refine row_diff ?_ (by first | omega | (simp only [World.size_alloc, size_setRow, size_drew', World.size_setCell]; omega)) | with_reducible refine row_far ?_ (by (try dsimp only); first | omega | (simp only [World.size_alloc, size_setRow, size_drew', World.size_setCell]; omega)) | with_reducible refine row_new' (by first | (simp only [World.size_alloc, size_setRow, size_drew', World.size_setCell]; done) | omega | (simp only [World.size_alloc, size_setRow, size_drew', World.size_setCell]; omega)) | with_reducible refine row_old ?_ | with_reducible refine row_below (by assumption) ?_ (by first | omega | (simp only [World.size_alloc, size_setRow, size_drew', World.size_setCell]; omega))))
    have zV0 : V0.heap.size = V.heap.size + 1 := by rw [hV0]; simp
    rw [← hV0]
    clear hV0
    refine ⟨hV1, fun V1 hst1 => ?_⟩
    have k4' := hst1.obj k4 (by omega)
    have hs01 : Stays (fun b => b = W2.heap.size ∨ w.heap.size ≤ b) V V1 := (Stays.of_below hV1).trans (hst1.mono fun b _ h => .inr (by omega))
    have hr1 := hs01.block W2.heap.size (by omega)
    have k3 : V1.heap[W2.heap.size]? = some (.cells (rv (anyOf ((l.truths l.knots none72).take i))) 86 (0, 0)) := hst1.obj (row_below hV1 hr (by omega)) (by omega)
    have zV1 := hst1.ext.size
    have hidx : ∀ (w : World) (k : Nat), (k : Int) < 72 → (Instr.index 86 (.agg (rv x)) (.int .i64 k)).run Tryd.prog w = .ok (.bool (x k)) w := fun w k hk => by have := index_rib (w := w) (r := x) (i := k) (by omega) hk; simpa using this
    have HST1 := Lib.hid hst1
    have HS01 := Lib.hid hs01
    have K3 := Lib.hid k3
    have HL1 := Lib.hid hl
    have HN1 := Lib.hid hneed
    have HX := Lib.hid hx
    clear hst1 hs01 k3 hr hr1 hl hneed hx k4 hV1
    gi_wp2_with ((with_reducible refine gate_load_in 86 rfl ?_); refine ev_load_rib_in rfl _ rfl _ rfl x (by (repeat (first | with_reducible assumption | with_reducible exact row_new | with_reducible refine row_drew ?_ | with_reducible apply row_same | with_reducible refine row_diff ?_ (by first | omega | (simp only [World.size_alloc, size_setRow, size_drew', World.size_setCell]; omega)) | with_reducible refine row_far ?_ (by (try dsimp only); first | omega | (simp only [World.size_alloc, size_setRow, size_drew', World.size_setCell]; omega)) | with_reducible refine row_new' (by first | (simp only [World.size_alloc, size_setRow, size_drew', World.size_setCell]; done) | omega | (simp only [World.size_alloc, size_setRow, size_drew', World.size_setCell]; omega)) | with_reducible refine row_old ?_ | with_reducible refine row_below (by assumption) ?_ (by first | omega | (simp only [World.size_alloc, size_setRow, size_drew', World.size_setCell]; omega))))) ?_)
    gi_loopw [12] (fun p Wl => ∃ j : Nat, p = .int .i64 j ∧ j ≤ 72 ∧ Wl.heap[W2.heap.size]? = some (.cells (rv (orTo (anyOf ((l.truths l.knots none72).take i)) x j)) 86 (0, 0)) ∧ Stays (fun b => b = W2.heap.size) V1 Wl) (fun p _ => 72 - (intOf p).toNat)
    case atStart => exact ⟨0, rfl, by omega, by rw [orTo_zero]; exact K3.out, Stays.refl _ _⟩
    case round =>
      obtain ⟨j, rfl, hj72, hrow, hstl⟩ := hrel
      have HROW := Lib.hid hrow
      have HSTL := Lib.hid hstl
      have zl := hstl.ext.size
      clear hstl
      obtain ⟨r, hr⟩ : ∃ r, r = anyOf ((l.truths l.knots none72).take i) := ⟨_, rfl⟩
      rw [← hr] at hrow HROW
      have HRR := Lib.hid hr
      clear hr
      by_cases hjlt : j < 72
      · have hji : (j : Int) < 72 := by omega
        have hj0 : (0 : Int) ≤ (j : Int) := by omega
        have x0 : wr.cell? ⟨W2.heap.size, j, none⟩ = some (.bool (orTo r x j j)) := cell_row' hrow (rv_get _ j hjlt)
        have x1 : wr.frozen? ⟨W2.heap.size, j, none⟩ = false := frozen_of_row wr _ j _ _ hrow
        have hix := hidx wr j hji
        clear hrow hidx
        have HOS := Lib.hid (fun i => orTo_succ r x j i)
        cases hb : orTo r x j j
        · rw [hb] at x0
          gi_wp2
          refine ⟨⟨j + 1, by go_num, by omega, ?_, HSTL.out.trans (stays_setCell _ _ _ rfl)⟩, by simp [intOf]; omega⟩
          rw [blk_set HROW.out j _, rv_set]
          congr 2
          refine rv_congr fun i hi => ?_
          rw [← HRR.out, HOS.out i]
          by_cases hij : i = j
          · subst hij; simp [hb]
          · simp [hij]
        · rw [hb] at x0
          gi_wp2
          refine ⟨⟨j + 1, by go_num, by omega, ?_, HSTL.out.trans (stays_setCell _ _ _ rfl)⟩, by simp [intOf]; omega⟩
          rw [blk_set HROW.out j _, rv_set]
          congr 2
          refine rv_congr fun i hi => ?_
          rw [← HRR.out, HOS.out i]
          by_cases hij : i = j
          · subst hij; simp [hb]
          · simp [hij]
      · obtain rfl : j = 72 := by omega
        rw [orTo_all] at hrow
        clear hidx
        gi_wp2
        have hsV : Stays (fun b => b = W2.heap.size ∨ w.heap.size ≤ b) V wr := HS01.out.trans (HSTL.out.mono fun b _ h => .inl h)
        have hb0 : Below w0.heap.size V wr := hsV.below (by have := HB0.out.size; omega) (fun b hb h => by have := HB0.out.size; rcases h with h | h <;> omega)
        have hcell : ∀ o v, V.cell? ⟨bl, o, none⟩ = some v → wr.cell? ⟨bl, o, none⟩ = some v := fun o v hv => by
          rw [← hv]
          exact World.cell?_of_block (hsV.block bl (by omega) (fun h => by rcases h with h | h <;> omega))
        refine ⟨⟨?_, HL1.out.round hsV⟩, Keeps.of_stays HSTL.out (fun b hb hD => by rcases HL1.out.t b hD with h | h <;> omega), ⟨HL.out.far HN1.out.log hb0, HE.out.far HN1.out.ends hb0, hcell 0 _ HN1.out.q0, hcell 1 _ HN1.out.q1, hcell 2 _ HN1.out.q2, hcell 3 _ HN1.out.q3, HM.out.far HN1.out.marks hb0⟩⟩
        rw [anyOf_succ _ i x HX.out, ← HRR.out]
        exact hrow
end Go.Proofs.YtigofgdmefobaaaDoor.Peel
