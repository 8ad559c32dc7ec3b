/- Package peel: Knotty, Whole, Ask. -/
import Derived.Test.YtigofgdmefobaaaDoorG3
import Derived.Deep.RegionHeld
import Derived.Test.YtigofgdmefobaaaDoorG1
import Derived.Deep.LoopGhost
import Derived.Laws.AppendOwn
/- A region that draws its order, whose last operation (number e) writes what its loads read: behind e nothing need hold any more. -/
set_option linter.unusedVariables false
namespace Go.Proofs.YtigofgdmefobaaaDoor.Peel
open Go.RowKit
section
variable {P : Program} {ops : Array Oper} {Q : Exit → Act → World → Prop} {md : Region.Mode} {S : World → Prop} {e : Nat}
/-- Whatever order is picked, and S holds behind every operation but e. -/
def wpAnyE (P : Program) (md : Region.Mode) (ops : Array Oper) (Q : Exit → Act → World → Prop) (S : World → Prop) (e : Nat) : Nat → Array Bool → Act → World → Prop
  | 0, listed, a, w => Region.ready md ops listed = [] ∧ Q .normal a w
  | fuel + 1, listed, a, w => (Region.ready md ops listed = [] → Q .normal a w) ∧
    ∀ i ∈ Region.ready md ops listed, wpOp P ops Q i (fun a' w' => (i ≠ e → S w') ∧ wpAnyE P md ops Q S e fuel (listed.setIfInBounds i true) a' w') a w
theorem wpAny_of_e : ∀ (fuel : Nat) (listed : Array Bool) (a : Act) (w : World), wpAnyE P md ops Q S e fuel listed a w → wpAny P md ops Q fuel listed a w
  | 0, _, _, _, h => h
  | fuel + 1, _, _, _, h => ⟨h.1, fun i hi => wpOp_mono (fun a' w' h' => wpAny_of_e fuel _ a' w' h'.2) (h.2 i hi)⟩
/-- e waits for i. -/
def waits (md : Region.Mode) (ops : Array Oper) (e i : Nat) : Bool := ((ops[e]?).map fun o => o.after.any fun x => Region.binds md x && x.on == i).getD false
theorem not_ready {i : Nat} {listed : Array Bool} (h : waits md ops e i = true) (hi : listed.getD i true = false) : e ∉ Region.ready md ops listed := by
  intro he
  obtain ⟨_, oe, hoe, hall⟩ := mem_ready.1 he
  unfold waits at h
  rw [hoe] at h
  simp only [Option.map_some, Option.getD_some, Array.any_eq_true, Bool.and_eq_true, beq_iff_eq] at h
  obtain ⟨k, hk, hb, hon⟩ := h
  have h1 := hall _ (Array.getElem_mem hk) hb
  rw [hon] at h1
  rcases Nat.lt_or_ge i listed.size with h' | h'
  · simp [h'] at hi h1; rw [hi] at h1; cases h1
  · simp [Array.getElem?_eq_none h'] at h1
theorem wpAnyE_first {i : Nat} {oi : Oper} {v : Value} (hi : ops[i]? = some oi) (hw : waits md ops e i = true) (hsel : ∀ (j : Nat) (o : Oper) cs b, ops[j]? = some o → o.op ≠ .select cs b)
    (hQ : ∀ c a w, Q (.panic c) (a.put oi.dst v) w → Q (.panic c) a w) :
    ∀ (fuel : Nat) (listed : Array Bool) (a : Act) (w : World),
      (∀ j oj, ops[j]? = some oj → j ≠ i → listed.getD j true = false → (∀ x ∈ oj.after, Region.binds md x = true → x.on ≠ i) → oi.apart ops oj = true) →
      i ∈ Region.ready md ops listed → YieldsIf P ops S oi v a → S w →
      wpAnyE P md ops Q S e fuel (listed.setIfInBounds i true) (a.put oi.dst v) w → wpAnyE P md ops Q S e (fuel + 1) listed a w := by
  intro fuel
  induction fuel with
  | zero =>
    intro listed a w _ hr hy hS H
    refine ⟨fun h => (by rw [h] at hr; cases hr), fun j hj => ?_⟩
    by_cases hji : j = i
    · subst hji; exact hy.wpOp hi hS ⟨fun _ => hS, H⟩
    · have := ready_mono hj hji
      rw [H.1] at this
      cases this
  | succ fuel ih =>
    intro listed a w hfree hr hy hS H
    refine ⟨fun h => (by rw [h] at hr; cases hr), fun j hj => ?_⟩
    by_cases hji : j = i
    · subst hji; exact hy.wpOp hi hS ⟨fun _ => hS, H⟩
    · have hje : j ≠ e := fun h => by subst h; exact not_ready hw (mem_ready.1 hr).1 hj
      have h1 := H.2 j (ready_mono hj hji)
      obtain ⟨hjun, oj, hoj, hall⟩ := mem_ready.1 hj
      have hnot : ∀ x ∈ oj.after, Region.binds md x = true → x.on ≠ i := fun x he hb heq => by
        have h1 := hall x he hb
        have h0 := (mem_ready.1 hr).1
        rw [heq] at h1
        rcases Nat.lt_or_ge i listed.size with h' | h'
        · simp [h'] at h0 h1; rw [h0] at h1; cases h1
        · simp [Array.getElem?_eq_none h'] at h1
      have h2 := wpOp_putIf hoj (hfree j oj hoj hji hjun hnot) (fun cs b => hsel i oi cs b hi) (fun cs b => hsel j oj cs b hoj) hQ hy h1
      have hfree' : ∀ k ok, ops[k]? = some ok → k ≠ i → (listed.setIfInBounds j true).getD k true = false →
          (∀ x ∈ ok.after, Region.binds md x = true → x.on ≠ i) → oi.apart ops ok = true := fun k ok hk hki hun hno => by
        refine hfree k ok hk hki ?_ hno
        by_cases hjk : j = k
        · subst hjk; exact hjun
        · rw [getD_set_ne true hjk] at hun; exact hun
      refine wpOp_mono (fun a' w' h3 => ⟨h3.2.1, ih (listed.setIfInBounds j true) a' w' hfree' (ready_mono hr (Ne.symm hji)) h3.1 (h3.2.1 hje) ?_⟩) h2
      rw [Array.setIfInBounds_comm _ _ hji]
      exact h3.2.2
/-- An operation is taken first: its number, its temporary and its value are told. -/
theorem e_take {fuel : Nat} {listed : Array Bool} {tm : Array Value} {ds : List Deferred} {w : World} (i d : Nat) (v : Value) {oi : Oper} (hi : ops[i]? = some oi) (hd : oi.dst = some d) (hw : waits md ops e i = true)
    (hs : Region.noSelect ops = true) (hf : Region.free md ops listed i = true) (hr : (Region.ready md ops listed).contains i = true)
    (hQ : ∀ c a w, Q (.panic c) (a.put oi.dst v) w → Q (.panic c) a w) (hy : YieldsIf P ops S oi v { tmps := tm, defers := ds }) (hS : S w)
    (h : wpAnyE P md ops Q S e fuel (listed.setIfInBounds i true) { tmps := tm.setIfInBounds d v, defers := ds } w) : wpAnyE P md ops Q S e (fuel + 1) listed { tmps := tm, defers := ds } w := by
  refine wpAnyE_first hi hw (Region.noSelect_spec hs) hQ fuel listed _ w (Region.free_spec hi hf) (by simpa using hr) hy hS ?_
  rw [hd]
  exact h
def AllReadyE (P : Program) (md : Region.Mode) (ops : Array Oper) (Q : Exit → Act → World → Prop) (S : World → Prop) (e : Nat) (fuel : Nat) (listed : Array Bool) (a : Act) (w : World) (rs : List Nat) : Prop :=
  ∀ i ∈ rs, wpOp P ops Q i (fun a' w' => (i ≠ e → S w') ∧ wpAnyE P md ops Q S e fuel (listed.setIfInBounds i true) a' w') a w
theorem AllReadyE.nil {fuel : Nat} {listed : Array Bool} {a : Act} {w : World} : AllReadyE P md ops Q S e fuel listed a w [] := fun _ h => by cases h
theorem AllReadyE.cons {fuel : Nat} {listed : Array Bool} {a : Act} {w : World} {i : Nat} {o : Oper} {rs : List Nat} (ho : ops[i]? = some o)
    (h : ∀ K' : Act → World → Prop, Shut (∀ a w, (i ≠ e → S w) → ((i ≠ e → S w) → wpAnyE P md ops Q S e fuel (listed.setIfInBounds i true) a w) → K' a w) → if Region.wanted o (yielded ops a.tmps) = true then Oper.wp P o a w K' Q else K' (a.put o.dst undef) w)
    (hs : AllReadyE P md ops Q S e fuel listed a w rs) : AllReadyE P md ops Q S e fuel listed a w (i :: rs) := fun j hj => by
  rcases List.mem_cons.1 hj with rfl | hj
  · exact wpOp_step ho (fun K' hK => h K' (fun a w hS hW => hK a w ⟨hS, hW hS⟩))
  · exact hs j hj
theorem wpAnyE_ready {rs : List Nat} {fuel : Nat} {listed : Array Bool} {a : Act} {w : World} (hr : Region.ready md ops listed = rs) (hne : rs ≠ [])
    (h : AllReadyE P md ops Q S e fuel listed a w rs) : wpAnyE P md ops Q S e (fuel + 1) listed a w := ⟨fun h0 => absurd (hr ▸ h0) hne, hr ▸ h⟩
theorem wpAnyE_done {listed : Array Bool} {a : Act} {w : World} (hr : Region.ready md ops listed = []) (h : Q .normal a w) :
    ∀ fuel, wpAnyE P md ops Q S e fuel listed a w
  | 0 => ⟨hr, h⟩
  | _ + 1 => ⟨fun _ => h, by rw [hr]; simp⟩
theorem region_e {id : Nat} {a : Act} {w : World} (hm : P.follows .mixedOrders = true) (hS : S w.drew)
    (h : S w.drew → wpAnyE P .any ops Q S e ops.size (Array.replicate ops.size false) a w.drew) : (Code.region id ops true).wp P Q a w :=
  wp_region_any hm (wpAny_of_e _ _ _ _ (h hS))
theorem region_e_in {l n : Nat} {id : Nat} {a : Act} {w : World} (e : Nat) (S : World → Prop) (hm : P.follows .mixedOrders = true) (hd : ops.all notDefer = true) (hq : ¬ LetsOut Q) (hS : S w.drew)
    (h : S w.drew → wpAnyE P .any ops Q S e ops.size (Array.replicate ops.size false) a w.drew) : (Code.region id ops true).wpIn (Fence.wide.inRound l) n P Q a w :=
  wpIn_region_any hm (wpAny_in hd hq _ _ _ _ (wpAny_of_e _ _ _ _ (h hS)))
end
end Go.Proofs.YtigofgdmefobaaaDoor.Peel

/- Walks of package peel: Knotty, the question that may be asked. -/
set_option linter.unusedVariables false
set_option linter.unusedSimpArgs false
namespace Go.Proofs.YtigofgdmefobaaaDoor.Peel
open Go.RowKit Go.Proofs.YtigofgdmefobaaaDoor.Iter
attribute [local go_sem] Oper.semAt_some
/-- A loop over truths that turns some blocks of its own, from w on. -/
structure LoopsM (m : Nat) (M : Nat → Prop) (w : World) (T : Nat → Prop) (W : World) : Prop where
  t : ∀ b, T b → b = m ∨ w.heap.size ≤ b
  ext : Ext w W
  same : ∀ b, b < w.heap.size → b ≠ m → ¬ M b → W.heap[b]? = w.heap[b]?
theorem LoopsM.abides {m : Nat} {M : Nat → Prop} {w : World} {T T' : Nat → Prop} {W W' : World} (h : LoopsM m M w T W) (hs : Stays T W W') (hT : ∀ b, b < W.heap.size → ¬ T b → ¬ T' b) : LoopsM m M w T' W' := by
  refine ⟨fun b hb => ?_, h.ext.trans hs.ext, fun b hb h1 h2 => (hs.block b (by have := h.ext.size; omega) (fun ht => ?_)).trans (h.same b hb h1 h2)⟩
  · rcases Nat.lt_or_ge b W.heap.size with hlt | hge
    · exact h.t b (Classical.byContradiction fun hn => hT b hlt hn hb)
    · exact .inr (by have := h.ext.size; omega)
  · rcases h.t b ht with h | h <;> omega
theorem LoopsM.obj {m : Nat} {M : Nat → Prop} {w : World} {T : Nat → Prop} {W W' : World} (h : LoopsM m M w T W) (hs : Stays T W W') {b : Nat} (hb : b < w.heap.size) (hm : b ≠ m) {o : Obj} (ho : W.heap[b]? = some o) : W'.heap[b]? = some o :=
  hs.obj ho fun ht => by rcases h.t b ht with h | h <;> omega
theorem LoopsM.round {m : Nat} {M : Nat → Prop} {w : World} {T : Nat → Prop} {W W1 : World} (h : LoopsM m M w T W) (hs : Stays (fun b => M b ∨ w.heap.size ≤ b) W W1) : LoopsM m M w T W1 :=
  ⟨h.t, h.ext.trans hs.ext, fun b hb h1 h2 => (hs.block b (by have := h.ext.size; omega) (fun ht => by rcases ht with h | h; exact h2 h; omega)).trans (h.same b hb h1 h2)⟩
theorem any_succ (rs : List (Nat → Bool)) (i n : Nat) (x : Nat → Bool) (h : rs[i]? = some x) : (rs.take (i + 1)).any (fun r => r n) = ((rs.take i).any (fun r => r n) || x n) := by
  obtain ⟨hi, he⟩ := List.getElem?_eq_some_iff.1 h
  rw [List.take_succ_eq_append_getElem hi, List.any_append, he]
  simp
theorem all_succ (rs : List (Nat → Bool)) (i n : Nat) (x : Nat → Bool) (h : rs[i]? = some x) : (rs.take (i + 1)).all (fun r => r n) = ((rs.take i).all (fun r => r n) && x n) := by
  obtain ⟨hi, he⟩ := List.getElem?_eq_some_iff.1 h
  rw [List.take_succ_eq_append_getElem hi, List.all_append, he]
  simp
set_option maxRecDepth 8000 in
set_option maxHeartbeats 8000000 in
theorem knotty_any {w : World} {l : PL} {A B : Option Addr} {c d : Nat} (h : RawAt w l A B c d) (he : EndsAt w) (X : Int) :
    Calls Tryd.prog 21 #[.agg #[.slice A l.long.length c, .int .i64 l.size, .slice B l.knots.length d], .int .i64 X] w fun e w' => e = .returned (.tuple #[.int .i64 (knottyS l X).1, .int .i64 (knottyS l X).2]) ∧ Below w.heap.size w w' := by
  by_cases hgood : l.Ok ∧ 0 ≤ X ∧ X ≤ l.all - 1
  · obtain ⟨ok, hX⟩ := hgood
    obtain ⟨n, rfl⟩ : ∃ n : Nat, X = n := ⟨X.toNat, by omega⟩
    obtain ⟨a, rfl, hl⟩ := h.at ok
    have hall := all_bd ok
    have b0 : (0 : Int) ≤ (n : Int) := by omega
    have b1 : (n : Int) < 72 := by omega
    have HBD := Lib.hid (And.intro b0 b1)
    have hB := ((Below.refl _ w).alloc (Nat.le_refl _) (.cells #[.slice (some a) l.long.length c, .int .i64 l.size, .slice B l.knots.length d] 25)).alloc (by simp) (.cells #[.int .i64 n] 3)
    have H := Lib.hid (hl.below hB)
    have HE := Lib.hid (he.below hB)
    have rg : ((w.alloc (.cells #[.slice (some a) l.long.length c, .int .i64 l.size, .slice B l.knots.length d] 25)).alloc (.cells #[.int .i64 n] 3)).heap[w.heap.size + 1]? = some (.cells #[.int .i64 n] 3 (0, 0)) := by exact rowt_
    have HR := Lib.hid (knotty_right H.out n (w.heap.size + 1) (cell_row' (i := 0) rg rfl))
    have RG := Lib.hid rg
    have HO := Lib.hid (show knottyS l n = (l.knottyAt (l.truths l.knots none72) n, 0) by unfold knottyS; rw [if_pos ok, if_pos hX]; simp)
    rw [HO.out]
    rw [decide_eq_true hX] at HR
    clear h hl he rg hX hall b0 b1
    refine callsIn_wide.1 (callsIn_of_wp_marks (n := 0) Tryd.func21 rfl trivial ?_)
    simp only [Tryd.ntmps21, List.size_toArray, List.length_cons, List.length_nil, Nat.reduceAdd, Nat.reduceSub, Array.replicate_succ, Array.replicate_zero, List.push_toArray, List.append_toArray, List.nil_append, List.cons_append]
    refine wpIn_wide.2 ?_
    go_wp2_with fail
    refine (asked_yes H.out _ _ HR.out).mono ?_
    rintro e w1 ⟨m, rfl, hb1, hm1, hm2⟩
    have hmw : m < w1.heap.size := (Array.getElem?_eq_some_iff.1 hm1).1
    have hmz : w.heap.size + 2 ≤ m := by simpa using hm2
    have H1 := Lib.hid (H.out.below hb1)
    have HE1 := Lib.hid (HE.out.below hb1)
    have HM1 := Lib.hid (marks_new (l := l) hm1)
    have RG1 := Lib.hid (row_below hb1 RG.out (by simp))
    have zw1 := hb1.size
    simp only [World.size_alloc] at zw1
    have HB1 := Lib.hid (bb hB hb1)
    clear hb1 hm1 hm2 hB
    go_upto_region 5 with (fail)
    obtain ⟨W2, hW2⟩ : ∃ W2, W2 = ((w1.alloc (.cells #[.slice (some a) l.long.length c, .int .i64 l.size, .slice B l.knots.length d, .map (some m)] 75)).alloc (.cells #[.bool false] 4)).alloc (.cells #[.bool true] 4) := ⟨_, rfl⟩
    rw [← hW2]
    have z2 : W2.heap.size = w1.heap.size + 3 := by rw [hW2]; simp
    have hb2 : Below w1.heap.size w1 W2 := by rw [hW2]; exact (((Below.refl _ w1).alloc (Nat.le_refl _) _).alloc (by simp) _).alloc (by simp; omega) _
    have r4 : W2.heap[w1.heap.size]? = some (.cells #[.slice (some a) l.long.length c, .int .i64 l.size, .slice B l.knots.length d, .map (some m)] 75 (0, 0)) := by rw [hW2]; exact rowt_
    have r6 : W2.heap[w1.heap.size + 1]? = some (.cells #[.bool false] 4 (0, 0)) := by rw [hW2]; exact rowt_
    have r7 : W2.heap[w1.heap.size + 1 + 1]? = some (.cells #[.bool true] 4 (0, 0)) := by rw [hW2]; exact rowt_
    clear hW2
    have q0 : W2.cell? ⟨w1.heap.size, 0, none⟩ = some (.slice (some a) l.long.length c) := cell_row' (i := 0) r4 rfl
    have q1 : W2.cell? ⟨w1.heap.size, 1, none⟩ = some (.int .i64 l.size) := cell_row' (i := 1) r4 rfl
    have q2 : W2.cell? ⟨w1.heap.size, 2, none⟩ = some (.slice B l.knots.length d) := cell_row' (i := 2) r4 rfl
    have q3 : W2.cell? ⟨w1.heap.size, 3, none⟩ = some (.map (some m)) := cell_row' (i := 3) r4 rfl
    have H2 := Lib.hid (H1.out.below hb2)
    have HE2 := Lib.hid (HE1.out.below hb2)
    have HM2 := Lib.hid (HM1.out.below hb2)
    have HB2 := Lib.hid (bb HB1.out hb2)
    have R6 := Lib.hid r6
    have R7 := Lib.hid r7
    have RG2 := Lib.hid (row_below hb2 RG1.out (by omega))
    clear hb2 r4 r6 r7
    go_wp2_with fail
    refine (truths_any H2.out HE2.out HM2.out).mono ?_
    rintro e w3 ⟨bl, rfl, hb3, hneed, hbl⟩
    have z3 := hb3.size
    have HN := Lib.hid hneed
    have R6w := Lib.hid (row_below hb3 R6.out (by omega))
    have R7w := Lib.hid (row_below hb3 R7.out (by omega))
    have RGw := Lib.hid (row_below hb3 RG2.out (by omega))
    have HB3 := Lib.hid (bb HB2.out hb3)
    have lbl : bl < w3.heap.size := World.block_lt_of_cell? w3 _ hneed.q0
    have zz := HB1.out.size
    clear hneed hb3 q0 q1 q2 q3
    go_wp2_with fail
    refine (wpIn_wide (n := 0)).1 ?_
    refine range_law (gf := 87) (lb := #[.pointer (some ⟨bl, 0, none⟩)]) rfl (enters_of Tryd.func87 (by kernel_rfl) rfl)
      (truths_yields l a B c d m bl) (fun _ => rfl) (fun i T W => W.heap[w1.heap.size + 1]? = some (.cells #[.bool (((l.truths l.knots none72).take i).any fun r => r n)] 4 (0, 0)) ∧ W.heap[w1.heap.size + 1 + 1]? = some (.cells #[.bool (((l.truths l.knots none72).take i).all fun r => r n)] 4 (0, 0)) ∧ LoopsM m (fun b => b = w1.heap.size + 1 ∨ b = w1.heap.size + 1 + 1) w3 T W)
      ?hI (fun b h => by subst h; omega) HN.out (fun V V' hV hsz hs => HN.out.far hV (hs.below hsz (fun b hb h => by omega))) (fun V hV => ⟨?h0a, ?h0b, ?h0c⟩) ?hround ?hdone
    case hI =>
      rintro i T T' V V' ⟨hr, hr2, hl⟩ hs hT
      exact ⟨hl.obj hs (by omega) (by omega) hr, hl.obj hs (by omega) (by omega) hr2, hl.abides hs hT⟩
    case h0a => exact row_below hV R6w.out (by omega)
    case h0b => exact row_below hV R7w.out (by omega)
    case h0c => exact ⟨fun b h => by rcases h with h | h | h; exact .inl h; exact .inr (by omega); exact .inr (by omega), Ext.below hV, fun b hb _ _ => hV.block b hb⟩
    case hdone =>
      rintro D V ⟨hr, hr2, hl⟩ hneed hDa hDb hK
      rw [List.take_length] at hr hr2
      have zV := hl.ext.size
      have HL2 := Lib.hid hl
      have HK := Lib.hid hK
      have hwV : w3.heap.size < V.heap.size := (Array.getElem?_eq_some_iff.1 hK).1
      have hb0 : Below w.heap.size V (V.putObj w3.heap.size (.deferred none)) := ⟨rfl, rfl, rfl, by simp [World.putObj], fun b hb => World.putObj_heap_other (by have := HB3.out.size; omega)⟩
      have HEND := Lib.hid (HB3.out.trans (Below.trans ⟨HL2.out.ext.os, HL2.out.ext.tape, HL2.out.ext.output, HL2.out.ext.size, fun b hb => HL2.out.same b (by have := HB3.out.size; omega) (by omega) (by omega)⟩ hb0))
      obtain ⟨S1, hS1⟩ : ∃ S1, S1 = (l.truths l.knots none72).any fun r => r n := ⟨_, rfl⟩
      obtain ⟨S2, hS2⟩ : ∃ S2, S2 = (l.truths l.knots none72).all fun r => r n := ⟨_, rfl⟩
      rw [← hS1] at hr
      rw [← hS2] at hr2
      have HV := Lib.hid (show l.knottyAt (l.truths l.knots none72) n = if S2 = true then 2 else if S1 = true then 1 else 0 by rw [hS1, hS2]; rfl)

      have x0 : V.cell? ⟨w1.heap.size + 1, 0, none⟩ = some (.bool S1) := cell_row' hr rfl
      have x1 : V.cell? ⟨w1.heap.size + 1 + 1, 0, none⟩ = some (.bool S2) := cell_row' hr2 rfl
      clear hl hneed hK hr hr2 hS1 hS2 hb0
      gi_wp2
      cases S2
      · cases S1
        · go_wp2_with fail
          refine ⟨by simp, .inl ⟨_, _, rfl, run_takeDeferred HK.out, ?_⟩⟩
          exact ⟨.tuple #[.int .i64 0, .int .i64 0], (by simp [results, Tryd.results21, go_sem]), by rw [HV.out]; rfl, HEND.out⟩
        · go_wp2_with fail
          refine ⟨by simp, .inl ⟨_, _, rfl, run_takeDeferred HK.out, ?_⟩⟩
          exact ⟨.tuple #[.int .i64 1, .int .i64 0], (by simp [results, Tryd.results21, go_sem]), by rw [HV.out]; rfl, HEND.out⟩
      · go_wp2_with fail
        refine ⟨by simp, .inl ⟨_, _, rfl, run_takeDeferred HK.out, ?_⟩⟩
        exact ⟨.tuple #[.int .i64 2, .int .i64 0], (by simp [results, Tryd.results21, go_sem]), by rw [HV.out]; rfl, HEND.out⟩
    case hround =>
      rintro i x D V hx hVsz ⟨hr, hr2, hl⟩ hneed hDa hDb hDbd
      dsimp only [ribV]
      rw [put_one]
      simp only [List.setIfInBounds_toArray, List.set_cons_succ, List.set_cons_zero]
      gi_wp2_with (first | ((with_reducible refine gate_alloc_in 86 rfl ?_); refine ev_alloc_rib_in rfl rfl ?_) | ((with_reducible refine gate_store_in 86 rfl ?_); refine ev_store_rib_in rfl rfl _ _ rfl _ rfl none72 x rfl (by exact rowt_) ?_))
      obtain ⟨V0, hV0⟩ : ∃ V0, V0 = (V.alloc (.cells (rv none72) 86)).setRow V.heap.size (rv x) := ⟨_, rfl⟩
      have hV1 : Below V.heap.size V V0 := by rw [hV0]; exact ((Below.refl _ V).alloc (Nat.le_refl _) _).trans ((only_setRow _ _ _).below (Nat.le_refl _))
      have k4 : V0.heap[V.heap.size]? = some (.cells (rv x) 86 (0, 0)) := by rw [hV0]; exact rowt_
      have zV0 : V0.heap.size = V.heap.size + 1 := by rw [hV0]; simp
      rw [← hV0]
      clear hV0
      refine ⟨hV1, fun V1 hst1 => ?_⟩
      have k7 := hst1.obj k4 (by omega)
      have hs01 : Stays (fun b => (b = w1.heap.size + 1 ∨ b = w1.heap.size + 1 + 1) ∨ w3.heap.size ≤ b) V V1 := (Stays.of_below hV1).trans (hst1.mono fun b _ h => .inr (by omega))
      obtain ⟨S1, hS1⟩ : ∃ S1, S1 = ((l.truths l.knots none72).take i).any fun r => r n := ⟨_, rfl⟩
      obtain ⟨S2, hS2⟩ : ∃ S2, S2 = ((l.truths l.knots none72).take i).all fun r => r n := ⟨_, rfl⟩
      rw [← hS1] at hr
      rw [← hS2] at hr2
      have k6 : V1.heap[w1.heap.size + 1]? = some (.cells #[.bool S1] 4 (0, 0)) := hst1.obj (row_below hV1 hr (by have := hl.ext.size; omega)) (by omega)
      have k9 : V1.heap[w1.heap.size + 1 + 1]? = some (.cells #[.bool S2] 4 (0, 0)) := hst1.obj (row_below hV1 hr2 (by have := hl.ext.size; omega)) (by omega)
      have kg : V1.heap[w.heap.size + 1]? = some (.cells #[.int .i64 n] 3 (0, 0)) := (hs01.block _ (by have := hl.ext.size; omega) (fun h => by rcases h with h | h <;> omega)).trans ((hl.same _ (by omega) (by omega) (by omega)).trans RGw.out)
      have cg : V1.cell? ⟨w.heap.size + 1, 0, none⟩ = some (.int .i64 n) := cell_row' kg rfl
      have e1 : V1.cell? ⟨V.heap.size, n, none⟩ = some (.bool (x n)) := cell_row' k7 (rv_get x n (by have := HBD.out; omega))
      have hfin : ∀ (s1 s2 : Bool), s1 = (S1 || x n) → s2 = (S2 && x n) → ((((V1.drew.setCell ⟨w1.heap.size + 1, 0, none⟩ (.bool s1)).setCell ⟨w1.heap.size + 1 + 1, 0, none⟩ (.bool s2))).heap[w1.heap.size + 1]? = some (.cells #[.bool (((l.truths l.knots none72).take (i + 1)).any fun r => r n)] 4 (0, 0)) ∧ (((V1.drew.setCell ⟨w1.heap.size + 1, 0, none⟩ (.bool s1)).setCell ⟨w1.heap.size + 1 + 1, 0, none⟩ (.bool s2))).heap[w1.heap.size + 1 + 1]? = some (.cells #[.bool (((l.truths l.knots none72).take (i + 1)).all fun r => r n)] 4 (0, 0)) ∧ LoopsM m (fun b => b = w1.heap.size + 1 ∨ b = w1.heap.size + 1 + 1) w3 D (((V1.drew.setCell ⟨w1.heap.size + 1, 0, none⟩ (.bool s1)).setCell ⟨w1.heap.size + 1 + 1, 0, none⟩ (.bool s2)))) ∧ Keeps D V1 (((V1.drew.setCell ⟨w1.heap.size + 1, 0, none⟩ (.bool s1)).setCell ⟨w1.heap.size + 1 + 1, 0, none⟩ (.bool s2))) ∧ TruthsNeed l a B c d m bl (((V1.drew.setCell ⟨w1.heap.size + 1, 0, none⟩ (.bool s1)).setCell ⟨w1.heap.size + 1 + 1, 0, none⟩ (.bool s2))) := by
        rintro s1 s2 rfl rfl
        have hs : Stays (fun b => b = w1.heap.size + 1 ∨ b = w1.heap.size + 1 + 1) V1 (((V1.drew.setCell ⟨w1.heap.size + 1, 0, none⟩ (.bool (S1 || x n))).setCell ⟨w1.heap.size + 1 + 1, 0, none⟩ (.bool (S2 && x n)))) := (Stays.of_below ((Below.refl _ V1).drew)).trans ((stays_setCell _ _ _ (.inl rfl)).trans (stays_setCell _ _ _ (.inr rfl)))
        have hsV : Stays (fun b => (b = w1.heap.size + 1 ∨ b = w1.heap.size + 1 + 1) ∨ w3.heap.size ≤ b) V (((V1.drew.setCell ⟨w1.heap.size + 1, 0, none⟩ (.bool (S1 || x n))).setCell ⟨w1.heap.size + 1 + 1, 0, none⟩ (.bool (S2 && x n)))) := hs01.trans (hs.mono fun b _ h => .inl h)
        have hb0 : Below w1.heap.size V (((V1.drew.setCell ⟨w1.heap.size + 1, 0, none⟩ (.bool (S1 || x n))).setCell ⟨w1.heap.size + 1 + 1, 0, none⟩ (.bool (S2 && x n)))) := hsV.below (by have := hl.ext.size; omega) (fun b hb h => by rcases h with h | h <;> omega)
        have hcell : ∀ o' v, V.cell? ⟨bl, o', none⟩ = some v → (((V1.drew.setCell ⟨w1.heap.size + 1, 0, none⟩ (.bool (S1 || x n))).setCell ⟨w1.heap.size + 1 + 1, 0, none⟩ (.bool (S2 && x n)))).cell? ⟨bl, o', none⟩ = some v := fun o' v hv => by
          rw [← hv]
          exact World.cell?_of_block (hsV.block bl (by have := hl.ext.size; omega) (fun h => by rcases h with h | h <;> omega))
        refine ⟨⟨?_, ?_, hl.round hsV⟩, Keeps.of_stays hs (fun b hb hD => by rcases hl.t b hD with h | h <;> omega), ⟨H1.out.far hneed.log hb0, HE1.out.far hneed.ends hb0, hcell 0 _ hneed.q0, hcell 1 _ hneed.q1, hcell 2 _ hneed.q2, hcell 3 _ hneed.q3, HM1.out.far hneed.marks hb0⟩⟩
        · rw [any_succ _ i n x hx, ← hS1, heap_put (by dsimp only; omega), blk_set (row_drew k6) 0 _]
          rfl
        · rw [all_succ _ i n x hx, ← hS2, blk_set (by rw [heap_put (by dsimp only; omega)]; exact row_drew k9) 0 _]
          rfl
      have HFIN := Lib.hid hfin
      have c6 : V1.drew.cell? ⟨w1.heap.size + 1, 0, none⟩ = some (.bool S1) := cell_row' (row_drew k6) rfl
      have f6 : V1.drew.frozen? ⟨w1.heap.size + 1, 0, none⟩ = false := frozen_of_row _ _ 0 _ _ (row_drew k6)
      have c9 : ∀ v, (V1.drew.setCell ⟨w1.heap.size + 1, 0, none⟩ v).cell? ⟨w1.heap.size + 1 + 1, 0, none⟩ = some (.bool S2) := fun v => cell_row' (by rw [heap_put (by dsimp only; omega)]; exact row_drew k9) rfl
      have f9 : ∀ v, (V1.drew.setCell ⟨w1.heap.size + 1, 0, none⟩ v).frozen? ⟨w1.heap.size + 1 + 1, 0, none⟩ = false := fun v => frozen_of_row _ _ 0 _ _ (by rw [heap_put (by dsimp only; omega)]; exact row_drew k9)
      have f9o : V1.frozen? ⟨w1.heap.size + 1 + 1, 0, none⟩ = false := frozen_of_row _ _ 0 _ _ k9
      have c9' : V1.cell? ⟨w1.heap.size + 1 + 1, 0, none⟩ = some (.bool S2) := cell_row' k9 rfl
      have zz2 : w3.heap.size ≤ V.heap.size := hl.ext.size
      have zzg : w.heap.size + 1 < w1.heap.size := by omega
      have zzv : w1.heap.size + 1 + 1 < V.heap.size := by omega
      obtain ⟨b0, b1⟩ := HBD.out
      clear hfin hr hr2 hl hneed hS1 hS2 k6 k9 kg k4 k7 hV1 hs01 hst1
      try simp only [Act.put, List.setIfInBounds_toArray, List.set_cons_succ, List.set_cons_zero]
      refine wpIn_block ?_
      refine region_e_in 13 (fun w' => w'.cell? ⟨w.heap.size + 1, 0, none⟩ = some (.int .i64 n) ∧ w'.cell? ⟨V.heap.size, n, none⟩ = some (.bool (x n)) ∧ w'.cell? ⟨w1.heap.size + 1 + 1, 0, none⟩ = some (.bool S2)) (by kernel_rfl) (by kernel_rfl) (by rintro ⟨a, w, h⟩; exact h) ⟨cg, e1, c9'⟩ (fun hHeld => ?_)
      clear cg e1 c9'
      cases S2
      · refine e_take 6 29 (.bool false) rfl rfl (by kernel_rfl) (by kernel_rfl) (by kernel_rfl) (by kernel_rfl) (fun _ _ _ h => h) (Or.inl ⟨by rfl, fun w hw => by dsimp only at hw; obtain ⟨h0, h1, h2⟩ := hw; go_simp⟩) hHeld ?_
        simp only [List.setIfInBounds_toArray, List.set_cons_zero, List.set_cons_succ]
        refine wpAnyE_ready (rs := [0]) (by kernel_rfl) (by simp) ?_
        refine AllReadyE.cons rfl (fun K hK => ?_) AllReadyE.nil
        go_simp
        refine hK.out _ _ (fun _ => hHeld) (fun _ => ?_)
        clear hK
        try simp only [Act.put, List.setIfInBounds_toArray, List.set_cons_zero, List.set_cons_succ]
        cases S1
        · refine e_take 1 24 (.bool false) rfl rfl (by kernel_rfl) (by kernel_rfl) (by kernel_rfl) (by kernel_rfl) (fun _ _ _ h => h) (Or.inl ⟨by rfl, fun w hw => by dsimp only at hw; obtain ⟨h0, h1, h2⟩ := hw; go_simp⟩) hHeld ?_
          simp only [List.setIfInBounds_toArray, List.set_cons_zero, List.set_cons_succ]
          refine e_take 2 25 (.int .i64 n) rfl rfl (by kernel_rfl) (by kernel_rfl) (by kernel_rfl) (by kernel_rfl) (fun _ _ _ h => h) (Or.inl ⟨by rfl, fun w hw => by dsimp only at hw; obtain ⟨h0, h1, h2⟩ := hw; go_simp⟩) hHeld ?_
          simp only [List.setIfInBounds_toArray, List.set_cons_zero, List.set_cons_succ]
          refine e_take 3 26 (.pointer (some ⟨V.heap.size, n, none⟩)) rfl rfl (by kernel_rfl) (by kernel_rfl) (by kernel_rfl) (by kernel_rfl) (fun _ _ _ h => h) (Or.inl ⟨by rfl, fun w hw => by dsimp only at hw; obtain ⟨h0, h1, h2⟩ := hw; go_simp⟩) hHeld ?_
          simp only [List.setIfInBounds_toArray, List.set_cons_zero, List.set_cons_succ]
          refine e_take 4 27 (.bool (x n)) rfl rfl (by kernel_rfl) (by kernel_rfl) (by kernel_rfl) (by kernel_rfl) (fun _ _ _ h => h) (Or.inl ⟨by rfl, fun w hw => by dsimp only at hw; obtain ⟨h0, h1, h2⟩ := hw; go_simp⟩) hHeld ?_
          simp only [List.setIfInBounds_toArray, List.set_cons_zero, List.set_cons_succ]
          refine e_take 5 28 (.bool (x n)) rfl rfl (by kernel_rfl) (by kernel_rfl) (by kernel_rfl) (by kernel_rfl) (fun _ _ _ h => h) (Or.inl ⟨by rfl, fun w hw => by dsimp only at hw; obtain ⟨h0, h1, h2⟩ := hw; go_simp⟩) hHeld ?_
          simp only [List.setIfInBounds_toArray, List.set_cons_zero, List.set_cons_succ]
          refine e_take 7 30 (.bool false) rfl rfl (by kernel_rfl) (by kernel_rfl) (by kernel_rfl) (by kernel_rfl) (fun _ _ _ h => h) (Or.inl ⟨by rfl, fun w hw => by dsimp only at hw; obtain ⟨h0, h1, h2⟩ := hw; go_simp⟩) hHeld ?_
          simp only [List.setIfInBounds_toArray, List.set_cons_zero, List.set_cons_succ]
          refine e_take 8 31 (undef) rfl rfl (by kernel_rfl) (by kernel_rfl) (by kernel_rfl) (by kernel_rfl) (fun _ _ _ h => h) (Or.inr ⟨by rfl, rfl⟩) hHeld ?_
          simp only [List.setIfInBounds_toArray, List.set_cons_zero, List.set_cons_succ]
          refine e_take 9 32 (undef) rfl rfl (by kernel_rfl) (by kernel_rfl) (by kernel_rfl) (by kernel_rfl) (fun _ _ _ h => h) (Or.inr ⟨by rfl, rfl⟩) hHeld ?_
          simp only [List.setIfInBounds_toArray, List.set_cons_zero, List.set_cons_succ]
          refine e_take 10 33 (undef) rfl rfl (by kernel_rfl) (by kernel_rfl) (by kernel_rfl) (by kernel_rfl) (fun _ _ _ h => h) (Or.inr ⟨by rfl, rfl⟩) hHeld ?_
          simp only [List.setIfInBounds_toArray, List.set_cons_zero, List.set_cons_succ]
          refine e_take 11 34 (.bool false) rfl rfl (by kernel_rfl) (by kernel_rfl) (by kernel_rfl) (by kernel_rfl) (fun _ _ _ h => h) (Or.inl ⟨by rfl, fun w hw => by dsimp only at hw; obtain ⟨h0, h1, h2⟩ := hw; go_simp⟩) hHeld ?_
          simp only [List.setIfInBounds_toArray, List.set_cons_zero, List.set_cons_succ]
          refine wpAnyE_ready (rs := [12]) (by kernel_rfl) (by simp) ?_
          refine AllReadyE.cons rfl (fun K hK => ?_) AllReadyE.nil
          go_simp
          refine hK.out _ _ (fun _ => ⟨cset_blk hHeld.1 (by (try dsimp only); omega), cset_blk hHeld.2.1 (by (try dsimp only); omega), cset_blk hHeld.2.2 (by (try dsimp only); omega)⟩) (fun _ => ?_)
          clear hK
          try simp only [Act.put, List.setIfInBounds_toArray, List.set_cons_zero, List.set_cons_succ]
          have c9v := c9 (.bool (x n))
          have f9v := f9 (.bool (x n))
          refine wpAnyE_ready (rs := [13]) (by kernel_rfl) (by simp) ?_
          refine AllReadyE.cons rfl (fun K hK => ?_) AllReadyE.nil
          go_simp
          refine hK.out _ _ (fun h => absurd rfl h) (fun _ => ?_)
          clear hK
          try simp only [Act.put, List.setIfInBounds_toArray, List.set_cons_zero, List.set_cons_succ]
          refine wpAnyE_done (by kernel_rfl) ?_ _
          exact HFIN.out (x n) false (by simp) (by simp)
        · refine e_take 1 24 (.bool true) rfl rfl (by kernel_rfl) (by kernel_rfl) (by kernel_rfl) (by kernel_rfl) (fun _ _ _ h => h) (Or.inl ⟨by rfl, fun w hw => by dsimp only at hw; obtain ⟨h0, h1, h2⟩ := hw; go_simp⟩) hHeld ?_
          simp only [List.setIfInBounds_toArray, List.set_cons_zero, List.set_cons_succ]
          refine e_take 2 25 (undef) rfl rfl (by kernel_rfl) (by kernel_rfl) (by kernel_rfl) (by kernel_rfl) (fun _ _ _ h => h) (Or.inr ⟨by rfl, rfl⟩) hHeld ?_
          simp only [List.setIfInBounds_toArray, List.set_cons_zero, List.set_cons_succ]
          refine e_take 3 26 (undef) rfl rfl (by kernel_rfl) (by kernel_rfl) (by kernel_rfl) (by kernel_rfl) (fun _ _ _ h => h) (Or.inr ⟨by rfl, rfl⟩) hHeld ?_
          simp only [List.setIfInBounds_toArray, List.set_cons_zero, List.set_cons_succ]
          refine e_take 4 27 (undef) rfl rfl (by kernel_rfl) (by kernel_rfl) (by kernel_rfl) (by kernel_rfl) (fun _ _ _ h => h) (Or.inr ⟨by rfl, rfl⟩) hHeld ?_
          simp only [List.setIfInBounds_toArray, List.set_cons_zero, List.set_cons_succ]
          refine e_take 5 28 (.bool true) rfl rfl (by kernel_rfl) (by kernel_rfl) (by kernel_rfl) (by kernel_rfl) (fun _ _ _ h => h) (Or.inl ⟨by rfl, fun w hw => by dsimp only at hw; obtain ⟨h0, h1, h2⟩ := hw; go_simp⟩) hHeld ?_
          simp only [List.setIfInBounds_toArray, List.set_cons_zero, List.set_cons_succ]
          refine e_take 7 30 (.bool false) rfl rfl (by kernel_rfl) (by kernel_rfl) (by kernel_rfl) (by kernel_rfl) (fun _ _ _ h => h) (Or.inl ⟨by rfl, fun w hw => by dsimp only at hw; obtain ⟨h0, h1, h2⟩ := hw; go_simp⟩) hHeld ?_
          simp only [List.setIfInBounds_toArray, List.set_cons_zero, List.set_cons_succ]
          refine e_take 8 31 (undef) rfl rfl (by kernel_rfl) (by kernel_rfl) (by kernel_rfl) (by kernel_rfl) (fun _ _ _ h => h) (Or.inr ⟨by rfl, rfl⟩) hHeld ?_
          simp only [List.setIfInBounds_toArray, List.set_cons_zero, List.set_cons_succ]
          refine e_take 9 32 (undef) rfl rfl (by kernel_rfl) (by kernel_rfl) (by kernel_rfl) (by kernel_rfl) (fun _ _ _ h => h) (Or.inr ⟨by rfl, rfl⟩) hHeld ?_
          simp only [List.setIfInBounds_toArray, List.set_cons_zero, List.set_cons_succ]
          refine e_take 10 33 (undef) rfl rfl (by kernel_rfl) (by kernel_rfl) (by kernel_rfl) (by kernel_rfl) (fun _ _ _ h => h) (Or.inr ⟨by rfl, rfl⟩) hHeld ?_
          simp only [List.setIfInBounds_toArray, List.set_cons_zero, List.set_cons_succ]
          refine e_take 11 34 (.bool false) rfl rfl (by kernel_rfl) (by kernel_rfl) (by kernel_rfl) (by kernel_rfl) (fun _ _ _ h => h) (Or.inl ⟨by rfl, fun w hw => by dsimp only at hw; obtain ⟨h0, h1, h2⟩ := hw; go_simp⟩) hHeld ?_
          simp only [List.setIfInBounds_toArray, List.set_cons_zero, List.set_cons_succ]
          refine wpAnyE_ready (rs := [12]) (by kernel_rfl) (by simp) ?_
          refine AllReadyE.cons rfl (fun K hK => ?_) AllReadyE.nil
          go_simp
          refine hK.out _ _ (fun _ => ⟨cset_blk hHeld.1 (by (try dsimp only); omega), cset_blk hHeld.2.1 (by (try dsimp only); omega), cset_blk hHeld.2.2 (by (try dsimp only); omega)⟩) (fun _ => ?_)
          clear hK
          try simp only [Act.put, List.setIfInBounds_toArray, List.set_cons_zero, List.set_cons_succ]
          have c9v := c9 (.bool true)
          have f9v := f9 (.bool true)
          refine wpAnyE_ready (rs := [13]) (by kernel_rfl) (by simp) ?_
          refine AllReadyE.cons rfl (fun K hK => ?_) AllReadyE.nil
          go_simp
          refine hK.out _ _ (fun h => absurd rfl h) (fun _ => ?_)
          clear hK
          try simp only [Act.put, List.setIfInBounds_toArray, List.set_cons_zero, List.set_cons_succ]
          refine wpAnyE_done (by kernel_rfl) ?_ _
          exact HFIN.out true false (by simp) (by simp)
      · refine e_take 6 29 (.bool true) rfl rfl (by kernel_rfl) (by kernel_rfl) (by kernel_rfl) (by kernel_rfl) (fun _ _ _ h => h) (Or.inl ⟨by rfl, fun w hw => by dsimp only at hw; obtain ⟨h0, h1, h2⟩ := hw; go_simp⟩) hHeld ?_
        simp only [List.setIfInBounds_toArray, List.set_cons_zero, List.set_cons_succ]
        refine wpAnyE_ready (rs := [0]) (by kernel_rfl) (by simp) ?_
        refine AllReadyE.cons rfl (fun K hK => ?_) AllReadyE.nil
        go_simp
        refine hK.out _ _ (fun _ => hHeld) (fun _ => ?_)
        clear hK
        try simp only [Act.put, List.setIfInBounds_toArray, List.set_cons_zero, List.set_cons_succ]
        cases S1
        · refine e_take 1 24 (.bool false) rfl rfl (by kernel_rfl) (by kernel_rfl) (by kernel_rfl) (by kernel_rfl) (fun _ _ _ h => h) (Or.inl ⟨by rfl, fun w hw => by dsimp only at hw; obtain ⟨h0, h1, h2⟩ := hw; go_simp⟩) hHeld ?_
          simp only [List.setIfInBounds_toArray, List.set_cons_zero, List.set_cons_succ]
          refine e_take 2 25 (.int .i64 n) rfl rfl (by kernel_rfl) (by kernel_rfl) (by kernel_rfl) (by kernel_rfl) (fun _ _ _ h => h) (Or.inl ⟨by rfl, fun w hw => by dsimp only at hw; obtain ⟨h0, h1, h2⟩ := hw; go_simp⟩) hHeld ?_
          simp only [List.setIfInBounds_toArray, List.set_cons_zero, List.set_cons_succ]
          refine e_take 3 26 (.pointer (some ⟨V.heap.size, n, none⟩)) rfl rfl (by kernel_rfl) (by kernel_rfl) (by kernel_rfl) (by kernel_rfl) (fun _ _ _ h => h) (Or.inl ⟨by rfl, fun w hw => by dsimp only at hw; obtain ⟨h0, h1, h2⟩ := hw; go_simp⟩) hHeld ?_
          simp only [List.setIfInBounds_toArray, List.set_cons_zero, List.set_cons_succ]
          refine e_take 4 27 (.bool (x n)) rfl rfl (by kernel_rfl) (by kernel_rfl) (by kernel_rfl) (by kernel_rfl) (fun _ _ _ h => h) (Or.inl ⟨by rfl, fun w hw => by dsimp only at hw; obtain ⟨h0, h1, h2⟩ := hw; go_simp⟩) hHeld ?_
          simp only [List.setIfInBounds_toArray, List.set_cons_zero, List.set_cons_succ]
          refine e_take 5 28 (.bool (x n)) rfl rfl (by kernel_rfl) (by kernel_rfl) (by kernel_rfl) (by kernel_rfl) (fun _ _ _ h => h) (Or.inl ⟨by rfl, fun w hw => by dsimp only at hw; obtain ⟨h0, h1, h2⟩ := hw; go_simp⟩) hHeld ?_
          simp only [List.setIfInBounds_toArray, List.set_cons_zero, List.set_cons_succ]
          refine e_take 7 30 (.bool true) rfl rfl (by kernel_rfl) (by kernel_rfl) (by kernel_rfl) (by kernel_rfl) (fun _ _ _ h => h) (Or.inl ⟨by rfl, fun w hw => by dsimp only at hw; obtain ⟨h0, h1, h2⟩ := hw; go_simp⟩) hHeld ?_
          simp only [List.setIfInBounds_toArray, List.set_cons_zero, List.set_cons_succ]
          refine e_take 8 31 (.int .i64 n) rfl rfl (by kernel_rfl) (by kernel_rfl) (by kernel_rfl) (by kernel_rfl) (fun _ _ _ h => h) (Or.inl ⟨by rfl, fun w hw => by dsimp only at hw; obtain ⟨h0, h1, h2⟩ := hw; go_simp⟩) hHeld ?_
          simp only [List.setIfInBounds_toArray, List.set_cons_zero, List.set_cons_succ]
          refine e_take 9 32 (.pointer (some ⟨V.heap.size, n, none⟩)) rfl rfl (by kernel_rfl) (by kernel_rfl) (by kernel_rfl) (by kernel_rfl) (fun _ _ _ h => h) (Or.inl ⟨by rfl, fun w hw => by dsimp only at hw; obtain ⟨h0, h1, h2⟩ := hw; go_simp⟩) hHeld ?_
          simp only [List.setIfInBounds_toArray, List.set_cons_zero, List.set_cons_succ]
          refine e_take 10 33 (.bool (x n)) rfl rfl (by kernel_rfl) (by kernel_rfl) (by kernel_rfl) (by kernel_rfl) (fun _ _ _ h => h) (Or.inl ⟨by rfl, fun w hw => by dsimp only at hw; obtain ⟨h0, h1, h2⟩ := hw; go_simp⟩) hHeld ?_
          simp only [List.setIfInBounds_toArray, List.set_cons_zero, List.set_cons_succ]
          refine e_take 11 34 (.bool (x n)) rfl rfl (by kernel_rfl) (by kernel_rfl) (by kernel_rfl) (by kernel_rfl) (fun _ _ _ h => h) (Or.inl ⟨by rfl, fun w hw => by dsimp only at hw; obtain ⟨h0, h1, h2⟩ := hw; go_simp⟩) hHeld ?_
          simp only [List.setIfInBounds_toArray, List.set_cons_zero, List.set_cons_succ]
          refine wpAnyE_ready (rs := [12]) (by kernel_rfl) (by simp) ?_
          refine AllReadyE.cons rfl (fun K hK => ?_) AllReadyE.nil
          go_simp
          refine hK.out _ _ (fun _ => ⟨cset_blk hHeld.1 (by (try dsimp only); omega), cset_blk hHeld.2.1 (by (try dsimp only); omega), cset_blk hHeld.2.2 (by (try dsimp only); omega)⟩) (fun _ => ?_)
          clear hK
          try simp only [Act.put, List.setIfInBounds_toArray, List.set_cons_zero, List.set_cons_succ]
          have c9v := c9 (.bool (x n))
          have f9v := f9 (.bool (x n))
          refine wpAnyE_ready (rs := [13]) (by kernel_rfl) (by simp) ?_
          refine AllReadyE.cons rfl (fun K hK => ?_) AllReadyE.nil
          go_simp
          refine hK.out _ _ (fun h => absurd rfl h) (fun _ => ?_)
          clear hK
          try simp only [Act.put, List.setIfInBounds_toArray, List.set_cons_zero, List.set_cons_succ]
          refine wpAnyE_done (by kernel_rfl) ?_ _
          exact HFIN.out (x n) (x n) (by simp) (by simp)
        · refine e_take 1 24 (.bool true) rfl rfl (by kernel_rfl) (by kernel_rfl) (by kernel_rfl) (by kernel_rfl) (fun _ _ _ h => h) (Or.inl ⟨by rfl, fun w hw => by dsimp only at hw; obtain ⟨h0, h1, h2⟩ := hw; go_simp⟩) hHeld ?_
          simp only [List.setIfInBounds_toArray, List.set_cons_zero, List.set_cons_succ]
          refine e_take 2 25 (undef) rfl rfl (by kernel_rfl) (by kernel_rfl) (by kernel_rfl) (by kernel_rfl) (fun _ _ _ h => h) (Or.inr ⟨by rfl, rfl⟩) hHeld ?_
          simp only [List.setIfInBounds_toArray, List.set_cons_zero, List.set_cons_succ]
          refine e_take 3 26 (undef) rfl rfl (by kernel_rfl) (by kernel_rfl) (by kernel_rfl) (by kernel_rfl) (fun _ _ _ h => h) (Or.inr ⟨by rfl, rfl⟩) hHeld ?_
          simp only [List.setIfInBounds_toArray, List.set_cons_zero, List.set_cons_succ]
          refine e_take 4 27 (undef) rfl rfl (by kernel_rfl) (by kernel_rfl) (by kernel_rfl) (by kernel_rfl) (fun _ _ _ h => h) (Or.inr ⟨by rfl, rfl⟩) hHeld ?_
          simp only [List.setIfInBounds_toArray, List.set_cons_zero, List.set_cons_succ]
          refine e_take 5 28 (.bool true) rfl rfl (by kernel_rfl) (by kernel_rfl) (by kernel_rfl) (by kernel_rfl) (fun _ _ _ h => h) (Or.inl ⟨by rfl, fun w hw => by dsimp only at hw; obtain ⟨h0, h1, h2⟩ := hw; go_simp⟩) hHeld ?_
          simp only [List.setIfInBounds_toArray, List.set_cons_zero, List.set_cons_succ]
          refine e_take 7 30 (.bool true) rfl rfl (by kernel_rfl) (by kernel_rfl) (by kernel_rfl) (by kernel_rfl) (fun _ _ _ h => h) (Or.inl ⟨by rfl, fun w hw => by dsimp only at hw; obtain ⟨h0, h1, h2⟩ := hw; go_simp⟩) hHeld ?_
          simp only [List.setIfInBounds_toArray, List.set_cons_zero, List.set_cons_succ]
          refine e_take 8 31 (.int .i64 n) rfl rfl (by kernel_rfl) (by kernel_rfl) (by kernel_rfl) (by kernel_rfl) (fun _ _ _ h => h) (Or.inl ⟨by rfl, fun w hw => by dsimp only at hw; obtain ⟨h0, h1, h2⟩ := hw; go_simp⟩) hHeld ?_
          simp only [List.setIfInBounds_toArray, List.set_cons_zero, List.set_cons_succ]
          refine e_take 9 32 (.pointer (some ⟨V.heap.size, n, none⟩)) rfl rfl (by kernel_rfl) (by kernel_rfl) (by kernel_rfl) (by kernel_rfl) (fun _ _ _ h => h) (Or.inl ⟨by rfl, fun w hw => by dsimp only at hw; obtain ⟨h0, h1, h2⟩ := hw; go_simp⟩) hHeld ?_
          simp only [List.setIfInBounds_toArray, List.set_cons_zero, List.set_cons_succ]
          refine e_take 10 33 (.bool (x n)) rfl rfl (by kernel_rfl) (by kernel_rfl) (by kernel_rfl) (by kernel_rfl) (fun _ _ _ h => h) (Or.inl ⟨by rfl, fun w hw => by dsimp only at hw; obtain ⟨h0, h1, h2⟩ := hw; go_simp⟩) hHeld ?_
          simp only [List.setIfInBounds_toArray, List.set_cons_zero, List.set_cons_succ]
          refine e_take 11 34 (.bool (x n)) rfl rfl (by kernel_rfl) (by kernel_rfl) (by kernel_rfl) (by kernel_rfl) (fun _ _ _ h => h) (Or.inl ⟨by rfl, fun w hw => by dsimp only at hw; obtain ⟨h0, h1, h2⟩ := hw; go_simp⟩) hHeld ?_
          simp only [List.setIfInBounds_toArray, List.set_cons_zero, List.set_cons_succ]
          refine wpAnyE_ready (rs := [12]) (by kernel_rfl) (by simp) ?_
          refine AllReadyE.cons rfl (fun K hK => ?_) AllReadyE.nil
          go_simp
          refine hK.out _ _ (fun _ => ⟨cset_blk hHeld.1 (by (try dsimp only); omega), cset_blk hHeld.2.1 (by (try dsimp only); omega), cset_blk hHeld.2.2 (by (try dsimp only); omega)⟩) (fun _ => ?_)
          clear hK
          try simp only [Act.put, List.setIfInBounds_toArray, List.set_cons_zero, List.set_cons_succ]
          have c9v := c9 (.bool true)
          have f9v := f9 (.bool true)
          refine wpAnyE_ready (rs := [13]) (by kernel_rfl) (by simp) ?_
          refine AllReadyE.cons rfl (fun K hK => ?_) AllReadyE.nil
          go_simp
          refine hK.out _ _ (fun h => absurd rfl h) (fun _ => ?_)
          clear hK
          try simp only [Act.put, List.setIfInBounds_toArray, List.set_cons_zero, List.set_cons_succ]
          refine wpAnyE_done (by kernel_rfl) ?_ _
          exact HFIN.out true (x n) (by simp) (by simp)
  · exact knotty_refused h X hgood
end Go.Proofs.YtigofgdmefobaaaDoor.Peel

/- Walks of package peel: Whole. -/
set_option linter.unusedVariables false
set_option linter.unusedSimpArgs false
namespace Go.Proofs.YtigofgdmefobaaaDoor.Peel
open Go.RowKit Go.Proofs.YtigofgdmefobaaaDoor.Iter
attribute [local go_sem] Oper.semAt_some
/-- The fewest, and the most, pieces of a cutting that are whole, of several truths. -/
def PL.low (l : PL) (cs : List Int) (rs : List (Nat → Bool)) : Int := rs.foldl (fun n r => min n (l.count r cs)) (cs.length : Int)
def PL.high (l : PL) (cs : List Int) (rs : List (Nat → Bool)) : Int := rs.foldl (fun n r => max n (l.count r cs)) 0
theorem low_succ (l : PL) (cs : List Int) (rs : List (Nat → Bool)) (i : Nat) (x : Nat → Bool) (h : rs[i]? = some x) : l.low cs (rs.take (i + 1)) = min (l.low cs (rs.take i)) (l.count x cs) := by
  obtain ⟨hi, he⟩ := List.getElem?_eq_some_iff.1 h
  unfold PL.low
  rw [List.take_succ_eq_append_getElem hi, List.foldl_append, he]
  rfl
theorem high_succ (l : PL) (cs : List Int) (rs : List (Nat → Bool)) (i : Nat) (x : Nat → Bool) (h : rs[i]? = some x) : l.high cs (rs.take (i + 1)) = max (l.high cs (rs.take i)) (l.count x cs) := by
  obtain ⟨hi, he⟩ := List.getElem?_eq_some_iff.1 h
  unfold PL.high
  rw [List.take_succ_eq_append_getElem hi, List.foldl_append, he]
  rfl
theorem low_bd' (l : PL) (cs : List Int) : ∀ (rs : List (Nat → Bool)) (n : Int), 0 ≤ n → n ≤ cs.length → 0 ≤ rs.foldl (fun n r => min n (l.count r cs)) n ∧ rs.foldl (fun n r => min n (l.count r cs)) n ≤ cs.length := by
  intro rs
  induction rs with
  | nil => intro n h0 h1; exact ⟨h0, h1⟩
  | cons r rs ih =>
    intro n h0 h1
    have := count_bd l r cs
    exact ih _ (by dsimp only; omega) (by dsimp only; omega)
theorem low_bd (l : PL) (cs : List Int) (rs : List (Nat → Bool)) : 0 ≤ l.low cs rs ∧ l.low cs rs ≤ cs.length := low_bd' l cs rs _ (by omega) (by omega)
theorem high_bd' (l : PL) (cs : List Int) : ∀ (rs : List (Nat → Bool)) (n : Int), 0 ≤ n → n ≤ cs.length → 0 ≤ rs.foldl (fun n r => max n (l.count r cs)) n ∧ rs.foldl (fun n r => max n (l.count r cs)) n ≤ cs.length := by
  intro rs
  induction rs with
  | nil => intro n h0 h1; exact ⟨h0, h1⟩
  | cons r rs ih =>
    intro n h0 h1
    have := count_bd l r cs
    exact ih _ (by dsimp only; omega) (by dsimp only; omega)
theorem high_bd (l : PL) (cs : List Int) (rs : List (Nat → Bool)) : 0 ≤ l.high cs rs ∧ l.high cs rs ≤ cs.length := high_bd' l cs rs _ (by omega) (by omega)
theorem CutAt.far {w0 w1 w2 : World} {cs : List Int} {C : Option Addr} {n : Nat} (h0 : CutAt w0 cs C n) (h : CutAt w1 cs C n) (hb : Below w0.heap.size w1 w2) : CutAt w2 cs C n where
  at_ := fun k hk => by
    obtain ⟨a0, e0, h00⟩ := h0.at_ k hk
    obtain ⟨a1, e1, h10⟩ := h.at_ k hk
    rw [e0] at e1
    cases e1
    exact ⟨a0, e0, cell_far h00 h10 hb⟩
  cap := h.cap
  len := h.len
def wholeS (l : PL) (cs : List Int) : (Int × Int) × Int := if l.Ok then (if l.isCut 0 cs = true then ((l.low cs (l.truths l.knots none72), l.high cs (l.truths l.knots none72)), 0) else ((0, 0), 11)) else ((0, 0), 10)
theorem results_span {fn : Func} {p q : Tmp} (h : fn.results = #[.cell p 39, .tmp q]) (tmps : Array Value) (w : World) (g : Nat) (v0 v1 v : Value)
    (hp : tmps.getD p undef = .pointer (some ⟨g, 0, none⟩)) (hq : tmps.getD q undef = v) (hg : w.heap[g]? = some (.cells #[v0, v1] 39 (0, 0))) :
    (results fn tmps).run Tryd.prog w = .ok (.tuple #[.agg #[v0, v1], v]) w := by
  have hp' : tmps[p]?.getD undef = .pointer (some ⟨g, 0, none⟩) := by simpa using hp
  have hq' : tmps[q]?.getD undef = v := by simpa using hq
  have c0 : w.cell? ⟨g, 0, none⟩ = some v0 := cell_row' (i := 0) hg rfl
  have c1 : w.cell? ⟨g, 1, none⟩ = some v1 := cell_row' (i := 1) hg rfl
  simp [results, h, go_sem, hp', hq', c0, c1]
set_option maxRecDepth 8000 in
set_option maxHeartbeats 8000000 in
theorem whole_api {w : World} {l : PL} {A B : Option Addr} {c d : Nat} (h : RawAt w l A B c d) (he : EndsAt w) {cs : List Int} {C : Option Addr} {n : Nat} (hC : CutAt w cs C n) :
    Calls Tryd.prog 28 #[.agg #[.slice A l.long.length c, .int .i64 l.size, .slice B l.knots.length d], .slice C cs.length n] w fun e w' => e = .returned (.tuple #[.agg #[.int .i64 (wholeS l cs).1.1, .int .i64 (wholeS l cs).1.2], .int .i64 (wholeS l cs).2]) ∧ Below w.heap.size w w' := by
  by_cases ok : l.Ok
  · obtain ⟨a, rfl, hl⟩ := h.at ok
    have hB := (((Below.refl _ w).alloc (Nat.le_refl _) (.cells #[.slice (some a) l.long.length c, .int .i64 l.size, .slice B l.knots.length d] 25)).alloc (by simp) (.cells #[.slice C cs.length n] 22)).alloc (by simp; omega) (.cells #[.int .i64 0, .int .i64 0] 39)
    have H := Lib.hid (hl.below hB)
    have HE := Lib.hid (he.below hB)
    have HC := Lib.hid (hC.below hB)
    have HC0 := Lib.hid hC
    have rg : (((w.alloc (.cells #[.slice (some a) l.long.length c, .int .i64 l.size, .slice B l.knots.length d] 25)).alloc (.cells #[.slice C cs.length n] 22)).alloc (.cells #[.int .i64 0, .int .i64 0] 39)).heap[w.heap.size + 1]? = some (.cells #[.slice C cs.length n] 22 (0, 0)) := by exact rowt_
    have rs : (((w.alloc (.cells #[.slice (some a) l.long.length c, .int .i64 l.size, .slice B l.knots.length d] 25)).alloc (.cells #[.slice C cs.length n] 22)).alloc (.cells #[.int .i64 0, .int .i64 0] 39)).heap[w.heap.size + 1 + 1]? = some (.cells #[.int .i64 0, .int .i64 0] 39 (0, 0)) := by exact rowt_
    have RG := Lib.hid rg
    have RS := Lib.hid rs
    have HR := Lib.hid (cut_right' H.out HC.out (w.heap.size + 1) (cell_row' (i := 0) RG.out rfl))
    have hs1 := ok.size1
    have hs6 := ok.size6
    have hall := all_bd ok
    clear h hl he hC rg rs
    by_cases hin : l.isCut 0 cs = true
    · have HO := Lib.hid (show wholeS l cs = ((l.low cs (l.truths l.knots none72), l.high cs (l.truths l.knots none72)), 0) by unfold wholeS; rw [if_pos ok, if_pos hin])
      rw [HO.out]
      rw [hin] at HR
      have HIN := Lib.hid hin
      have hCl := HC.out.len
      have hCc := HC.out.cap
      clear hin
      refine callsIn_wide.1 (callsIn_of_wp_marks (n := 0) Tryd.func28 rfl trivial ?_)
      simp only [Tryd.ntmps28, List.size_toArray, List.length_cons, List.length_nil, Nat.reduceAdd, Nat.reduceSub, Array.replicate_succ, Array.replicate_zero, List.push_toArray, List.append_toArray, List.nil_append, List.cons_append]
      refine wpIn_wide.2 ?_
      go_wp2_with fail
      refine (asked_yes H.out _ _ HR.out).mono ?_
      rintro e w1 ⟨m, rfl, hb1, hm1, hm2⟩
      have hmw : m < w1.heap.size := (Array.getElem?_eq_some_iff.1 hm1).1
      have hmz : w.heap.size + 3 ≤ m := by simpa using hm2
      have H1 := Lib.hid (H.out.below hb1)
      have HE1 := Lib.hid (HE.out.below hb1)
      have HC1 := Lib.hid (HC.out.below hb1)
      have HM1 := Lib.hid (marks_new (l := l) hm1)
      have RG1 := Lib.hid (row_below hb1 RG.out (by simp))
      have RS1 := Lib.hid (row_below hb1 RS.out (by simp))
      have zw1 := hb1.size
      simp only [World.size_alloc] at zw1
      have HB1 := Lib.hid (bb hB hb1)
      have x0 : (w1.alloc (.cells #[.slice (some a) l.long.length c, .int .i64 l.size, .slice B l.knots.length d, .map (some m)] 75)).cell? ⟨w.heap.size + 1, 0, none⟩ = some (.slice C cs.length n) := cell_row' (i := 0) (row_old RG1.out) rfl
      clear hb1 hm1 hm2 hB
      go_upto_region 5 with (fail)
      obtain ⟨W2, hW2⟩ : ∃ W2, W2 = (w1.alloc (.cells #[.slice (some a) l.long.length c, .int .i64 l.size, .slice B l.knots.length d, .map (some m)] 75)).alloc (.cells #[.int .i64 cs.length, .int .i64 0] 39) := ⟨_, rfl⟩
      rw [← hW2]
      have z2 : W2.heap.size = w1.heap.size + 2 := by rw [hW2]; simp
      have hb2 : Below w1.heap.size w1 W2 := by rw [hW2]; exact ((Below.refl _ w1).alloc (Nat.le_refl _) _).alloc (by simp) _
      have r4 : W2.heap[w1.heap.size]? = some (.cells #[.slice (some a) l.long.length c, .int .i64 l.size, .slice B l.knots.length d, .map (some m)] 75 (0, 0)) := by rw [hW2]; exact rowt_
      have r6 : W2.heap[w1.heap.size + 1]? = some (.cells #[.int .i64 cs.length, .int .i64 0] 39 (0, 0)) := by rw [hW2]; exact rowt_
      clear hW2
      have q0 : W2.cell? ⟨w1.heap.size, 0, none⟩ = some (.slice (some a) l.long.length c) := cell_row' (i := 0) r4 rfl
      have q1 : W2.cell? ⟨w1.heap.size, 1, none⟩ = some (.int .i64 l.size) := cell_row' (i := 1) r4 rfl
      have q2 : W2.cell? ⟨w1.heap.size, 2, none⟩ = some (.slice B l.knots.length d) := cell_row' (i := 2) r4 rfl
      have q3 : W2.cell? ⟨w1.heap.size, 3, none⟩ = some (.map (some m)) := cell_row' (i := 3) r4 rfl
      have H2 := Lib.hid (H1.out.below hb2)
      have HE2 := Lib.hid (HE1.out.below hb2)
      have HC2 := Lib.hid (HC1.out.below hb2)
      have HM2 := Lib.hid (HM1.out.below hb2)
      have HB2 := Lib.hid (bb HB1.out hb2)
      have R4 := Lib.hid r4
      have R6 := Lib.hid r6
      have RG2 := Lib.hid (row_below hb2 RG1.out (by omega))
      have RS2 := Lib.hid (row_below hb2 RS1.out (by omega))
      clear hb2 r4 r6 x0
      go_wp2_with fail
      refine (truths_any H2.out HE2.out HM2.out).mono ?_
      rintro e w3 ⟨bl, rfl, hb3, hneed, hbl⟩
      have z3 := hb3.size
      have HN := Lib.hid hneed
      have R4w := Lib.hid (row_below hb3 R4.out (by omega))
      have R6w := Lib.hid (row_below hb3 R6.out (by omega))
      have RGw := Lib.hid (row_below hb3 RG2.out (by omega))
      have RSw := Lib.hid (row_below hb3 RS2.out (by omega))
      have HC3 := Lib.hid (HC2.out.below hb3)
      have HB3 := Lib.hid (bb HB2.out hb3)
      have lbl : bl < w3.heap.size := World.block_lt_of_cell? w3 _ hneed.q0
      have zz := HB1.out.size
      clear hneed hb3 q0 q1 q2 q3
      go_wp2_with fail
      refine (wpIn_wide (n := 0)).1 ?_
      refine range_law (gf := 87) (lb := #[.pointer (some ⟨bl, 0, none⟩)]) rfl (enters_of Tryd.func87 (by kernel_rfl) rfl)
        (truths_yields l a B c d m bl) (fun _ => rfl) (fun i T W => W.heap[w1.heap.size + 1]? = some (.cells #[.int .i64 (l.low cs ((l.truths l.knots none72).take i)), .int .i64 (l.high cs ((l.truths l.knots none72).take i))] 39 (0, 0)) ∧ LoopsM m (fun b => b = w1.heap.size + 1) w3 T W)
        ?hI (fun b h => by subst h; omega) HN.out (fun V V' hV hsz hs => HN.out.far hV (hs.below hsz (fun b hb h => by omega))) (fun V hV => ⟨?h0a, ?h0c⟩) ?hround ?hdone
      case hI =>
        rintro i T T' V V' ⟨hr, hl⟩ hs hT
        exact ⟨hl.obj hs (by omega) (by omega) hr, hl.abides hs hT⟩
      case h0a => exact row_below hV R6w.out (by omega)
      case h0c => exact ⟨fun b h => by rcases h with h | h | h; exact .inl h; exact .inr (by omega); exact .inr (by omega), Ext.below hV, fun b hb _ _ => hV.block b hb⟩
      case hdone =>
        rintro D V ⟨hr, hl⟩ hneed hDa hDb hK
        rw [List.take_length] at hr
        have zV := hl.ext.size
        have HK := Lib.hid hK
        have hwV : w3.heap.size < V.heap.size := (Array.getElem?_eq_some_iff.1 hK).1
        have rs4 : V.heap[w.heap.size + 1 + 1]? = some (.cells #[.int .i64 0, .int .i64 0] 39 (0, 0)) := (hl.same _ (by omega) (by omega) (by omega)).trans RSw.out
        have x0 : V.cell? ⟨w1.heap.size + 1, 0, none⟩ = some (.int .i64 (l.low cs (l.truths l.knots none72))) := cell_row' (i := 0) hr rfl
        have x1 : V.cell? ⟨w1.heap.size + 1, 1, none⟩ = some (.int .i64 (l.high cs (l.truths l.knots none72))) := cell_row' (i := 1) hr rfl
        have y0 : V.cell? ⟨w.heap.size + 1 + 1, 0, none⟩ = some (.int .i64 0) := cell_row' (i := 0) rs4 rfl
        have y1 : V.cell? ⟨w.heap.size + 1 + 1, 1, none⟩ = some (.int .i64 0) := cell_row' (i := 1) rs4 rfl
        have g0 : V.frozen? ⟨w.heap.size + 1 + 1, 0, none⟩ = false := frozen_of_row _ _ 0 _ _ rs4
        have g1 : V.frozen? ⟨w.heap.size + 1 + 1, 1, none⟩ = false := frozen_of_row _ _ 1 _ _ rs4
        have hz1 : w.heap.size + 1 + 1 < V.heap.size := by omega
        have HEV := Lib.hid (HB3.out.trans (show Below w.heap.size w3 V from ⟨hl.ext.os, hl.ext.tape, hl.ext.output, hl.ext.size, fun b hb => hl.same b (by have := HB3.out.size; omega) (by omega) (by show ¬ _ = _; omega)⟩))
        have RSV := Lib.hid rs4
        clear hl hneed hK hr rs4
        gi_wp2
        go_wp2_with fail
        have hKd : ((V.setCell ⟨w.heap.size + 1 + 1, 0, none⟩ (.int .i64 (l.low cs (l.truths l.knots none72)))).setCell ⟨w.heap.size + 1 + 1, 1, none⟩ (.int .i64 (l.high cs (l.truths l.knots none72)))).heap[w3.heap.size]? = some (.deferred (some [])) := by
          rw [heap_put (by dsimp only; omega), heap_put (by dsimp only; omega)]; exact HK.out
        have hrow : (((V.setCell ⟨w.heap.size + 1 + 1, 0, none⟩ (.int .i64 (l.low cs (l.truths l.knots none72)))).setCell ⟨w.heap.size + 1 + 1, 1, none⟩ (.int .i64 (l.high cs (l.truths l.knots none72)))).putObj w3.heap.size (.deferred none)).heap[w.heap.size + 1 + 1]? = some (.cells #[.int .i64 (l.low cs (l.truths l.knots none72)), .int .i64 (l.high cs (l.truths l.knots none72))] 39 (0, 0)) := by
          rw [World.putObj_heap_other (by omega)]
          exact blk_set (blk_set RSV.out 0 _) 1 _
        refine ⟨by simp, .inl ⟨_, _, rfl, run_takeDeferred hKd, ?_⟩⟩
        refine ⟨.tuple #[.agg #[.int .i64 (l.low cs (l.truths l.knots none72)), .int .i64 (l.high cs (l.truths l.knots none72))], .int .i64 0], results_span (p := 4) (q := 5) rfl _ _ (w.heap.size + 1 + 1) _ _ _ rfl rfl hrow, rfl, ?_⟩
        have hb0 : Below w.heap.size ((V.setCell ⟨w.heap.size + 1 + 1, 0, none⟩ (.int .i64 (l.low cs (l.truths l.knots none72)))).setCell ⟨w.heap.size + 1 + 1, 1, none⟩ (.int .i64 (l.high cs (l.truths l.knots none72)))) (((V.setCell ⟨w.heap.size + 1 + 1, 0, none⟩ (.int .i64 (l.low cs (l.truths l.knots none72)))).setCell ⟨w.heap.size + 1 + 1, 1, none⟩ (.int .i64 (l.high cs (l.truths l.knots none72)))).putObj w3.heap.size (.deferred none)) := ⟨rfl, rfl, rfl, by simp [World.putObj], fun b hb => World.putObj_heap_other (by have := HB3.out.size; omega)⟩
        exact (((HEV.out).setCell (by dsimp only; omega) _).setCell (by dsimp only; omega) _).trans hb0
      case hround =>
        rintro i x D V hx hVsz ⟨hr, hl⟩ hneed hDa hDb hDbd
        dsimp only [ribV]
        rw [put_one]
        simp only [List.setIfInBounds_toArray, List.set_cons_succ, List.set_cons_zero]
        gi_wp2_with (first | ((with_reducible refine gate_alloc_in 86 rfl ?_); refine ev_alloc_rib_in rfl rfl ?_) | ((with_reducible refine gate_store_in 86 rfl ?_); refine ev_store_rib_in rfl rfl _ _ rfl _ rfl none72 x rfl (by exact rowt_) ?_))
        obtain ⟨V0, hV0⟩ : ∃ V0, V0 = (V.alloc (.cells (rv none72) 86)).setRow V.heap.size (rv x) := ⟨_, rfl⟩
        have hV1 : Below V.heap.size V V0 := by rw [hV0]; exact ((Below.refl _ V).alloc (Nat.le_refl _) _).trans ((only_setRow _ _ _).below (Nat.le_refl _))
        have k4 : V0.heap[V.heap.size]? = some (.cells (rv x) 86 (0, 0)) := by rw [hV0]; exact rowt_
        have zV0 : V0.heap.size = V.heap.size + 1 := by rw [hV0]; simp
        rw [← hV0]
        clear hV0
        refine ⟨hV1, fun V1 hst1 => ?_⟩
        have k7 := hst1.obj k4 (by omega)
        have hs01 : Stays (fun b => b = w1.heap.size + 1 ∨ w3.heap.size ≤ b) V V1 := (Stays.of_below hV1).trans (hst1.mono fun b _ h => .inr (by omega))
        obtain ⟨lo, hlo⟩ : ∃ lo, lo = l.low cs ((l.truths l.knots none72).take i) := ⟨_, rfl⟩
        obtain ⟨hi, hhi⟩ : ∃ hi, hi = l.high cs ((l.truths l.knots none72).take i) := ⟨_, rfl⟩
        obtain ⟨nn, hnn⟩ : ∃ nn, nn = l.count x cs := ⟨_, rfl⟩
        have bdl := low_bd l cs ((l.truths l.knots none72).take i)
        have bdh := high_bd l cs ((l.truths l.knots none72).take i)
        have bdn := count_bd l x cs
        rw [← hlo] at hr bdl
        rw [← hhi] at hr bdh
        rw [← hnn] at bdn
        have k6 : V1.heap[w1.heap.size + 1]? = some (.cells #[.int .i64 lo, .int .i64 hi] 39 (0, 0)) := hst1.obj (row_below hV1 hr (by have := hl.ext.size; omega)) (by omega)
        have kg : V1.heap[w.heap.size + 1]? = some (.cells #[.slice C cs.length n] 22 (0, 0)) := (hs01.block _ (by have := hl.ext.size; omega) (fun h => by rcases h with h | h <;> omega)).trans ((hl.same _ (by omega) (by omega) (by omega)).trans RGw.out)
        have k4' : V1.heap[w1.heap.size]? = some (.cells #[.slice (some a) l.long.length c, .int .i64 l.size, .slice B l.knots.length d, .map (some m)] 75 (0, 0)) := (hs01.block _ (by have := hl.ext.size; omega) (fun h => by rcases h with h | h <;> omega)).trans ((hl.same _ (by omega) (by omega) (by omega)).trans R4w.out)
        have q0 : V1.cell? ⟨w1.heap.size, 0, none⟩ = some (.slice (some a) l.long.length c) := cell_row' (i := 0) k4' rfl
        have q1 : V1.cell? ⟨w1.heap.size, 1, none⟩ = some (.int .i64 l.size) := cell_row' (i := 1) k4' rfl
        have q2 : V1.cell? ⟨w1.heap.size, 2, none⟩ = some (.slice B l.knots.length d) := cell_row' (i := 2) k4' rfl
        have q3 : V1.cell? ⟨w1.heap.size, 3, none⟩ = some (.map (some m)) := cell_row' (i := 3) k4' rfl
        have cg : V1.cell? ⟨w.heap.size + 1, 0, none⟩ = some (.slice C cs.length n) := cell_row' kg rfl
        have hCV : CutAt V1 cs C n := by
          refine HC0.out.far HC3.out ?_
          exact Below.trans (show Below w.heap.size w3 V from ⟨hl.ext.os, hl.ext.tape, hl.ext.output, hl.ext.size, fun b hb => hl.same b (by omega) (by omega) (by show ¬ _ = _; omega)⟩) (hs01.below (by have := hl.ext.size; omega) (fun b hb h => by rcases h with h | h <;> omega))
        have HCV := Lib.hid hCV
        have e0 := rangeAt_rib k7
        have hundR := undRib
        have hsizR : (Tryd.prog.info? 86).map (·.size) = some (rl x).length := by rw [rl_length]; exact sizeRib
        have hfin : ∀ (w4 : World), Below V1.heap.size V1 w4 → (((w4.setCell ⟨w1.heap.size + 1, 0, none⟩ (.int .i64 (min lo nn))).setCell ⟨w1.heap.size + 1, 1, none⟩ (.int .i64 (max hi nn))).heap[w1.heap.size + 1]? = some (.cells #[.int .i64 (l.low cs ((l.truths l.knots none72).take (i + 1))), .int .i64 (l.high cs ((l.truths l.knots none72).take (i + 1)))] 39 (0, 0)) ∧ LoopsM m (fun b => b = w1.heap.size + 1) w3 D ((w4.setCell ⟨w1.heap.size + 1, 0, none⟩ (.int .i64 (min lo nn))).setCell ⟨w1.heap.size + 1, 1, none⟩ (.int .i64 (max hi nn)))) ∧ Keeps D V1 ((w4.setCell ⟨w1.heap.size + 1, 0, none⟩ (.int .i64 (min lo nn))).setCell ⟨w1.heap.size + 1, 1, none⟩ (.int .i64 (max hi nn))) ∧ TruthsNeed l a B c d m bl ((w4.setCell ⟨w1.heap.size + 1, 0, none⟩ (.int .i64 (min lo nn))).setCell ⟨w1.heap.size + 1, 1, none⟩ (.int .i64 (max hi nn))) := by
          intro w4 hb
          obtain ⟨W5, hW5⟩ : ∃ W5, W5 = (w4.setCell ⟨w1.heap.size + 1, 0, none⟩ (.int .i64 (min lo nn))).setCell ⟨w1.heap.size + 1, 1, none⟩ (.int .i64 (max hi nn)) := ⟨_, rfl⟩
          have hs : Stays (fun b => b = w1.heap.size + 1) V1 W5 := by rw [hW5]; exact (Stays.of_below hb).trans ((stays_setCell (T := fun b => b = w1.heap.size + 1) _ ⟨w1.heap.size + 1, 0, none⟩ _ rfl).trans (stays_setCell (T := fun b => b = w1.heap.size + 1) _ ⟨w1.heap.size + 1, 1, none⟩ _ rfl))
          have hrow : W5.heap[w1.heap.size + 1]? = some (.cells #[.int .i64 (l.low cs ((l.truths l.knots none72).take (i + 1))), .int .i64 (l.high cs ((l.truths l.knots none72).take (i + 1)))] 39 (0, 0)) := by
            rw [low_succ l cs _ i x hx, high_succ l cs _ i x hx, ← hlo, ← hhi, ← hnn, hW5]
            exact blk_set (blk_set (row_below hb k6 (Array.getElem?_eq_some_iff.1 k6).1) 0 _) 1 _
          rw [← hW5]
          have hsV : Stays (fun b => b = w1.heap.size + 1 ∨ w3.heap.size ≤ b) V W5 := hs01.trans (hs.mono fun b _ h => .inl h)
          have hb0 : Below w1.heap.size V W5 := hsV.below (by have := hl.ext.size; omega) (fun b hb h => by rcases h with h | h <;> omega)
          have hcell : ∀ o' v, V.cell? ⟨bl, o', none⟩ = some v → W5.cell? ⟨bl, o', none⟩ = some v := fun o' v hv => by
            rw [← hv]
            exact World.cell?_of_block (hsV.block bl (by have := hl.ext.size; omega) (fun h => by rcases h with h | h <;> omega))
          exact ⟨⟨hrow, hl.round hsV⟩, Keeps.of_stays hs (fun b hb hD => by rcases hl.t b hD with h | h <;> omega), ⟨H1.out.far hneed.log hb0, HE1.out.far hneed.ends hb0, hcell 0 _ hneed.q0, hcell 1 _ hneed.q1, hcell 2 _ hneed.q2, hcell 3 _ hneed.q3, HM1.out.far hneed.marks hb0⟩⟩
        have HFIN := Lib.hid hfin
        have H4 : LogAt V1 l a B c d := H1.out.far hneed.log (hs01.below (by have := hl.ext.size; omega) (fun b hb h => by rcases h with h | h <;> omega))
        have HL4 := Lib.hid H4
        have zz2 : w3.heap.size ≤ V.heap.size := hl.ext.size
        have zz3 : w1.heap.size + 1 < V1.heap.size := (Array.getElem?_eq_some_iff.1 k6).1
        have HNN := Lib.hid hnn
        have K6 := Lib.hid k6
        clear hfin H4 hr hl hneed hlo hhi hnn kg k4 k4' k7 hV1 hs01 hst1 hCV k6
        try simp only [Act.put, List.setIfInBounds_toArray, List.set_cons_succ, List.set_cons_zero]
        refine wpIn_block ?_
        refine wpIn_seq ?_
        refine region_held_in (S := fun w' => w'.cell? ⟨w1.heap.size, 0, none⟩ = some (.slice (some a) l.long.length c) ∧ w'.cell? ⟨w1.heap.size, 1, none⟩ = some (.int .i64 l.size) ∧ w'.cell? ⟨w1.heap.size, 2, none⟩ = some (.slice B l.knots.length d) ∧ w'.cell? ⟨w1.heap.size, 3, none⟩ = some (.map (some m)) ∧ w'.rangeAt V.heap.size 0 (rl x) ∧ w'.cell? ⟨w.heap.size + 1, 0, none⟩ = some (.slice C cs.length n)) (by kernel_rfl) (by kernel_rfl) (by rintro ⟨a, w, h⟩; exact h) ⟨q0, q1, q2, q3, e0, cg⟩ (fun hHeld => ?_)
        refine held_take 0 27 (.agg #[.slice (some a) l.long.length c, .int .i64 l.size, .slice B l.knots.length d, .map (some m)]) rfl rfl (by kernel_rfl) (by kernel_rfl) (by kernel_rfl) (fun _ _ _ h => h) (Or.inl ⟨by rfl, fun w hw => by dsimp only at hw; obtain ⟨h0, h1, h2, h3, h4, h5⟩ := hw; go_simp⟩) hHeld ?_
        simp only [List.setIfInBounds_toArray, List.set_cons_zero, List.set_cons_succ]
        refine held_take 1 28 _ rfl rfl (by kernel_rfl) (by kernel_rfl) (by kernel_rfl) (fun _ _ _ h => h) (yieldsIf_load_mid (by rfl) _ _ rfl _ _ rfl (rl x) _ (fun _ h => h.2.2.2.2.1) hundR rfl hsizR) hHeld ?_
        simp only [List.setIfInBounds_toArray, List.set_cons_zero, List.set_cons_succ]
        refine held_take 3 30 (.slice C cs.length n) rfl rfl (by kernel_rfl) (by kernel_rfl) (by kernel_rfl) (fun _ _ _ h => h) (Or.inl ⟨by rfl, fun w hw => by dsimp only at hw; obtain ⟨h0, h1, h2, h3, h4, h5⟩ := hw; go_simp⟩) hHeld ?_
        simp only [List.setIfInBounds_toArray, List.set_cons_zero, List.set_cons_succ]
        refine wpAnyH_ready (rs := [2]) (by kernel_rfl) (by simp) ?_
        refine AllReadyH.cons rfl (fun K hK => ?_) AllReadyH.nil
        go_simp
        rw [rv_rl]
        refine (whole_any l a B c d m x).mono ?_
        rintro e w4 ⟨bi, br, rfl, hbw, hcnt⟩
        dsimp only
        have hb14 : Below V1.heap.size V1 w4 := ((Below.refl _ V1).drew).trans hbw
        refine hK.out _ _ ⟨cell_below hbw hHeld.1, cell_below hbw hHeld.2.1, cell_below hbw hHeld.2.2.1, cell_below hbw hHeld.2.2.2.1, rangeAt_below hbw hHeld.2.2.2.2.1, cell_below hbw hHeld.2.2.2.2.2⟩ (fun hHeldn => ?_)
        clear hK
        try simp only [Act.put, List.setIfInBounds_toArray, List.set_cons_zero, List.set_cons_succ]
        refine wpAnyH_ready (rs := [4]) (by kernel_rfl) (by simp) ?_
        refine AllReadyH.cons rfl (fun K hK => ?_) AllReadyH.nil
        go_simp
        refine (count_any hcnt hs1 hs6 (HCV.out.below hb14) hall.2 HIN.out).mono ?_
        rintro e w5 ⟨rfl, hbc⟩
        dsimp only
        have hb15 : Below V1.heap.size V1 w5 := bb hb14 hbc
        refine hK.out _ _ ⟨cell_below hbc hHeldn.1, cell_below hbc hHeldn.2.1, cell_below hbc hHeldn.2.2.1, cell_below hbc hHeldn.2.2.2.1, rangeAt_below hbc hHeldn.2.2.2.2.1, cell_below hbc hHeldn.2.2.2.2.2⟩ (fun hHeldnn => ?_)
        clear hK
        try simp only [Act.put, List.setIfInBounds_toArray, List.set_cons_zero, List.set_cons_succ]
        rw [← HNN.out]
        refine wpAnyH_ready (rs := [5]) (by kernel_rfl) (by simp) ?_
        refine AllReadyH.cons rfl (fun K hK => ?_) AllReadyH.nil
        go_simp
        refine hK.out _ _ hHeldnn (fun _ => ?_)
        clear hK
        try simp only [Act.put, List.setIfInBounds_toArray, List.set_cons_zero, List.set_cons_succ]
        refine wpAnyH_done (by kernel_rfl) ?_ _
        have HB15 := Lib.hid hb15
        have r6' := row_below hb15 K6.out zz3
        have c0 : w5.cell? ⟨w1.heap.size + 1, 0, none⟩ = some (.int .i64 lo) := cell_row' (i := 0) r6' rfl
        have c1 : w5.cell? ⟨w1.heap.size + 1, 1, none⟩ = some (.int .i64 hi) := cell_row' (i := 1) r6' rfl
        have zz4 : w1.heap.size + 1 < w5.heap.size := (Array.getElem?_eq_some_iff.1 r6').1
        have R6' := Lib.hid r6'
        have hw1 : IntKind.i64.wrap (-lo) = -lo := IntWalk.i64_in _ (by omega)
        have hw2 : IntKind.i64.wrap (-nn) = -nn := IntWalk.i64_in _ (by omega)
        have hw3 : IntKind.i64.wrap (min lo nn) = min lo nn := IntWalk.i64_in _ (by omega)
        clear hcnt hbw hb14 hbc hb15 hHeld hHeldn hHeldnn q0 q1 q2 q3 e0 cg r6'
        show (Code.region _ _ _).wpIn _ _ _ _ _ _
        refine region_e_in 14 (fun w' => w'.cell? ⟨w1.heap.size + 1, 0, none⟩ = some (.int .i64 lo) ∧ w'.cell? ⟨w1.heap.size + 1, 1, none⟩ = some (.int .i64 hi)) (by kernel_rfl) (by kernel_rfl) (by rintro ⟨a, w, h⟩; exact h) ⟨c0, c1⟩ (fun hHeld => ?_)
        clear c0 c1
        refine e_take 0 32 (.pointer (some ⟨w1.heap.size + 1, 0, none⟩)) rfl rfl (by kernel_rfl) (by kernel_rfl) (by kernel_rfl) (by kernel_rfl) (fun _ _ _ h => h) (Or.inl ⟨by rfl, fun w hw => by dsimp only at hw; obtain ⟨h0, h1⟩ := hw; go_simp⟩) hHeld ?_
        simp only [List.setIfInBounds_toArray, List.set_cons_zero, List.set_cons_succ]
        refine e_take 1 33 (.int .i64 lo) rfl rfl (by kernel_rfl) (by kernel_rfl) (by kernel_rfl) (by kernel_rfl) (fun _ _ _ h => h) (Or.inl ⟨by rfl, fun w hw => by dsimp only at hw; obtain ⟨h0, h1⟩ := hw; go_simp⟩) hHeld ?_
        simp only [List.setIfInBounds_toArray, List.set_cons_zero, List.set_cons_succ]
        refine e_take 2 34 (.int .i64 (-lo)) rfl rfl (by kernel_rfl) (by kernel_rfl) (by kernel_rfl) (by kernel_rfl) (fun _ _ _ h => h) (Or.inl ⟨by rfl, fun w hw => by dsimp only at hw; obtain ⟨h0, h1⟩ := hw; go_simp⟩) hHeld ?_
        simp only [List.setIfInBounds_toArray, List.set_cons_zero, List.set_cons_succ]
        refine e_take 3 35 (.int .i64 nn) rfl rfl (by kernel_rfl) (by kernel_rfl) (by kernel_rfl) (by kernel_rfl) (fun _ _ _ h => h) (Or.inl ⟨by rfl, fun w hw => by dsimp only at hw; obtain ⟨h0, h1⟩ := hw; go_simp⟩) hHeld ?_
        simp only [List.setIfInBounds_toArray, List.set_cons_zero, List.set_cons_succ]
        refine e_take 4 36 (.int .i64 (-nn)) rfl rfl (by kernel_rfl) (by kernel_rfl) (by kernel_rfl) (by kernel_rfl) (fun _ _ _ h => h) (Or.inl ⟨by rfl, fun w hw => by dsimp only at hw; obtain ⟨h0, h1⟩ := hw; go_simp⟩) hHeld ?_
        simp only [List.setIfInBounds_toArray, List.set_cons_zero, List.set_cons_succ]
        refine e_take 8 40 (.pointer (some ⟨w1.heap.size + 1, 1, none⟩)) rfl rfl (by kernel_rfl) (by kernel_rfl) (by kernel_rfl) (by kernel_rfl) (fun _ _ _ h => h) (Or.inl ⟨by rfl, fun w hw => by dsimp only at hw; obtain ⟨h0, h1⟩ := hw; go_simp⟩) hHeld ?_
        simp only [List.setIfInBounds_toArray, List.set_cons_zero, List.set_cons_succ]
        refine e_take 9 41 (.int .i64 hi) rfl rfl (by kernel_rfl) (by kernel_rfl) (by kernel_rfl) (by kernel_rfl) (fun _ _ _ h => h) (Or.inl ⟨by rfl, fun w hw => by dsimp only at hw; obtain ⟨h0, h1⟩ := hw; go_simp⟩) hHeld ?_
        simp only [List.setIfInBounds_toArray, List.set_cons_zero, List.set_cons_succ]
        refine e_take 10 42 (.int .i64 nn) rfl rfl (by kernel_rfl) (by kernel_rfl) (by kernel_rfl) (by kernel_rfl) (fun _ _ _ h => h) (Or.inl ⟨by rfl, fun w hw => by dsimp only at hw; obtain ⟨h0, h1⟩ := hw; go_simp⟩) hHeld ?_
        simp only [List.setIfInBounds_toArray, List.set_cons_zero, List.set_cons_succ]
        refine wpAnyE_ready (rs := [5, 11]) (by kernel_rfl) (by simp) ?_
        refine AllReadyE.cons rfl (fun K hK => ?_) (AllReadyE.cons rfl (fun K hK => ?_) AllReadyE.nil)
        · go_simp
          refine hK.out _ _ (fun _ => ⟨cell_old hHeld.1, cell_old hHeld.2⟩) (fun _ => ?_)
          have hHeldn := And.intro (cell_old (o := (.cells #[.int .i64 (-nn)] 3)) hHeld.1) (cell_old (o := (.cells #[.int .i64 (-nn)] 3)) hHeld.2)
          clear hK
          try simp only [Act.put, List.setIfInBounds_toArray, List.set_cons_zero, List.set_cons_succ]
          refine wpAnyE_ready (rs := [6, 11]) (by kernel_rfl) (by simp) ?_
          refine AllReadyE.cons rfl (fun K hK => ?_) (AllReadyE.cons rfl (fun K hK => ?_) AllReadyE.nil)
          · go_simp
            have cc : (w5.drew.alloc (.cells #[.int .i64 (-nn)] 3)).cell? ⟨w5.heap.size, 0, none⟩ = some (.int .i64 (-nn)) := cell_new' rfl rfl
            refine (greatest_any (-lo) (-nn) cc).mono ?_
            rintro e w6 ⟨rfl, rfl⟩
            dsimp only
            refine hK.out _ _ (fun _ => hHeldn) (fun _ => ?_)
            clear hK cc
            try simp only [Act.put, List.setIfInBounds_toArray, List.set_cons_zero, List.set_cons_succ]
            refine e_take 7 39 (.int .i64 (min lo nn)) rfl rfl (by kernel_rfl) (by kernel_rfl) (by kernel_rfl) (by kernel_rfl) (fun _ _ _ h => h) (Or.inl ⟨by rfl, fun w hw => by dsimp only at hw; obtain ⟨h0, h1⟩ := hw; go_simp⟩) hHeldn ?_
            simp only [List.setIfInBounds_toArray, List.set_cons_zero, List.set_cons_succ]
            refine wpAnyE_ready (rs := [11]) (by kernel_rfl) (by simp) ?_
            refine AllReadyE.cons rfl (fun K hK => ?_) AllReadyE.nil
            go_simp
            refine hK.out _ _ (fun _ => ⟨cell_old hHeldn.1, cell_old hHeldn.2⟩) (fun _ => ?_)
            have hHeldnn := And.intro (cell_old (o := (.cells #[.int .i64 nn] 3)) hHeldn.1) (cell_old (o := (.cells #[.int .i64 nn] 3)) hHeldn.2)
            clear hK
            try simp only [Act.put, List.setIfInBounds_toArray, List.set_cons_zero, List.set_cons_succ]
            refine wpAnyE_ready (rs := [12]) (by kernel_rfl) (by simp) ?_
            refine AllReadyE.cons rfl (fun K hK => ?_) AllReadyE.nil
            go_simp
            have cc : ((w5.drew.alloc (.cells #[.int .i64 (-nn)] 3)).alloc (.cells #[.int .i64 nn] 3)).cell? ⟨w5.heap.size + 1, 0, none⟩ = some (.int .i64 (nn)) := cell_new' (by simp) rfl
            refine (greatest_any (hi) (nn) cc).mono ?_
            rintro e w6 ⟨rfl, rfl⟩
            dsimp only
            refine hK.out _ _ (fun _ => hHeldnn) (fun _ => ?_)
            clear hK cc
            try simp only [Act.put, List.setIfInBounds_toArray, List.set_cons_zero, List.set_cons_succ]
            refine e_take 13 45 (.agg #[.int .i64 (min lo nn), .int .i64 (max hi nn)]) rfl rfl (by kernel_rfl) (by kernel_rfl) (by kernel_rfl) (by kernel_rfl) (fun _ _ _ h => h) (Or.inl ⟨by rfl, fun w hw => by dsimp only at hw; obtain ⟨h0, h1⟩ := hw; go_simp⟩) hHeldnn ?_
            simp only [List.setIfInBounds_toArray, List.set_cons_zero, List.set_cons_succ]
            obtain ⟨W6, hW6⟩ : ∃ W6, W6 = ((w5.drew.alloc (.cells #[.int .i64 (-nn)] 3)).alloc (.cells #[.int .i64 nn] 3)) := ⟨_, rfl⟩
            have hb6 : Below V1.heap.size V1 W6 := by rw [hW6]; (repeat' (first | exact Below.refl _ _ | assumption | with_reducible refine bdrew ?_ | with_reducible refine balloc ?_ _ | with_reducible refine bset ?_ _ _ (by first | omega | (simp; done) | (simp; omega) | (dsimp only; omega)) | with_reducible refine bb ?_ (by assumption)))
            rw [← hW6]
            clear hW6
            have HB6 := Lib.hid hb6
            have r6 := row_below hb6 K6.out zz3
            have c0 : W6.cell? ⟨w1.heap.size + 1, 0, none⟩ = some (.int .i64 lo) := cell_row' (i := 0) r6 rfl
            have c1 : W6.cell? ⟨w1.heap.size + 1, 1, none⟩ = some (.int .i64 hi) := cell_row' (i := 1) r6 rfl
            have f0 : W6.frozen? ⟨w1.heap.size + 1, 0, none⟩ = false := frozen_of_row _ _ 0 _ _ r6
            have f1 : W6.frozen? ⟨w1.heap.size + 1, 1, none⟩ = false := frozen_of_row _ _ 1 _ _ r6
            clear hb6 r6
            refine wpAnyE_ready (rs := [14]) (by kernel_rfl) (by simp) ?_
            refine AllReadyE.cons rfl (fun K hK => ?_) AllReadyE.nil
            go_simp
            refine hK.out _ _ (fun h => absurd rfl h) (fun _ => ?_)
            clear hK
            try simp only [Act.put, List.setIfInBounds_toArray, List.set_cons_zero, List.set_cons_succ]
            refine wpAnyE_done (by kernel_rfl) ?_ _
            exact HFIN.out W6 HB6.out
          · go_simp
            refine hK.out _ _ (fun _ => ⟨cell_old hHeldn.1, cell_old hHeldn.2⟩) (fun _ => ?_)
            have hHeldnn := And.intro (cell_old (o := (.cells #[.int .i64 nn] 3)) hHeldn.1) (cell_old (o := (.cells #[.int .i64 nn] 3)) hHeldn.2)
            clear hK
            try simp only [Act.put, List.setIfInBounds_toArray, List.set_cons_zero, List.set_cons_succ]
            refine wpAnyE_ready (rs := [6]) (by kernel_rfl) (by simp) ?_
            refine AllReadyE.cons rfl (fun K hK => ?_) AllReadyE.nil
            go_simp
            have cc : ((w5.drew.alloc (.cells #[.int .i64 (-nn)] 3)).alloc (.cells #[.int .i64 nn] 3)).cell? ⟨w5.heap.size, 0, none⟩ = some (.int .i64 (-nn)) := cell_old (cell_new' rfl rfl)
            refine (greatest_any (-lo) (-nn) cc).mono ?_
            rintro e w6 ⟨rfl, rfl⟩
            dsimp only
            refine hK.out _ _ (fun _ => hHeldnn) (fun _ => ?_)
            clear hK cc
            try simp only [Act.put, List.setIfInBounds_toArray, List.set_cons_zero, List.set_cons_succ]
            refine e_take 7 39 (.int .i64 (min lo nn)) rfl rfl (by kernel_rfl) (by kernel_rfl) (by kernel_rfl) (by kernel_rfl) (fun _ _ _ h => h) (Or.inl ⟨by rfl, fun w hw => by dsimp only at hw; obtain ⟨h0, h1⟩ := hw; go_simp⟩) hHeldnn ?_
            simp only [List.setIfInBounds_toArray, List.set_cons_zero, List.set_cons_succ]
            refine wpAnyE_ready (rs := [12]) (by kernel_rfl) (by simp) ?_
            refine AllReadyE.cons rfl (fun K hK => ?_) AllReadyE.nil
            go_simp
            have cc : ((w5.drew.alloc (.cells #[.int .i64 (-nn)] 3)).alloc (.cells #[.int .i64 nn] 3)).cell? ⟨w5.heap.size + 1, 0, none⟩ = some (.int .i64 (nn)) := cell_new' (by simp) rfl
            refine (greatest_any (hi) (nn) cc).mono ?_
            rintro e w6 ⟨rfl, rfl⟩
            dsimp only
            refine hK.out _ _ (fun _ => hHeldnn) (fun _ => ?_)
            clear hK cc
            try simp only [Act.put, List.setIfInBounds_toArray, List.set_cons_zero, List.set_cons_succ]
            refine e_take 13 45 (.agg #[.int .i64 (min lo nn), .int .i64 (max hi nn)]) rfl rfl (by kernel_rfl) (by kernel_rfl) (by kernel_rfl) (by kernel_rfl) (fun _ _ _ h => h) (Or.inl ⟨by rfl, fun w hw => by dsimp only at hw; obtain ⟨h0, h1⟩ := hw; go_simp⟩) hHeldnn ?_
            simp only [List.setIfInBounds_toArray, List.set_cons_zero, List.set_cons_succ]
            obtain ⟨W6, hW6⟩ : ∃ W6, W6 = ((w5.drew.alloc (.cells #[.int .i64 (-nn)] 3)).alloc (.cells #[.int .i64 nn] 3)) := ⟨_, rfl⟩
            have hb6 : Below V1.heap.size V1 W6 := by rw [hW6]; (repeat' (first | exact Below.refl _ _ | assumption | with_reducible refine bdrew ?_ | with_reducible refine balloc ?_ _ | with_reducible refine bset ?_ _ _ (by first | omega | (simp; done) | (simp; omega) | (dsimp only; omega)) | with_reducible refine bb ?_ (by assumption)))
            rw [← hW6]
            clear hW6
            have HB6 := Lib.hid hb6
            have r6 := row_below hb6 K6.out zz3
            have c0 : W6.cell? ⟨w1.heap.size + 1, 0, none⟩ = some (.int .i64 lo) := cell_row' (i := 0) r6 rfl
            have c1 : W6.cell? ⟨w1.heap.size + 1, 1, none⟩ = some (.int .i64 hi) := cell_row' (i := 1) r6 rfl
            have f0 : W6.frozen? ⟨w1.heap.size + 1, 0, none⟩ = false := frozen_of_row _ _ 0 _ _ r6
            have f1 : W6.frozen? ⟨w1.heap.size + 1, 1, none⟩ = false := frozen_of_row _ _ 1 _ _ r6
            clear hb6 r6
            refine wpAnyE_ready (rs := [14]) (by kernel_rfl) (by simp) ?_
            refine AllReadyE.cons rfl (fun K hK => ?_) AllReadyE.nil
            go_simp
            refine hK.out _ _ (fun h => absurd rfl h) (fun _ => ?_)
            clear hK
            try simp only [Act.put, List.setIfInBounds_toArray, List.set_cons_zero, List.set_cons_succ]
            refine wpAnyE_done (by kernel_rfl) ?_ _
            exact HFIN.out W6 HB6.out
        · go_simp
          refine hK.out _ _ (fun _ => ⟨cell_old hHeld.1, cell_old hHeld.2⟩) (fun _ => ?_)
          have hHeldn := And.intro (cell_old (o := (.cells #[.int .i64 nn] 3)) hHeld.1) (cell_old (o := (.cells #[.int .i64 nn] 3)) hHeld.2)
          clear hK
          try simp only [Act.put, List.setIfInBounds_toArray, List.set_cons_zero, List.set_cons_succ]
          refine wpAnyE_ready (rs := [5]) (by kernel_rfl) (by simp) ?_
          refine AllReadyE.cons rfl (fun K hK => ?_) AllReadyE.nil
          go_simp
          refine hK.out _ _ (fun _ => ⟨cell_old hHeldn.1, cell_old hHeldn.2⟩) (fun _ => ?_)
          have hHeldnn := And.intro (cell_old (o := (.cells #[.int .i64 (-nn)] 3)) hHeldn.1) (cell_old (o := (.cells #[.int .i64 (-nn)] 3)) hHeldn.2)
          clear hK
          try simp only [Act.put, List.setIfInBounds_toArray, List.set_cons_zero, List.set_cons_succ]
          refine wpAnyE_ready (rs := [6]) (by kernel_rfl) (by simp) ?_
          refine AllReadyE.cons rfl (fun K hK => ?_) AllReadyE.nil
          go_simp
          have cc : ((w5.drew.alloc (.cells #[.int .i64 nn] 3)).alloc (.cells #[.int .i64 (-nn)] 3)).cell? ⟨w5.heap.size + 1, 0, none⟩ = some (.int .i64 (-nn)) := cell_new' (by simp) rfl
          refine (greatest_any (-lo) (-nn) cc).mono ?_
          rintro e w6 ⟨rfl, rfl⟩
          dsimp only
          refine hK.out _ _ (fun _ => hHeldnn) (fun _ => ?_)
          clear hK cc
          try simp only [Act.put, List.setIfInBounds_toArray, List.set_cons_zero, List.set_cons_succ]
          refine e_take 7 39 (.int .i64 (min lo nn)) rfl rfl (by kernel_rfl) (by kernel_rfl) (by kernel_rfl) (by kernel_rfl) (fun _ _ _ h => h) (Or.inl ⟨by rfl, fun w hw => by dsimp only at hw; obtain ⟨h0, h1⟩ := hw; go_simp⟩) hHeldnn ?_
          simp only [List.setIfInBounds_toArray, List.set_cons_zero, List.set_cons_succ]
          refine wpAnyE_ready (rs := [12]) (by kernel_rfl) (by simp) ?_
          refine AllReadyE.cons rfl (fun K hK => ?_) AllReadyE.nil
          go_simp
          have cc : ((w5.drew.alloc (.cells #[.int .i64 nn] 3)).alloc (.cells #[.int .i64 (-nn)] 3)).cell? ⟨w5.heap.size, 0, none⟩ = some (.int .i64 (nn)) := cell_old (cell_new' rfl rfl)
          refine (greatest_any (hi) (nn) cc).mono ?_
          rintro e w6 ⟨rfl, rfl⟩
          dsimp only
          refine hK.out _ _ (fun _ => hHeldnn) (fun _ => ?_)
          clear hK cc
          try simp only [Act.put, List.setIfInBounds_toArray, List.set_cons_zero, List.set_cons_succ]
          refine e_take 13 45 (.agg #[.int .i64 (min lo nn), .int .i64 (max hi nn)]) rfl rfl (by kernel_rfl) (by kernel_rfl) (by kernel_rfl) (by kernel_rfl) (fun _ _ _ h => h) (Or.inl ⟨by rfl, fun w hw => by dsimp only at hw; obtain ⟨h0, h1⟩ := hw; go_simp⟩) hHeldnn ?_
          simp only [List.setIfInBounds_toArray, List.set_cons_zero, List.set_cons_succ]
          obtain ⟨W6, hW6⟩ : ∃ W6, W6 = ((w5.drew.alloc (.cells #[.int .i64 nn] 3)).alloc (.cells #[.int .i64 (-nn)] 3)) := ⟨_, rfl⟩
          have hb6 : Below V1.heap.size V1 W6 := by rw [hW6]; (repeat' (first | exact Below.refl _ _ | assumption | with_reducible refine bdrew ?_ | with_reducible refine balloc ?_ _ | with_reducible refine bset ?_ _ _ (by first | omega | (simp; done) | (simp; omega) | (dsimp only; omega)) | with_reducible refine bb ?_ (by assumption)))
          rw [← hW6]
          clear hW6
          have HB6 := Lib.hid hb6
          have r6 := row_below hb6 K6.out zz3
          have c0 : W6.cell? ⟨w1.heap.size + 1, 0, none⟩ = some (.int .i64 lo) := cell_row' (i := 0) r6 rfl
          have c1 : W6.cell? ⟨w1.heap.size + 1, 1, none⟩ = some (.int .i64 hi) := cell_row' (i := 1) r6 rfl
          have f0 : W6.frozen? ⟨w1.heap.size + 1, 0, none⟩ = false := frozen_of_row _ _ 0 _ _ r6
          have f1 : W6.frozen? ⟨w1.heap.size + 1, 1, none⟩ = false := frozen_of_row _ _ 1 _ _ r6
          clear hb6 r6
          refine wpAnyE_ready (rs := [14]) (by kernel_rfl) (by simp) ?_
          refine AllReadyE.cons rfl (fun K hK => ?_) AllReadyE.nil
          go_simp
          refine hK.out _ _ (fun h => absurd rfl h) (fun _ => ?_)
          clear hK
          try simp only [Act.put, List.setIfInBounds_toArray, List.set_cons_zero, List.set_cons_succ]
          refine wpAnyE_done (by kernel_rfl) ?_ _
          exact HFIN.out W6 HB6.out
    · have HO := Lib.hid (show wholeS l cs = ((0, 0), 11) by unfold wholeS; rw [if_pos ok, if_neg hin])
      rw [HO.out]
      have hin' : l.isCut 0 cs = false := by simpa using hin
      rw [hin'] at HR
      clear hin hin'
      go_enter Tryd.func28, Tryd.ntmps28
      go_wp2_with fail
      refine (asked_no H.out _ _ HR.out).mono ?_
      rintro e w1 ⟨rfl, hb1⟩
      obtain ⟨hc1, hf1⟩ := bcell hb1
      have hz1 : w.heap.size + 1 + 1 < w1.heap.size := by have := hb1.size; simp at this; omega
      have hz2 : w.heap.size + 1 < w1.heap.size := by omega
      have HB := Lib.hid (bb hB hb1)
      clear hb1
      unfold zeroLog
      go_wp2_with fail
      refine bodyPost_ret (v := .tuple #[.agg #[.int .i64 0, .int .i64 0], .int .i64 11]) (by simp [results, Tryd.results28, go_sem, hc1, hz1]) rfl ⟨rfl, ?_⟩
      have hbx := HB.out
      (repeat' (first | exact Below.refl _ _ | assumption | with_reducible refine bdrew ?_ | with_reducible refine balloc ?_ _ | with_reducible refine bset ?_ _ _ (by first | omega | (simp; done) | (simp; omega) | (dsimp only; omega)) | with_reducible refine bb ?_ (by assumption)))
  · have hB := (((Below.refl _ w).alloc (Nat.le_refl _) (.cells #[.slice A l.long.length c, .int .i64 l.size, .slice B l.knots.length d] 25)).alloc (by simp) (.cells #[.slice C cs.length n] 22)).alloc (by simp; omega) (.cells #[.int .i64 0, .int .i64 0] 39)
    have H := Lib.hid (h.below hB)
    have HO := Lib.hid (show wholeS l cs = ((0, 0), 10) from if_neg ok)
    clear h he hC
    rw [HO.out]
    go_enter Tryd.func28, Tryd.ntmps28
    go_wp2_with fail
    refine (asked_bad H.out _ _ ok).mono ?_
    rintro e w1 ⟨rfl, hb1⟩
    obtain ⟨hc1, hf1⟩ := bcell hb1
    have hz1 : w.heap.size + 1 + 1 < w1.heap.size := by have := hb1.size; simp at this; omega
    have hz2 : w.heap.size + 1 < w1.heap.size := by omega
    have HB := Lib.hid (bb hB hb1)
    clear hb1
    unfold zeroLog
    go_wp2_with fail
    refine bodyPost_ret (v := .tuple #[.agg #[.int .i64 0, .int .i64 0], .int .i64 10]) (by simp [results, Tryd.results28, go_sem, hc1, hz1]) rfl ⟨rfl, ?_⟩
    have hbx := HB.out
    (repeat' (first | exact Below.refl _ _ | assumption | with_reducible refine bdrew ?_ | with_reducible refine balloc ?_ _ | with_reducible refine bset ?_ _ _ (by first | omega | (simp; done) | (simp; omega) | (dsimp only; omega)) | with_reducible refine bb ?_ (by assumption)))
end Go.Proofs.YtigofgdmefobaaaDoor.Peel

/- Leaving a function whose deferred calls are several marks, each of a range over a function in a round of a loop. -/
set_option linter.unusedVariables false
namespace Go.Proofs.YtigofgdmefobaaaDoor.Iter
open Go.RowKit
def markOf (r : Nat) : Deferred := { target := .collected r, args := #[] }
/-- The deferred calls are marks of blocks from B on, each of which still stands. -/
structure MarksIn (B : Nat) (rs : List Nat) (W : World) : Prop where
  nd : rs.Nodup
  low : ∀ r, r ∈ rs → B ≤ r
  stands : ∀ r, r ∈ rs → W.heap[r]? = some (.deferred (some []))
theorem MarksIn.lt {B : Nat} {rs : List Nat} {W : World} (h : MarksIn B rs W) {r : Nat} (hr : r ∈ rs) : r < W.heap.size := (Array.getElem?_eq_some_iff.1 (h.stands r hr)).1
theorem MarksIn.nil (B : Nat) (W : World) : MarksIn B [] W := ⟨List.nodup_nil, by simp, by simp⟩
theorem MarksIn.mono {B : Nat} {rs : List Nat} {W W' : World} (h : MarksIn B rs W) (hs : ∀ r, r ∈ rs → W'.heap[r]? = W.heap[r]?) : MarksIn B rs W' := ⟨h.nd, h.low, fun r hr => (hs r hr).trans (h.stands r hr)⟩
theorem MarksIn.cons {B : Nat} {rs : List Nat} {W : World} (h : MarksIn B rs W) {r : Nat} (hn : r ∉ rs) (hB : B ≤ r) (hr : W.heap[r]? = some (.deferred (some []))) : MarksIn B (r :: rs) W :=
  ⟨List.nodup_cons.2 ⟨hn, h.nd⟩, fun x hx => by rcases List.mem_cons.1 hx with rfl | hx; exact hB; exact h.low x hx, fun x hx => by rcases List.mem_cons.1 hx with rfl | hx; exact hr; exact h.stands x hx⟩
theorem leaves_marks {F : Fence} {n : Nat} {P : Program} {fn : Func} {tmps : Array Value} {R : Ending → World → Prop} {B : Nat} {v : Value} (hres : ∀ w, (results fn tmps).run P w = .ok v w) :
    ∀ (rs : List Nat) (W : World), MarksIn B rs W → (∀ W', Below B W W' → R (.returned v) W') → LeavesInM F n P fn tmps R (rs.map markOf) .returning W := by
  intro rs
  induction rs with
  | nil => intro W _ h; exact ⟨v, hres W, h W (Below.refl _ W)⟩
  | cons r rs ih =>
    intro W hm h
    have hr := hm.stands r (List.mem_cons_self ..)
    have hB := hm.low r (List.mem_cons_self ..)
    obtain ⟨hn, hnd⟩ := List.nodup_cons.1 hm.nd
    refine ⟨by simp, .inl ⟨r, _, rfl, run_takeDeferred hr, ?_⟩⟩
    have hb : Below B W (W.putObj r (.deferred none)) := ⟨rfl, rfl, rfl, by simp [World.putObj], fun b hb => World.putObj_heap_other (by omega)⟩
    refine ih _ ⟨hnd, fun r' hr' => hm.low r' (List.mem_cons_of_mem _ hr'), fun r' hr' => (World.putObj_heap_other ?_).trans (hm.stands r' (List.mem_cons_of_mem _ hr'))⟩ (fun W' hW' => h W' (hb.trans hW'))
    rintro rfl
    exact hn hr'
end Go.Proofs.YtigofgdmefobaaaDoor.Iter

/- Walks of package peel: Ask. -/
set_option linter.unusedVariables false
set_option linter.unusedSimpArgs false
namespace Go.Proofs.YtigofgdmefobaaaDoor.Peel
open Go.RowKit Go.Proofs.YtigofgdmefobaaaDoor.Iter
attribute [local go_sem] Oper.semAt_some
/-- The log, once a knot is found at a spot. -/
def PL.found (l : PL) (k : Nat) (s : Int × Int) : PL := { l with knots := l.knots.set k ⟨⟨s.1, s.1⟩, ⟨s.2, s.2⟩⟩ }
/-- How many pieces the best cutting has. -/
def PL.pieces (l : PL) : Int := ((l.cut l.possible).length : Int)
/-- How few pieces, at the worst, of some spots of a knot. -/
def PL.worstOf (l : PL) (k : Nat) (ss : List (Int × Int)) : Int := ss.foldl (fun n s => min n (l.found k s).pieces) l.all
def PL.worst (l : PL) (k : Nat) : Int := l.worstOf k ((l.knots.map Kn.spots).getD k [])
/-- The knot that is best to know, of the first n, and how few pieces then. -/
def PL.askF (l : PL) : Nat → Int × Int
  | 0 => (-1, 0)
  | n + 1 => if l.worst n > (l.askF n).2 ∨ (l.askF n).1 < 0 then ((n : Int), l.worst n) else l.askF n
def askS (l : PL) : Int × Int := if l.Ok then (if l.knots.length = 0 then (0, 4) else ((l.askF l.knots.length).1, 0)) else (0, 10)
theorem askF_bd (l : PL) : ∀ n, -1 ≤ (l.askF n).1 ∧ (l.askF n).1 < n ∧ (0 < n → 0 ≤ (l.askF n).1) := by
  intro n
  induction n with
  | zero => simp [PL.askF]
  | succ n ih =>
    unfold PL.askF
    split
    · refine ⟨?_, ?_, ?_⟩ <;> intros <;> dsimp only <;> omega
    · rename_i h
      refine ⟨ih.1, by omega, fun _ => by omega⟩
theorem worstOf_succ (l : PL) (k : Nat) (ss : List (Int × Int)) (i : Nat) (s : Int × Int) (h : ss[i]? = some s) : l.worstOf k (ss.take (i + 1)) = min (l.worstOf k (ss.take i)) (l.found k s).pieces := by
  obtain ⟨hi, he⟩ := List.getElem?_eq_some_iff.1 h
  unfold PL.worstOf
  rw [List.take_succ_eq_append_getElem hi, List.foldl_append, he]
  rfl
/-- A round's end, whatever is told of it. -/
def EndsIn (R : Act → World → Prop) : Exit → Act → World → Prop
  | .normal, a, w => R a w
  | _, _, _ => False
theorem seq_of {F : Fence} {n : Nat} {P : Program} {Q : Exit → Act → World → Prop} {a : Act} {w : World} {x y : Code} {R : Act → World → Prop} (hx : x.wpIn F n P (EndsIn R) a w)
    (hy : ∀ a w, R a w → y.wpIn F n P Q a w) : (Code.seq x y).wpIn F n P Q a w := by
  refine wpIn_seq (wpIn_mono hx ?_)
  rintro e a w h
  cases e with
  | normal => exact hy a w h
  | ret => exact h.elim
  | exit id => exact h.elim
  | goto t => exact h.elim
  | panic ch => exact h.elim
  | outgrown => exact h.elim
/-- The cells of several knots. -/
def cellsOf (ks : List Kn) : List Value := ks.flatMap fun x => [.int .i64 x.a.lo, .int .i64 x.a.hi, .int .i64 x.f.lo, .int .i64 x.f.hi]
theorem cellsOf_append (xs ys : List Kn) : cellsOf (xs ++ ys) = cellsOf xs ++ cellsOf ys := by simp [cellsOf]
theorem cellsOf_len (ks : List Kn) : (cellsOf ks).length = ks.length * 4 := by
  induction ks with
  | nil => rfl
  | cons x ks ih =>
    show ([_, _, _, _] ++ cellsOf ks).length = _
    rw [List.length_append, ih]
    simp
    omega
theorem cellsOf_one (ks : List Kn) : ∀ u ∈ cellsOf ks, u.oneCell' = true := by
  intro u hu
  obtain ⟨x, _, hx⟩ := List.mem_flatMap.1 hu
  simp at hx
  rcases hx with rfl | rfl | rfl | rfl <;> rfl
theorem cellsOf_get : ∀ (ks : List Kn) (j : Nat) (u : Value), (cellsOf ks)[j]? = some u → ∃ q x, ks[q]? = some x ∧ ((j = q * 4 ∧ u = .int .i64 x.a.lo) ∨ (j = q * 4 + 1 ∧ u = .int .i64 x.a.hi) ∨ (j = q * 4 + 2 ∧ u = .int .i64 x.f.lo) ∨ (j = q * 4 + 3 ∧ u = .int .i64 x.f.hi)) := by
  intro ks
  induction ks with
  | nil => intro j u h; simp [cellsOf] at h
  | cons x ks ih =>
    intro j u h
    have h : ([Value.int .i64 x.a.lo, .int .i64 x.a.hi, .int .i64 x.f.lo, .int .i64 x.f.hi] ++ cellsOf ks)[j]? = some u := h
    match j, h with
    | 0, h => exact ⟨0, x, rfl, .inl ⟨rfl, by simpa using h.symm⟩⟩
    | 1, h => exact ⟨0, x, rfl, .inr (.inl ⟨rfl, by simpa using h.symm⟩)⟩
    | 2, h => exact ⟨0, x, rfl, .inr (.inr (.inl ⟨rfl, by simpa using h.symm⟩))⟩
    | 3, h => exact ⟨0, x, rfl, .inr (.inr (.inr ⟨rfl, by simpa using h.symm⟩))⟩
    | j + 4, h =>
      obtain ⟨q, y, hy, hc⟩ := ih j u (by simpa using h)
      refine ⟨q + 1, y, by simpa using hy, ?_⟩
      rcases hc with ⟨h, e⟩ | ⟨h, e⟩ | ⟨h, e⟩ | ⟨h, e⟩
      · exact .inl ⟨by omega, e⟩
      · exact .inr (.inl ⟨by omega, e⟩)
      · exact .inr (.inr (.inl ⟨by omega, e⟩))
      · exact .inr (.inr (.inr ⟨by omega, e⟩))
theorem cellsOf_at (ks : List Kn) (q : Nat) (x : Kn) (h : ks[q]? = some x) : (cellsOf ks)[q * 4]? = some (.int .i64 x.a.lo) ∧ (cellsOf ks)[q * 4 + 1]? = some (.int .i64 x.a.hi) ∧ (cellsOf ks)[q * 4 + 2]? = some (.int .i64 x.f.lo) ∧ (cellsOf ks)[q * 4 + 3]? = some (.int .i64 x.f.hi) := by
  induction ks generalizing q with
  | nil => simp at h
  | cons y ks ih =>
    show ([Value.int .i64 y.a.lo, .int .i64 y.a.hi, .int .i64 y.f.lo, .int .i64 y.f.hi] ++ cellsOf ks)[q * 4]? = _ ∧ ([Value.int .i64 y.a.lo, .int .i64 y.a.hi, .int .i64 y.f.lo, .int .i64 y.f.hi] ++ cellsOf ks)[q * 4 + 1]? = _ ∧ ([Value.int .i64 y.a.lo, .int .i64 y.a.hi, .int .i64 y.f.lo, .int .i64 y.f.hi] ++ cellsOf ks)[q * 4 + 2]? = _ ∧ ([Value.int .i64 y.a.lo, .int .i64 y.a.hi, .int .i64 y.f.lo, .int .i64 y.f.hi] ++ cellsOf ks)[q * 4 + 3]? = _
    cases q with
    | zero => simp at h; subst h; simp
    | succ q =>
      have := ih q (by simpa using h)
      rw [show (q + 1) * 4 = q * 4 + 4 by omega]
      simpa [show q * 4 + 4 + 1 = q * 4 + 1 + 4 by omega, show q * 4 + 4 + 2 = q * 4 + 2 + 4 by omega, show q * 4 + 4 + 3 = q * 4 + 3 + 4 by omega] using this
theorem addr_add_off (b : Addr) (m n : Nat) (h : 0 < n) : b.add (m + n) = ⟨(b.add m).block, (b.add m).off + n, none⟩ := by
  unfold Addr.add
  by_cases hm : m = 0
  · subst hm
    rw [if_neg (by omega), if_pos rfl]
    simp
  · rw [if_neg (by omega), if_neg hm]
    simp [Nat.add_assoc]
theorem cells_at {w : World} {l : PL} {A : Option Addr} {b : Addr} {c d : Nat} (h : RawAt w l A (some b) c d) : ∀ (j : Nat) (u : Value), (cellsOf l.knots)[j]? = some u → w.cell? (b.add j) = some u := by
  intro j u hu
  obtain ⟨q, x, hx, hc⟩ := cellsOf_get _ _ _ hu
  obtain ⟨b', hb', h0, h1, h2, h3⟩ := h.knots q x hx
  cases hb'
  rcases hc with ⟨rfl, rfl⟩ | ⟨rfl, rfl⟩ | ⟨rfl, rfl⟩ | ⟨rfl, rfl⟩
  · exact h0
  · rw [addr_add_off _ _ _ (by omega)]; exact h1
  · rw [addr_add_off _ _ _ (by omega)]; exact h2
  · rw [addr_add_off _ _ _ (by omega)]; exact h3
theorem cur_at {cur : Array Value} {n : Nat} {xs : List Value} (h : cur.toList.take n = xs) {j : Nat} {u : Value} (hu : xs[j]? = some u) : cur[j]? = some u := by
  subst h
  rw [List.getElem?_take] at hu
  split at hu
  · simpa using hu
  · cases hu
theorem set4_at {cur : Array Value} {n : Nat} {ks : List Kn} (htake : cur.toList.take n = cellsOf ks) (k j : Nat) (s1 s2 : Int) (x : Kn) (hsz : k * 4 + 3 < cur.size) (hx : (ks.set k ⟨⟨s1, s1⟩, ⟨s2, s2⟩⟩)[j]? = some x) :
    ((((cur.setIfInBounds (k * 4) (.int .i64 s1)).setIfInBounds (k * 4 + 1) (.int .i64 s1)).setIfInBounds (k * 4 + 2) (.int .i64 s2)).setIfInBounds (k * 4 + 3) (.int .i64 s2))[j * 4]? = some (.int .i64 x.a.lo) ∧
    ((((cur.setIfInBounds (k * 4) (.int .i64 s1)).setIfInBounds (k * 4 + 1) (.int .i64 s1)).setIfInBounds (k * 4 + 2) (.int .i64 s2)).setIfInBounds (k * 4 + 3) (.int .i64 s2))[j * 4 + 1]? = some (.int .i64 x.a.hi) ∧
    ((((cur.setIfInBounds (k * 4) (.int .i64 s1)).setIfInBounds (k * 4 + 1) (.int .i64 s1)).setIfInBounds (k * 4 + 2) (.int .i64 s2)).setIfInBounds (k * 4 + 3) (.int .i64 s2))[j * 4 + 2]? = some (.int .i64 x.f.lo) ∧
    ((((cur.setIfInBounds (k * 4) (.int .i64 s1)).setIfInBounds (k * 4 + 1) (.int .i64 s1)).setIfInBounds (k * 4 + 2) (.int .i64 s2)).setIfInBounds (k * 4 + 3) (.int .i64 s2))[j * 4 + 3]? = some (.int .i64 x.f.hi) := by
  by_cases hjk : k = j
  · subst hjk
    have hlt : k < ks.length := by
      have := (List.getElem?_eq_some_iff.1 hx).1
      simpa using this
    rw [List.getElem?_set_self hlt] at hx
    cases hx
    refine ⟨?_, ?_, ?_, ?_⟩ <;> simp [Array.getElem?_setIfInBounds] <;> omega
  · rw [List.getElem?_set_ne hjk] at hx
    obtain ⟨h0, h1, h2, h3⟩ := cellsOf_at ks j x hx
    have c0 := cur_at htake h0
    have c1 := cur_at htake h1
    have c2 := cur_at htake h2
    have c3 := cur_at htake h3
    refine ⟨?_, ?_, ?_, ?_⟩
    · rw [Array.getElem?_setIfInBounds_ne (by omega), Array.getElem?_setIfInBounds_ne (by omega), Array.getElem?_setIfInBounds_ne (by omega), Array.getElem?_setIfInBounds_ne (by omega)]; exact c0
    · rw [Array.getElem?_setIfInBounds_ne (by omega), Array.getElem?_setIfInBounds_ne (by omega), Array.getElem?_setIfInBounds_ne (by omega), Array.getElem?_setIfInBounds_ne (by omega)]; exact c1
    · rw [Array.getElem?_setIfInBounds_ne (by omega), Array.getElem?_setIfInBounds_ne (by omega), Array.getElem?_setIfInBounds_ne (by omega), Array.getElem?_setIfInBounds_ne (by omega)]; exact c2
    · rw [Array.getElem?_setIfInBounds_ne (by omega), Array.getElem?_setIfInBounds_ne (by omega), Array.getElem?_setIfInBounds_ne (by omega), Array.getElem?_setIfInBounds_ne (by omega)]; exact c3
theorem found_ok {l : PL} (ok : l.Ok) {k : Nat} {kn : Kn} (hk : l.knots[k]? = some kn) {i : Nat} {s1 s2 : Int} (hs : kn.spots[i]? = some (s1, s2)) : (l.found k (s1, s2)).Ok := by
  obtain ⟨b1, b2, b3, b4⟩ := spots_bd (ok.knots kn (List.mem_of_getElem? hk)) hs
  refine ⟨ok.turns1, ok.turns, ok.size1, ok.size6, by unfold PL.found; simp only [List.length_set]; exact ok.knots3, ok.long, ok.down, fun x hx => ?_⟩
  rcases List.mem_or_eq_of_mem_set (show x ∈ l.knots.set k _ from hx) with h | rfl
  · exact ok.knots x h
  · exact ⟨⟨b1, Int.le_refl _, b2, by simp⟩, ⟨b3, Int.le_refl _, b4, by simp⟩⟩
theorem infoKnot : (Tryd.prog.info? 61).map (fun i => (i.zero, i.size, i.bytes)) = some (some (.agg #[.int .i64 0, .int .i64 0, .int .i64 0, .int .i64 0]), 4, 32) := by kernel_rfl
theorem seq_of2 {F : Fence} {n : Nat} {P : Program} {Q : Exit → Act → World → Prop} {a : Act} {w : World} {x y : Code} {Fct : Nat → World → Prop} {Wf : Nat → World → World} {A : Nat → World → Act}
    (hx : x.wpIn F n P (EndsIn fun a' W' => ∃ m2 w8, a' = A m2 w8 ∧ W' = Wf m2 w8 ∧ Fct m2 w8) a w) (hy : ∀ m2 w8, Fct m2 w8 → y.wpIn F n P Q (A m2 w8) (Wf m2 w8)) : (Code.seq x y).wpIn F n P Q a w := by
  refine seq_of hx ?_
  rintro _ _ ⟨m2, w8, rfl, rfl, h⟩
  exact hy m2 w8 h
set_option maxRecDepth 8000 in
set_option maxHeartbeats 4000000 in
theorem ask_any {w : World} {l : PL} {A B : Option Addr} {c d : Nat} (h : RawAt w l A B c d) (he : EndsAt w) :
    Calls Tryd.prog 37 #[.agg #[.slice A l.long.length c, .int .i64 l.size, .slice B l.knots.length d]] w fun e w' => e = .returned (.tuple #[.int .i64 (askS l).1, .int .i64 (askS l).2]) ∧ Below w.heap.size w w' := by
  by_cases ok : l.Ok
  · obtain ⟨a, rfl, hl⟩ := h.at ok
    have hB := (Below.refl _ w).alloc (Nat.le_refl _) (.cells #[.slice (some a) l.long.length c, .int .i64 l.size, .slice B l.knots.length d] 25)
    have rx : (w.alloc (.cells #[.slice (some a) l.long.length c, .int .i64 l.size, .slice B l.knots.length d] 25)).heap[w.heap.size]? = some (.cells #[.slice (some a) l.long.length c, .int .i64 l.size, .slice B l.knots.length d] 25 (0, 0)) := by exact rowt_
    have H := Lib.hid (hl.below hB)
    have HE := Lib.hid (he.below hB)
    have RX := Lib.hid rx
    have HOK := Lib.hid ok
    have HRAW := Lib.hid h
    have HEW := Lib.hid he
    have hd3 : l.knots.length ≤ 3 := ok.knots3
    have hdd : l.knots.length ≤ d := h.d
    have hall := all_bd ok
    clear h hl he rx
    refine callsIn_wide.1 (callsIn_of_wp_marks (n := 0) Tryd.func37 rfl trivial ?_)
    simp only [Tryd.ntmps37, List.size_toArray, List.length_cons, List.length_nil, Nat.reduceAdd, Nat.reduceSub, Array.replicate_succ, Array.replicate_zero, List.push_toArray, List.append_toArray, List.nil_append, List.cons_append]
    refine wpIn_wide.2 ?_
    go_wp2_with fail
    refine (asked_yes H.out _ _ (anything_right _ l a B c d)).mono ?_
    rintro e w1 ⟨m, rfl, hb1, hm1, hm2⟩
    have hmw : m < w1.heap.size := (Array.getElem?_eq_some_iff.1 hm1).1
    have hmz : w.heap.size + 1 ≤ m := by simpa using hm2
    have H1 := Lib.hid (H.out.below hb1)
    have HE1 := Lib.hid (HE.out.below hb1)
    have HM1 := Lib.hid (marks_new (l := l) hm1)
    have zw1 := hb1.size
    simp only [World.size_alloc] at zw1
    have RX1 := Lib.hid (row_below hb1 RX.out (by simp))
    have HB1 := Lib.hid (bb hB hb1)
    have xo := row_old (o' := .cells #[.slice (some a) l.long.length c, .int .i64 l.size, .slice B l.knots.length d, .map (some m)] 75) RX1.out
    have x2 : (w1.alloc (.cells #[.slice (some a) l.long.length c, .int .i64 l.size, .slice B l.knots.length d, .map (some m)] 75)).cell? ⟨w.heap.size, 2, none⟩ = some (.slice B l.knots.length d) := cell_row' (i := 2) xo rfl
    clear hb1 hm1 hm2 hB xo
    go_upto_region 4 with (fail)
    go_upto_region 6 with (fail)
    obtain ⟨W0, hW0⟩ : ∃ W0, W0 = w1.alloc (.cells #[.slice (some a) l.long.length c, .int .i64 l.size, .slice B l.knots.length d, .map (some m)] 75) := ⟨_, rfl⟩
    rw [← hW0]
    have z0 : W0.heap.size = w1.heap.size + 1 := by rw [hW0]; simp
    have hb0 : Below w1.heap.size w1 W0 := by rw [hW0]; exact (Below.refl _ w1).alloc (Nat.le_refl _) _
    have r4 : W0.heap[w1.heap.size]? = some (.cells #[.slice (some a) l.long.length c, .int .i64 l.size, .slice B l.knots.length d, .map (some m)] 75 (0, 0)) := by rw [hW0]; exact rowt_
    have RX0 := Lib.hid (row_below hb0 RX1.out (by omega))
    have R4 := Lib.hid r4
    have H0 := Lib.hid (H1.out.below hb0)
    have HE0 := Lib.hid (HE1.out.below hb0)
    have HB0 := Lib.hid (bb HB1.out hb0)
    clear hW0 hb0 r4 x2
    refine wp_loop_ghost_k (fun n a' W => ∃ (k : Nat) (rs : List Nat) (u8 u9 u25 u26 u27 u28 u29 u30 u31 u69 u70 u71 u72 u73 u74 u75 u76 u77 u78 : Value) (bb mm : Int), n = l.knots.length - k ∧ bb = (l.askF k).1 ∧ mm = (l.askF k).2 ∧ k ≤ l.knots.length ∧ MarksIn W0.heap.size rs W ∧ Below W0.heap.size W0 W ∧ a' = { tmps := #[.agg #[.slice (some a) l.long.length c, .int .i64 l.size, .slice B l.knots.length d], .pointer (some ⟨w.heap.size, 0, none⟩), .int .i64 0, .int .i64 0, .pointer (some ⟨w1.heap.size, 0, none⟩), .int .i64 0, .int .i64 bb, .int .i64 mm, u8, u9, undef, undef, undef, .tuple #[.agg #[.slice (some a) l.long.length c, .int .i64 l.size, .slice B l.knots.length d, .map (some m)], .int .i64 0], .agg #[.slice (some a) l.long.length c, .int .i64 l.size, .slice B l.knots.length d], .tuple #[.agg #[.slice (some a) l.long.length c, .int .i64 l.size, .slice B l.knots.length d, .map (some m)], .int .i64 0], .agg #[.slice (some a) l.long.length c, .int .i64 l.size, .slice B l.knots.length d, .map (some m)], .int .i64 0, .int .i64 0, .bool false, undef, .pointer (some ⟨w.heap.size, 2, none⟩), .slice B l.knots.length d, .int .i64 l.knots.length, .int .i64 k, u25, u26, u27, u28, u29, u30, u31, undef, undef, undef, undef, undef, undef, undef, undef, undef, undef, undef, undef, undef, undef, undef, undef, undef, undef, undef, undef, undef, undef, undef, undef, undef, undef, undef, undef, undef, undef, undef, undef, undef, undef, undef, undef, undef, u69, u70, u71, u72, u73, u74, u75, u76, u77, u78, undef, undef, undef], defers := rs.map markOf }) l.knots.length ⟨0, [], undef, undef, undef, undef, undef, undef, undef, undef, undef, undef, undef, undef, undef, undef, undef, undef, undef, undef, undef, -1, 0, by omega, rfl, rfl, by omega, MarksIn.nil _ _, Below.refl _ _, rfl⟩ ?_
    rintro r a' W ⟨k, rs, u8, u9, u25, u26, u27, u28, u29, u30, u31, u69, u70, u71, u72, u73, u74, u75, u76, u77, u78, bb, mm, rfl, rfl, rfl, hk, hmk, hbw, rfl⟩ J K hJ hK
    have HJ := Lib.hid hJ
    have zW := hbw.size
    have HMK := Lib.hid hmk
    have HBW := Lib.hid hbw
    clear hJ
    by_cases hlt : k < l.knots.length
    · go_upto_region 8 with (fail)
      obtain ⟨W1, hW1⟩ : ∃ W1, W1 = W.alloc (.cells #[.int .i64 k] 3) := ⟨_, rfl⟩
      rw [← hW1]
      have z1 : W1.heap.size = W.heap.size + 1 := by rw [hW1]; simp
      have hb1 : Below W.heap.size W W1 := by rw [hW1]; exact (Below.refl _ W).alloc (Nat.le_refl _) _
      have r8 : W1.heap[W.heap.size]? = some (.cells #[.int .i64 k] 3 (0, 0)) := by rw [hW1]; exact rowt_
      clear hW1
      have hb01 := bb HBW.out hb1
      have r41 := row_below hb01 R4.out (by omega)
      have R8 := Lib.hid r8
      have HB01 := Lib.hid hb01
      have q0 : W1.cell? ⟨w1.heap.size, 0, none⟩ = some (.slice (some a) l.long.length c) := cell_row' (i := 0) r41 rfl
      have q1 : W1.cell? ⟨w1.heap.size, 1, none⟩ = some (.int .i64 l.size) := cell_row' (i := 1) r41 rfl
      have q2 : W1.cell? ⟨w1.heap.size, 2, none⟩ = some (.slice B l.knots.length d) := cell_row' (i := 2) r41 rfl
      have q3 : W1.cell? ⟨w1.heap.size, 3, none⟩ = some (.map (some m)) := cell_row' (i := 3) r41 rfl
      have hb1z : Below W.heap.size W W1 := hb1
      clear hb01 hb1 r41 r8
      go_wp2_with fail
      refine (columns_any m ((H0.out.below HBW.out).below hb1z)).mono ?_
      rintro e w2 ⟨rfl, hb2⟩
      obtain ⟨W2, hW2⟩ : ∃ W2, W2 = w2.alloc (.cells #[.int .i64 l.all] 3) := ⟨_, rfl⟩
      have zw2 := hb2.size
      have z2 : W2.heap.size = w2.heap.size + 1 := by rw [hW2]; simp
      have hb12 : Below W1.heap.size W1 W2 := by rw [hW2]; exact hb2.alloc hb2.size _
      have r9 : W2.heap[w2.heap.size]? = some (.cells #[.int .i64 l.all] 3 (0, 0)) := by rw [hW2]; exact rowt_
      have R82 := Lib.hid (row_below hb12 R8.out (by omega))
      have c8 : W2.cell? ⟨W.heap.size, 0, none⟩ = some (.int .i64 k) := cell_row' R82.out rfl
      have p0 := cell_below hb12 q0
      have p1 := cell_below hb12 q1
      have p2 := cell_below hb12 q2
      have p3 := cell_below hb12 q3
      have R9 := Lib.hid r9
      have hb02 := bb HB01.out hb12
      have HB02 := Lib.hid hb02
      have HBW2 := Lib.hid (bb hb1z hb12)
      have H2 := Lib.hid (H0.out.below hb02)
      have HE2 := Lib.hid (HE0.out.below hb02)
      clear hb12 r9 hb02 q0 q1 q2 q3
      have HW2 := Lib.hid hW2
      clear hW2
      go_upto_region 9 with (fail)
      rw [← HW2.out]
      clear hb2 HW2
      go_wp2_with fail
      refine (spots_any H2.out HE2.out k).mono ?_
      rintro e w3 ⟨bl, bk, rfl, hb3, hneed, hbl, hbk⟩
      obtain ⟨kn, hkn⟩ : ∃ kn, l.knots[k]? = some kn := ⟨l.knots[k], by simp [hlt]⟩
      have z3 := hb3.size
      have HN := Lib.hid hneed
      have R9w := Lib.hid (row_below hb3 R9.out (by omega))
      have R8w := Lib.hid (row_below hb3 R82.out (by omega))
      have RXw := Lib.hid (row_below (bb HB02.out hb3) RX0.out (by omega))
      have HB03 := Lib.hid (bb HB02.out hb3)
      have HBW3 := Lib.hid (bb HBW2.out hb3)
      have lbl : bl < w3.heap.size := World.block_lt_of_cell? w3 _ hneed.q0
      have lbk : bk < w3.heap.size := World.block_lt_of_cell? w3 _ hneed.k
      have zz := HB0.out.size
      clear hneed hb3 p0 p1 p2 p3 c8
      go_wp2_with fail
      refine (wpIn_wide (n := 0)).1 ?_
      refine range_law (gf := 96) (lb := #[.pointer (some ⟨bl, 0, none⟩), .pointer (some ⟨bk, 0, none⟩)]) rfl (enters_of Tryd.func96 (by kernel_rfl) rfl)
        (spots_yields l a B c d m bl bk k kn hkn) (fun _ => rfl) (fun i T V => V.heap[w2.heap.size]? = some (.cells #[.int .i64 (l.worstOf k (kn.spots.take i))] 3 (0, 0)) ∧ LoopsM w3.heap.size (fun b => b = w2.heap.size) w3 T V)
        ?hI (fun b h => h.elim) HN.out (fun V V' hV hsz hs => HN.out.far hV (hs.below hsz (fun b hb h => by omega))) (fun V hV => ⟨?h0a, ?h0c⟩) ?hround ?hdone
      case hI =>
        rintro i T T' V V' ⟨hr, hl⟩ hs hT
        exact ⟨hl.obj hs (by omega) (by omega) hr, hl.abides hs hT⟩
      case h0a => exact row_below hV R9w.out (by omega)
      case h0c => exact ⟨fun b h => by rcases h with h | h | h; exact h.elim; exact .inl h; exact .inr (by omega), Ext.below hV, fun b hb _ _ => hV.block b hb⟩
      case hdone =>
        rintro D V ⟨hr, hl⟩ hneed hDa hDb hK2
        rw [List.take_length] at hr
        have zV := hl.ext.size
        have hworst : l.worst k = l.worstOf k kn.spots := by unfold PL.worst; simp [List.getD_eq_getElem?_getD, hkn]
        rw [← hworst] at hr
        have hwV : w3.heap.size < V.heap.size := (Array.getElem?_eq_some_iff.1 hK2).1
        have x9 : V.cell? ⟨w2.heap.size, 0, none⟩ = some (.int .i64 (l.worst k)) := cell_row' hr rfl
        have r8V : V.heap[W.heap.size]? = some (.cells #[.int .i64 k] 3 (0, 0)) := (hl.same _ (by omega) (by omega) (by show ¬ _ = _; omega)).trans R8w.out
        have x8 : V.cell? ⟨W.heap.size, 0, none⟩ = some (.int .i64 k) := cell_row' r8V rfl
        have hbV : Below W0.heap.size W0 V := by
          refine HB03.out.trans ⟨hl.ext.os, hl.ext.tape, hl.ext.output, hl.ext.size, fun b hb => hl.same b (by omega) (by omega) (by show ¬ _ = _; omega)⟩
        have hmV : MarksIn W0.heap.size (w3.heap.size :: rs) V := by
          refine MarksIn.cons (HMK.out.mono fun r hr' => ?_) (fun hr' => by have := HMK.out.lt hr'; omega) (by omega) hK2
          have hlr := HMK.out.lt hr'
          have h1 : w3.heap[r]? = W.heap[r]? := HBW3.out.block r hlr
          exact (hl.same r (by omega) (by omega) (by show ¬ _ = _; omega)).trans h1
        have HBV := Lib.hid hbV
        have HMV := Lib.hid hmV
        clear hl hneed hK2 hr r8V hbV hmV hworst
        gi_wp2
        by_cases h1 : (l.askF k).2 < l.worst k
        · have HS := Lib.hid (show l.askF (k + 1) = ((k : Int), l.worst k) from if_pos (.inl h1))
          go_wp2_with fail
          go_region_held3 (fun w' => w'.cell? ⟨w2.heap.size, 0, none⟩ = some (.int .i64 (l.worst k)) ∧ w'.cell? ⟨W.heap.size, 0, none⟩ = some (.int .i64 k)) (go_keep) (fail)
          all_goals go_wp2_with fail
          all_goals exact ⟨l.knots.length - (k + 1), by omega, HJ.out _ _ _ ⟨k + 1, w3.heap.size :: rs, _, _, _, _, _, _, _, _, _, _, _, _, _, _, _, _, _, _, _, _, _, rfl, (by rw [HS.out]), (by rw [HS.out]), by omega, (by exact HMV.out.mono fun _ _ => rfl), (by exact HBV.out.drew), rfl⟩⟩
        · by_cases h2 : (l.askF k).1 < 0
          · have HS := Lib.hid (show l.askF (k + 1) = ((k : Int), l.worst k) from if_pos (.inr h2))
            go_wp2_with fail
            go_region_held3 (fun w' => w'.cell? ⟨w2.heap.size, 0, none⟩ = some (.int .i64 (l.worst k)) ∧ w'.cell? ⟨W.heap.size, 0, none⟩ = some (.int .i64 k)) (go_keep) (fail)
            all_goals go_wp2_with fail
            all_goals exact ⟨l.knots.length - (k + 1), by omega, HJ.out _ _ _ ⟨k + 1, w3.heap.size :: rs, _, _, _, _, _, _, _, _, _, _, _, _, _, _, _, _, _, _, _, _, _, rfl, (by rw [HS.out]), (by rw [HS.out]), by omega, (by exact HMV.out.mono fun _ _ => rfl), (by exact HBV.out.drew), rfl⟩⟩
          · have HS := Lib.hid (show l.askF (k + 1) = l.askF k from if_neg (fun h => h.elim h1 h2))
            go_wp2_with fail
            exact ⟨l.knots.length - (k + 1), by omega, HJ.out _ _ _ ⟨k + 1, w3.heap.size :: rs, _, _, _, _, _, _, _, _, _, _, _, _, _, _, _, _, _, _, _, _, _, rfl, (by rw [HS.out]), (by rw [HS.out]), by omega, HMV.out, HBV.out, rfl⟩⟩
      case hround =>
        rintro i s D V hx hVsz ⟨hr, hl⟩ hneed hDa hDb hDbd
        obtain ⟨s1, s2⟩ := s
        dsimp only [spotV]
        rw [put_one]
        simp only [List.setIfInBounds_toArray, List.set_cons_succ, List.set_cons_zero]
        gi_wp2
        obtain ⟨V0, hV0⟩ : ∃ V0, V0 = V.alloc (.cells #[.int .i64 s1, .int .i64 s2] 102) := ⟨_, rfl⟩
        have hV1 : Below V.heap.size V V0 := by rw [hV0]; exact (Below.refl _ V).alloc (Nat.le_refl _) _
        have k4 : V0.heap[V.heap.size]? = some (.cells #[.int .i64 s1, .int .i64 s2] 102 (0, 0)) := by rw [hV0]; exact rowt_
        have zV0 : V0.heap.size = V.heap.size + 1 := by rw [hV0]; simp
        rw [← hV0]
        clear hV0
        refine ⟨hV1, fun V1 hst1 => ?_⟩
        have zw3 : w3.heap.size ≤ V.heap.size := hl.ext.size
        have k7 := hst1.obj k4 (by omega)
        have hs01 : Stays (fun b => b = w2.heap.size ∨ w3.heap.size ≤ b) V V1 := (Stays.of_below hV1).trans (hst1.mono fun b _ h => .inr (by omega))
        have hfar : Below w.heap.size w3 V1 := (show Below w.heap.size w3 V from ⟨hl.ext.os, hl.ext.tape, hl.ext.output, hl.ext.size, fun b hb => hl.same b (by omega) (by omega) (by show ¬ _ = _; omega)⟩).trans (hs01.below (by omega) (fun b hb h => by rcases h with h | h <;> omega))
        have hraw : RawAt V1 l (some a) B c d := HRAW.out.below (HB0.out.trans ((HB03.out.mono (by omega)).trans hfar))
        have hends : EndsAt V1 := HEW.out.below (HB0.out.trans ((HB03.out.mono (by omega)).trans hfar))
        have hsame : ∀ b, b < w3.heap.size → b ≠ w2.heap.size → V1.heap[b]? = w3.heap[b]? := fun b hb hn => (hs01.block b (by omega) (fun h => by rcases h with h | h <;> omega)).trans (hl.same b hb (by omega) hn)
        have rx := (hsame w.heap.size (by omega) (by omega)).trans RXw.out
        have r8 := (hsame W.heap.size (by omega) (by omega)).trans R8w.out
        have r9 : V1.heap[w2.heap.size]? = some (.cells #[.int .i64 (l.worstOf k (kn.spots.take i))] 3 (0, 0)) := hst1.obj (row_below hV1 hr (by omega)) (by omega)
        have x0 : V1.cell? ⟨w.heap.size, 0, none⟩ = some (.slice (some a) l.long.length c) := cell_row' (i := 0) rx rfl
        have x1 : V1.cell? ⟨w.heap.size, 1, none⟩ = some (.int .i64 l.size) := cell_row' (i := 1) rx rfl
        have x2 : V1.cell? ⟨w.heap.size, 2, none⟩ = some (.slice B l.knots.length d) := cell_row' (i := 2) rx rfl
        have hfin : ∀ w11, Below V1.heap.size V1 w11 → ((w11.setCell ⟨w2.heap.size, 0, none⟩ (.int .i64 (min (l.worstOf k (kn.spots.take i)) (l.found k (s1, s2)).pieces))).heap[w2.heap.size]? = some (.cells #[.int .i64 (l.worstOf k (kn.spots.take (i + 1)))] 3 (0, 0)) ∧ LoopsM w3.heap.size (fun b => b = w2.heap.size) w3 D (w11.setCell ⟨w2.heap.size, 0, none⟩ (.int .i64 (min (l.worstOf k (kn.spots.take i)) (l.found k (s1, s2)).pieces)))) ∧ Keeps D V1 (w11.setCell ⟨w2.heap.size, 0, none⟩ (.int .i64 (min (l.worstOf k (kn.spots.take i)) (l.found k (s1, s2)).pieces))) ∧ SpotsNeed l a B c d m bl bk k (w11.setCell ⟨w2.heap.size, 0, none⟩ (.int .i64 (min (l.worstOf k (kn.spots.take i)) (l.found k (s1, s2)).pieces))) := by
          intro w11 hb11
          have hrow : (w11.setCell ⟨w2.heap.size, 0, none⟩ (.int .i64 (min (l.worstOf k (kn.spots.take i)) (l.found k (s1, s2)).pieces))).heap[w2.heap.size]? = some (.cells #[.int .i64 (l.worstOf k (kn.spots.take (i + 1)))] 3 (0, 0)) := by
            rw [worstOf_succ l k _ i _ hx]
            exact blk_set (row_below hb11 r9 (Array.getElem?_eq_some_iff.1 r9).1) 0 _
          obtain ⟨W', hW'⟩ : ∃ W', W' = w11.setCell ⟨w2.heap.size, 0, none⟩ (.int .i64 (min (l.worstOf k (kn.spots.take i)) (l.found k (s1, s2)).pieces)) := ⟨_, rfl⟩
          have hs : Stays (fun b => b = w2.heap.size) V1 W' := by rw [hW']; exact (Stays.of_below hb11).trans (stays_setCell (T := fun b => b = w2.heap.size) _ ⟨w2.heap.size, 0, none⟩ _ rfl)
          rw [← hW'] at hrow ⊢
          have hsV : Stays (fun b => b = w2.heap.size ∨ w3.heap.size ≤ b) V W' := hs01.trans (hs.mono fun b _ h => .inl h)
          have hb0 : Below W0.heap.size V W' := hsV.below (by omega) (fun b hb h => by rcases h with h | h <;> omega)
          have hcell : ∀ bb o' v, W2.heap.size ≤ bb → bb < w3.heap.size → V.cell? ⟨bb, o', none⟩ = some v → W'.cell? ⟨bb, o', none⟩ = some v := fun bb o' v h1 h2 hv => by
            rw [← hv]
            exact World.cell?_of_block (hsV.block bb (by omega) (fun h => by rcases h with h | h <;> omega))
          exact ⟨⟨hrow, hl.round hsV⟩, Keeps.of_stays hs (fun b hb hD => by rcases hl.t b hD with h | h <;> omega), ⟨H0.out.far hneed.log hb0, HE0.out.far hneed.ends hb0, hcell _ 0 _ hbl lbl hneed.q0, hcell _ 1 _ hbl lbl hneed.q1, hcell _ 2 _ hbl lbl hneed.q2, hcell _ 3 _ hbl lbl hneed.q3, hcell _ 0 _ hbk lbk hneed.k⟩⟩
        have HFIN := Lib.hid hfin
        have HRAW1 := Lib.hid hraw
        have HENDS1 := Lib.hid hends
        have zV1 : V0.heap.size ≤ V1.heap.size := hst1.ext.size
        try simp only [Act.put, List.setIfInBounds_toArray, List.set_cons_succ, List.set_cons_zero]
        refine wpIn_block ?_
        apply seq_of (R := fun a' W' => a' = _ ∧ W' = _)
        · gi_wp2
          exact ⟨rfl, rfl⟩
        rintro _ _ ⟨rfl, rfl⟩
        obtain ⟨V2, hV2⟩ : ∃ V2, V2 = V1.alloc (.cells #[.slice (some a) l.long.length c, .int .i64 l.size, .slice B l.knots.length d] 25) := ⟨_, rfl⟩
        rw [← hV2]
        have hb2 : Below V1.heap.size V1 V2 := by rw [hV2]; exact (Below.refl _ V1).alloc (Nat.le_refl _) _
        have ry : V2.heap[V1.heap.size]? = some (.cells #[.slice (some a) l.long.length c, .int .i64 l.size, .slice B l.knots.length d] 25 (0, 0)) := by rw [hV2]; exact rowt_
        have zV2 : V2.heap.size = V1.heap.size + 1 := by rw [hV2]; simp
        have HV2 := Lib.hid hV2
        have HB2 := Lib.hid hb2
        have c8 : V2.cell? ⟨W.heap.size, 0, none⟩ = some (.int .i64 k) := cell_row' (row_below hb2 r8 (by omega)) rfl
        have cx : V2.cell? ⟨w.heap.size, 2, none⟩ = some (.slice B l.knots.length d) := cell_below hb2 x2
        have cy : V2.cell? ⟨V1.heap.size, 2, none⟩ = some (.slice B l.knots.length d) := cell_row' (i := 2) ry rfl
        clear hV2 x0 x1 x2
        obtain ⟨b, rfl, hbk0, hbk1, hbk2, hbk3⟩ := hraw.knots k kn hkn
        obtain ⟨i1, hi1, hz10, hz11, hz12⟩ := info_parts infoKnot
        have hundK := Tryd.underlying23
        refine wpIn_seq ?_
        refine region_e_in 11 (fun w' => w'.cell? ⟨w.heap.size, 2, none⟩ = some (.slice (some b) l.knots.length d) ∧ w'.cell? ⟨W.heap.size, 0, none⟩ = some (.int .i64 k)) (by kernel_rfl) (by kernel_rfl) (by rintro ⟨a, w, h⟩; exact h) ⟨cx, c8⟩ (fun hHeld => ?_)
        refine e_take 0 34 (.pointer (some ⟨w.heap.size, 2, none⟩)) rfl rfl (by kernel_rfl) (by kernel_rfl) (by kernel_rfl) (by kernel_rfl) (fun _ _ _ h => h) (Or.inl ⟨by rfl, fun w hw => by dsimp only at hw; obtain ⟨h0, h1⟩ := hw; go_simp⟩) hHeld ?_
        simp only [List.setIfInBounds_toArray, List.set_cons_zero, List.set_cons_succ]
        refine e_take 1 35 (.slice (some b) l.knots.length d) rfl rfl (by kernel_rfl) (by kernel_rfl) (by kernel_rfl) (by kernel_rfl) (fun _ _ _ h => h) (Or.inl ⟨by rfl, fun w hw => by dsimp only at hw; obtain ⟨h0, h1⟩ := hw; go_simp⟩) hHeld ?_
        simp only [List.setIfInBounds_toArray, List.set_cons_zero, List.set_cons_succ]
        refine e_take 2 36 (.int .i64 k) rfl rfl (by kernel_rfl) (by kernel_rfl) (by kernel_rfl) (by kernel_rfl) (fun _ _ _ h => h) (Or.inl ⟨by rfl, fun w hw => by dsimp only at hw; obtain ⟨h0, h1⟩ := hw; go_simp⟩) hHeld ?_
        simp only [List.setIfInBounds_toArray, List.set_cons_zero, List.set_cons_succ]
        refine e_take 5 39 (.pointer (some ⟨w.heap.size, 2, none⟩)) rfl rfl (by kernel_rfl) (by kernel_rfl) (by kernel_rfl) (by kernel_rfl) (fun _ _ _ h => h) (Or.inl ⟨by rfl, fun w hw => by dsimp only at hw; obtain ⟨h0, h1⟩ := hw; go_simp⟩) hHeld ?_
        simp only [List.setIfInBounds_toArray, List.set_cons_zero, List.set_cons_succ]
        refine e_take 6 40 (.slice (some b) l.knots.length d) rfl rfl (by kernel_rfl) (by kernel_rfl) (by kernel_rfl) (by kernel_rfl) (fun _ _ _ h => h) (Or.inl ⟨by rfl, fun w hw => by dsimp only at hw; obtain ⟨h0, h1⟩ := hw; go_simp⟩) hHeld ?_
        simp only [List.setIfInBounds_toArray, List.set_cons_zero, List.set_cons_succ]
        refine e_take 7 41 (.int .i64 k) rfl rfl (by kernel_rfl) (by kernel_rfl) (by kernel_rfl) (by kernel_rfl) (fun _ _ _ h => h) (Or.inl ⟨by rfl, fun w hw => by dsimp only at hw; obtain ⟨h0, h1⟩ := hw; go_simp⟩) hHeld ?_
        simp only [List.setIfInBounds_toArray, List.set_cons_zero, List.set_cons_succ]
        refine e_take 3 37 (.slice (some b) k d) rfl rfl (by kernel_rfl) (by kernel_rfl) (by kernel_rfl) (by kernel_rfl) (fun _ _ _ h => h) (Or.inl ⟨by rfl, fun w hw => by dsimp only at hw; obtain ⟨h0, h1⟩ := hw; go_simp; exact fun h => absurd h (by omega)⟩) hHeld ?_
        simp only [List.setIfInBounds_toArray, List.set_cons_zero, List.set_cons_succ]
        refine e_take 8 42 (.slice (some (b.add (k * 4))) (l.knots.length - k) (d - k)) rfl rfl (by kernel_rfl) (by kernel_rfl) (by kernel_rfl) (by kernel_rfl) (fun _ _ _ h => h) (Or.inl ⟨by rfl, fun w hw => by dsimp only at hw; obtain ⟨h0, h1⟩ := hw; go_simp; exact fun h => absurd h (by omega)⟩) hHeld ?_
        simp only [List.setIfInBounds_toArray, List.set_cons_zero, List.set_cons_succ]
        refine wpAnyE_ready (rs := [4]) (by kernel_rfl) (by simp) ?_
        refine AllReadyE.cons rfl (fun K hK => ?_) AllReadyE.nil
        rw [if_pos (by rfl)]
        refine wp_append_own _ (.const (.slice none 0 0)) (.tmp 37) 23 rfl V2.heap.size 61 i1 _ 4 32 hundK hi1 hz10 hz11 hz12 rfl (by decide) _ 0 [] rfl (World.ownsRow_nil _ _ _ _) b k d (cellsOf (l.knots.take k)) rfl (by rw [cellsOf_len]; simp; omega) (fun j u hu => cells_at (hraw.below (by exact hb2.drew)) j u (by rw [← List.take_append_drop k l.knots, cellsOf_append, List.getElem?_append_left (by obtain ⟨h', _⟩ := List.getElem?_eq_some_iff.1 hu; exact h')]; exact hu)) (cellsOf_one _) (by simp [maxLen]; omega) (by omega) (Nat.le_refl _) ?_
        intro v1 w4 hown1 hgr1 hnil1
        change K { tmps := Array.setIfInBounds _ 38 v1, defers := [] } w4
        have hb4 : Below V2.heap.size V2 w4 := ⟨hgr1.os, hgr1.tape, hgr1.output, hgr1.size, fun j hj => hgr1.block j hj (by show some j ≠ none; simp)⟩
        refine hK.out _ _ (fun _ => ⟨cell_below hb4 cx, cell_below hb4 c8⟩) (fun hHeld4 => ?_)
        have hHeld4 := hHeld4 (by decide)
        clear hK hnil1
        simp only [List.setIfInBounds_toArray, List.set_cons_zero, List.set_cons_succ]
        refine wpAnyE_ready (rs := [9]) (by kernel_rfl) (by simp) ?_
        refine AllReadyE.cons rfl (fun K hK => ?_) AllReadyE.nil
        rw [if_pos (by rfl)]
        refine wp_append_own _ (.tmp 38) (.tmp 42) 23 rfl V2.heap.size 61 i1 _ 4 32 hundK hi1 hz10 hz11 hz12 rfl (by decide) _ (0 + k) _ rfl hown1 (b.add (k * 4)) (l.knots.length - k) (d - k) (cellsOf (l.knots.drop k)) rfl (by rw [cellsOf_len]; simp) (fun j u hu => by
          rw [Addr.add_add]
          refine cells_at ((hraw.below hb2).below hb4) _ u ?_
          rw [← List.take_append_drop k l.knots, cellsOf_append, List.getElem?_append_right (by rw [cellsOf_len]; simp; omega), cellsOf_len, ← hu]
          congr 1
          simp
          omega) (cellsOf_one _) (by simp [maxLen]; omega) (by omega) hb4.size ?_
        intro v2 w5 hown2 hgr2 hnil2
        change K { tmps := Array.setIfInBounds _ 43 v2, defers := [] } w5
        have hb5 : Below V2.heap.size V2 w5 := hb4.trans ⟨hgr2.os, hgr2.tape, hgr2.output, hgr2.size, fun j hj => hgr2.block j (Nat.lt_of_lt_of_le hj hb4.size) (fun e => by have := hown1.lt j e.symm; omega)⟩
        have hlen' : (l.found k (s1, s2)).knots.length = l.knots.length := by unfold PL.found; simp
        obtain ⟨g, cap, cur, rfl, hg0, hgrow, hncap, hcapm, hcursz, htake⟩ : ∃ g cap cur, v2 = .slice (some ⟨g, 0, none⟩) (l.found k (s1, s2)).knots.length cap ∧ V2.heap.size ≤ g ∧ w5.heap[g]? = some (.cells cur 61 (0, 0)) ∧ l.knots.length ≤ cap ∧ cap ≤ maxLen ∧ cur.size = cap * 4 ∧ cur.toList.take (l.knots.length * 4) = cellsOf l.knots := by
          rcases hown2.2 with ⟨_, h0⟩ | ⟨g, cap, cur, e, h0, h1, h2, h3, h4, h5⟩
          · omega
          · refine ⟨g, cap, cur, by rw [e, hlen']; congr 1; omega, h0, h1, by omega, h3, h4, ?_⟩
            rw [show l.knots.length * 4 = (0 + k + (l.knots.length - k)) * 4 by omega, h5, List.nil_append, ← cellsOf_append, List.take_append_drop]
        refine hK.out _ _ (fun _ => ⟨cell_below hb5 cx, cell_below hb5 c8⟩) (fun hHeld5 => ?_)
        have hHeld5 := hHeld5 (by decide)
        clear hK hnil2 hHeld hHeld4 hown1 hgr1 hown2 hgr2
        simp only [List.setIfInBounds_toArray, List.set_cons_zero, List.set_cons_succ]
        refine e_take 10 44 (.pointer (some ⟨V1.heap.size, 2, none⟩)) rfl rfl (by kernel_rfl) (by kernel_rfl) (by kernel_rfl) (by kernel_rfl) (fun _ _ _ h => h) (Or.inl ⟨by rfl, fun w hw => by dsimp only at hw; obtain ⟨h0, h1⟩ := hw; go_simp⟩) hHeld5 ?_
        simp only [List.setIfInBounds_toArray, List.set_cons_zero, List.set_cons_succ]
        refine wpAnyE_ready (rs := [11]) (by kernel_rfl) (by simp) ?_
        refine AllReadyE.cons rfl (fun K hK => ?_) AllReadyE.nil
        have ry5 := row_below hb5 ry (by omega)
        have cy5 : w5.cell? ⟨V1.heap.size, 2, none⟩ = some (.slice (some b) l.knots.length d) := cell_row' (i := 2) ry5 rfl
        have fy5 : w5.frozen? ⟨V1.heap.size, 2, none⟩ = false := frozen_of_row _ _ 2 _ _ ry5
        go_simp
        refine hK.out _ _ (fun h => absurd rfl h) (fun _ => ?_)
        clear hK
        try simp only [Act.put, List.setIfInBounds_toArray, List.set_cons_zero, List.set_cons_succ]
        refine wpAnyE_done (by kernel_rfl) ?_ _
        obtain ⟨w6, hw6⟩ : ∃ w6, w6 = w5.setCell ⟨V1.heap.size, 2, none⟩ (.slice (some ⟨g, 0, none⟩) l.knots.length cap) := ⟨_, rfl⟩
        have ry6 : w6.heap[V1.heap.size]? = some (.cells #[.slice (some a) l.long.length c, .int .i64 l.size, .slice (some ⟨g, 0, none⟩) l.knots.length cap] 25 (0, 0)) := by rw [hw6]; exact blk_set ry5 2 _
        have hg6 : w6.heap[g]? = some (.cells cur 61 (0, 0)) := by rw [hw6]; exact (heap_put (by dsimp only; omega)).trans hgrow
        have hb6 : Below V1.heap.size V1 w6 := by rw [hw6]; exact (bb hb2 hb5).setCell (Nat.le_refl _) _
        rw [← hw6]
        have hkc := cellsOf_at l.knots k kn hkn
        have g0 : w6.cell? ⟨g, k * 4, none⟩ = some (.int .i64 kn.a.lo) := cell_row' hg6 (cur_at htake hkc.1)
        have g1 : w6.cell? ⟨g, k * 4 + 1, none⟩ = some (.int .i64 kn.a.hi) := cell_row' hg6 (cur_at htake hkc.2.1)
        have g2 : w6.cell? ⟨g, k * 4 + 2, none⟩ = some (.int .i64 kn.f.lo) := cell_row' hg6 (cur_at htake hkc.2.2.1)
        have g3 : w6.cell? ⟨g, k * 4 + 3, none⟩ = some (.int .i64 kn.f.hi) := cell_row' hg6 (cur_at htake hkc.2.2.2)
        have fg : ∀ j, w6.frozen? ⟨g, j, none⟩ = false := fun j => frozen_of_row _ _ j _ _ hg6
        have y2 : w6.cell? ⟨V1.heap.size, 2, none⟩ = some (.slice (some ⟨g, 0, none⟩) l.knots.length cap) := cell_row' (i := 2) ry6 rfl
        have c86 : w6.cell? ⟨W.heap.size, 0, none⟩ = some (.int .i64 k) := cell_row' (row_below hb6 r8 (by omega)) rfl
        have t0 : w6.cell? ⟨V.heap.size, 0, none⟩ = some (.int .i64 s1) := cell_row' (i := 0) (row_below hb6 k7 (by omega)) rfl
        have t1 : w6.cell? ⟨V.heap.size, 1, none⟩ = some (.int .i64 s2) := cell_row' (i := 1) (row_below hb6 k7 (by omega)) rfl
        clear hw6 hkc hHeld5 cx cy c8 hgrow ry5 cy5 fy5 hb5 hb4 hraw hends hsame hfar hst1 hs01 hbk0 hbk1 hbk2 hbk3 hi1 hz10 hz11 hz12 hundK
        show Code.wpIn _ _ _ _ _ _ _
        apply seq_of (R := fun a' W' => a' = _ ∧ W' = _)
        · gi_wp2
          exact ⟨rfl, rfl⟩
        rintro _ _ ⟨rfl, rfl⟩
        obtain ⟨w7, hw7⟩ : ∃ w7, w7 = (((w6.setCell ⟨g, k * 4, none⟩ (.int .i64 s1)).setCell ⟨g, k * 4 + 1, none⟩ (.int .i64 s1)).setCell ⟨g, k * 4 + 2, none⟩ (.int .i64 s2)).setCell ⟨g, k * 4 + 3, none⟩ (.int .i64 s2) := ⟨_, rfl⟩
        have hg7 : w7.heap[g]? = some (.cells ((((cur.setIfInBounds (k * 4) (.int .i64 s1)).setIfInBounds (k * 4 + 1) (.int .i64 s1)).setIfInBounds (k * 4 + 2) (.int .i64 s2)).setIfInBounds (k * 4 + 3) (.int .i64 s2)) 61 (0, 0)) := by
          rw [hw7]; exact blk_set (blk_set (blk_set (blk_set hg6 _ _) _ _) _ _) _ _
        have hb7 : Below V1.heap.size V1 w7 := by
          rw [hw7]
          exact (((hb6.setCell (p := ⟨g, k * 4, none⟩) (by dsimp only; omega) _).setCell (p := ⟨g, k * 4 + 1, none⟩) (by dsimp only; omega) _).setCell (p := ⟨g, k * 4 + 2, none⟩) (by dsimp only; omega) _).setCell (p := ⟨g, k * 4 + 3, none⟩) (by dsimp only; omega) _
        have ry7 : w7.heap[V1.heap.size]? = some (.cells #[.slice (some a) l.long.length c, .int .i64 l.size, .slice (some ⟨g, 0, none⟩) l.knots.length cap] 25 (0, 0)) := by
          rw [hw7, heap_put (by dsimp only; omega), heap_put (by dsimp only; omega), heap_put (by dsimp only; omega), heap_put (by dsimp only; omega)]
          exact ry6
        rw [← hw7]
        have hraw7 : RawAt w7 (l.found k (s1, s2)) (some a) (some ⟨g, 0, none⟩) c cap := by
          have h7 := HRAW1.out.below hb7
          refine ⟨h7.long, fun j x hx' => ⟨_, rfl, ?_⟩, h7.c, by rw [hlen']; exact hncap, h7.n, by rw [hlen']; exact h7.m⟩
          obtain ⟨e0, e1, e2, e3⟩ := set4_at htake k j s1 s2 x (by rw [hcursz]; omega) hx'
          simp only [Addr.add_lit, Nat.zero_add]
          exact ⟨cell_row' hg7 e0, cell_row' hg7 e1, cell_row' hg7 e2, cell_row' hg7 e3⟩
        have ok' := found_ok HOK.out hkn hx
        obtain ⟨a', ea, hlog7⟩ := hraw7.at ok'
        cases ea
        have hends7 := HENDS1.out.below hb7
        have y0 : w7.cell? ⟨V1.heap.size, 0, none⟩ = some (.slice (some a) l.long.length c) := cell_row' (i := 0) ry7 rfl
        have y1 : w7.cell? ⟨V1.heap.size, 1, none⟩ = some (.int .i64 l.size) := cell_row' (i := 1) ry7 rfl
        have y2 : w7.cell? ⟨V1.heap.size, 2, none⟩ = some (.slice (some ⟨g, 0, none⟩) l.knots.length cap) := cell_row' (i := 2) ry7 rfl
        clear g0 g1 g2 g3 fg c86 t0 t1 hg6 hw7 hg7 ry6 hraw7 htake
        apply seq_of2 (Wf := fun m2 w8 => w8.alloc (.cells #[.slice (some a) l.long.length c, .int .i64 l.size, .slice (some ⟨g, 0, none⟩) l.knots.length cap, .map (some m2)] 75)) (Fct := fun m2 w8 => Below w7.heap.size w7 w8 ∧ w8.heap[m2]? = some (.map #[] 0) ∧ w7.heap.size ≤ m2)
        · gi_wp2
          refine ⟨trivial, rfl, ?_⟩
          refine (CallsIn.inRound _ (callsIn_wide.2 (opened_any _ _ _ _ _ _ _ _))).mono ?_
          rintro e w8 ⟨m2, rfl, hb8, hm8, hms⟩
          gi_wp2
          exact ⟨m2, w8, rfl, rfl, hb8, hm8, hms⟩
        rintro m2 w8 ⟨hb8, hm8, hms⟩
        obtain ⟨w9, hw9⟩ : ∃ w9, w9 = w8.alloc (.cells #[.slice (some a) l.long.length c, .int .i64 l.size, .slice (some ⟨g, 0, none⟩) l.knots.length cap, .map (some m2)] 75) := ⟨_, rfl⟩
        have hb89 : Below w8.heap.size w8 w9 := by rw [hw9]; exact (Below.refl _ w8).alloc (Nat.le_refl _) _
        have r12 : w9.heap[w8.heap.size]? = some (.cells #[.slice (some a) l.long.length c, .int .i64 l.size, .slice (some ⟨g, 0, none⟩) l.knots.length cap, .map (some m2)] 75 (0, 0)) := by rw [hw9]; exact rowt_
        have hm9 : w9.heap[m2]? = some (.map #[] 0) := row_below hb89 hm8 (Array.getElem?_eq_some_iff.1 hm8).1
        rw [← hw9]
        have hb79 := bb hb8 hb89
        have hb19 := bb hb7 hb79
        have hlog9 := hlog7.below hb79
        have hends9 := hends7.below hb79
        have hm9' : MarksAt (l.found k (s1, s2)) m2 w9 := marks_new hm9
        have z9 := hb19.size
        have zm : V1.heap.size ≤ m2 := Nat.le_trans hb7.size hms
        have q0 : w9.cell? ⟨w8.heap.size, 0, none⟩ = some (.slice (some a) l.long.length c) := cell_row' (i := 0) r12 rfl
        have q1 : w9.cell? ⟨w8.heap.size, 1, none⟩ = some (.int .i64 l.size) := cell_row' (i := 1) r12 rfl
        have q2 : w9.cell? ⟨w8.heap.size, 2, none⟩ = some (.slice (some ⟨g, 0, none⟩) l.knots.length cap) := cell_row' (i := 2) r12 rfl
        have q3 : w9.cell? ⟨w8.heap.size, 3, none⟩ = some (.map (some m2)) := cell_row' (i := 3) r12 rfl
        have lt9 : w2.heap.size < V1.heap.size := (Array.getElem?_eq_some_iff.1 r9).1
        have c9 : w9.cell? ⟨w2.heap.size, 0, none⟩ = some (.int .i64 (l.worstOf k (kn.spots.take i))) := cell_row' (row_below hb19 r9 lt9) rfl
        have HR9 := Lib.hid r9
        clear hw9 hb8 hb89 hb79 r12 hm8 hm9 hlog7 hends7 y0 y1 y2 ry r8 r9 rx hb7 hb6 hb2
        obtain ⟨wi, hwi⟩ : ∃ wi, wi = l.worstOf k (kn.spots.take i) := ⟨_, rfl⟩
        rw [← hwi] at c9
        have HWI := Lib.hid hwi
        clear hwi
        refine region_e_in 7 (fun w' => w'.cell? ⟨w8.heap.size, 0, none⟩ = some (.slice (some a) l.long.length c) ∧ w'.cell? ⟨w8.heap.size, 1, none⟩ = some (.int .i64 l.size) ∧ w'.cell? ⟨w8.heap.size, 2, none⟩ = some (.slice (some ⟨g, 0, none⟩) l.knots.length cap) ∧ w'.cell? ⟨w8.heap.size, 3, none⟩ = some (.map (some m2)) ∧ w'.cell? ⟨w2.heap.size, 0, none⟩ = some (.int .i64 wi)) (by kernel_rfl) (by kernel_rfl) (by rintro ⟨a, w, h⟩; exact h) ⟨q0, q1, q2, q3, c9⟩ (fun hHeld => ?_)
        refine e_take 0 62 (.int .i64 wi) rfl rfl (by kernel_rfl) (by kernel_rfl) (by kernel_rfl) (by kernel_rfl) (fun _ _ _ h => h) (Or.inl ⟨by rfl, fun w hw => by dsimp only at hw; obtain ⟨h0, h1, h2, h3, h4⟩ := hw; go_simp⟩) hHeld ?_
        simp only [List.setIfInBounds_toArray, List.set_cons_zero, List.set_cons_succ]
        refine e_take 1 63 (.agg #[.slice (some a) l.long.length c, .int .i64 l.size, .slice (some ⟨g, 0, none⟩) l.knots.length cap, .map (some m2)]) rfl rfl (by kernel_rfl) (by kernel_rfl) (by kernel_rfl) (by kernel_rfl) (fun _ _ _ h => h) (Or.inl ⟨by rfl, fun w hw => by dsimp only at hw; obtain ⟨h0, h1, h2, h3, h4⟩ := hw; go_simp⟩) hHeld ?_
        simp only [List.setIfInBounds_toArray, List.set_cons_zero, List.set_cons_succ]
        refine e_take 2 64 (.agg #[.slice (some a) l.long.length c, .int .i64 l.size, .slice (some ⟨g, 0, none⟩) l.knots.length cap, .map (some m2)]) rfl rfl (by kernel_rfl) (by kernel_rfl) (by kernel_rfl) (by kernel_rfl) (fun _ _ _ h => h) (Or.inl ⟨by rfl, fun w hw => by dsimp only at hw; obtain ⟨h0, h1, h2, h3, h4⟩ := hw; go_simp⟩) hHeld ?_
        simp only [List.setIfInBounds_toArray, List.set_cons_zero, List.set_cons_succ]
        refine wpAnyE_ready (rs := [3]) (by kernel_rfl) (by simp) ?_
        refine AllReadyE.cons rfl (fun K hK => ?_) AllReadyE.nil
        go_simp
        have hp := possible_any (hlog9.below (by exact (Below.refl _ w9).drew)) (hends9.below (by exact (Below.refl _ w9).drew)) (hm9'.below (by exact (Below.refl _ w9).drew))
        rw [hlen'] at hp
        refine hp.mono ?_
        clear hp
        rintro e w10 ⟨rfl, htu, hmk2⟩
        dsimp only
        have hkept := cellsKept_turned (hm9'.below (by exact (Below.refl _ w9).drew)) htu
        have hb110 : Below V1.heap.size V1 w10 := (turned_new (hb19.drew) htu zm)
        refine hK.out _ _ (fun _ => ⟨hkept _ _ hHeld.1, hkept _ _ hHeld.2.1, hkept _ _ hHeld.2.2.1, hkept _ _ hHeld.2.2.2.1, hkept _ _ hHeld.2.2.2.2⟩) (fun hHeld2 => ?_)
        have hHeld2 := hHeld2 (by decide)
        clear hK
        try simp only [Act.put, List.setIfInBounds_toArray, List.set_cons_zero, List.set_cons_succ]
        refine wpAnyE_ready (rs := [4]) (by kernel_rfl) (by simp) ?_
        refine AllReadyE.cons rfl (fun K hK => ?_) AllReadyE.nil
        go_simp
        have hp := cut_any m2 ((hlog9.below (by exact (Below.refl _ w9).drew)).kept hkept) (l.found k (s1, s2)).possible
        rw [hlen'] at hp
        refine hp.mono ?_
        clear hp
        rintro e w11 ⟨ao, cv, rfl, hbc, hcut, hnil⟩
        dsimp only
        have hb111 : Below V1.heap.size V1 w11 := bb hb110 hbc
        refine hK.out _ _ (fun _ => ⟨cell_below hbc hHeld2.1, cell_below hbc hHeld2.2.1, cell_below hbc hHeld2.2.2.1, cell_below hbc hHeld2.2.2.2.1, cell_below hbc hHeld2.2.2.2.2⟩) (fun hHeld3 => ?_)
        have hHeld3 := hHeld3 (by decide)
        clear hK
        try simp only [Act.put, List.setIfInBounds_toArray, List.set_cons_zero, List.set_cons_succ]
        refine e_take 5 67 (.int .i64 (l.found k (s1, s2)).pieces) rfl rfl (by kernel_rfl) (by kernel_rfl) (by kernel_rfl) (by kernel_rfl) (fun _ _ _ h => h) (Or.inl ⟨by rfl, fun w hw => by go_simp; rfl⟩) hHeld3 ?_
        simp only [List.setIfInBounds_toArray, List.set_cons_zero, List.set_cons_succ]
        refine e_take 6 68 (.int .i64 (min wi (l.found k (s1, s2)).pieces)) rfl rfl (by kernel_rfl) (by kernel_rfl) (by kernel_rfl) (by kernel_rfl) (fun _ _ _ h => h) (Or.inl ⟨by rfl, fun w hw => by go_simp; split <;> omega⟩) hHeld3 ?_
        simp only [List.setIfInBounds_toArray, List.set_cons_zero, List.set_cons_succ]
        refine wpAnyE_ready (rs := [7]) (by kernel_rfl) (by simp) ?_
        refine AllReadyE.cons rfl (fun K hK => ?_) AllReadyE.nil
        have r11 := row_below hb111 HR9.out lt9
        have c11 := hHeld3.2.2.2.2
        have f11 : w11.frozen? ⟨w2.heap.size, 0, none⟩ = false := frozen_of_row _ _ 0 _ _ r11
        go_simp
        refine hK.out _ _ (fun h => absurd rfl h) (fun _ => ?_)
        clear hK
        try simp only [Act.put, List.setIfInBounds_toArray, List.set_cons_zero, List.set_cons_succ]
        refine wpAnyE_done (by kernel_rfl) ?_ _
        rw [HWI.out]
        exact HFIN.out w11 hb111
    · have hke : k = l.knots.length := by omega
      have bd := askF_bd l k
      subst hke
      by_cases h0 : l.knots.length = 0
      · have hneg : (l.askF l.knots.length).1 < 0 := by rw [h0]; simp [PL.askF]
        have HO := Lib.hid (show askS l = (0, 4) by unfold askS; rw [if_pos HOK.out, if_pos h0])
        go_wp2_with fail
        refine leaves_marks (B := W0.heap.size) (v := .tuple #[.int .i64 0, .int .i64 4]) (fun w => by simp [results, Tryd.results37, go_sem]) rs W HMK.out (fun W' hW' => ⟨by rw [HO.out], HB0.out.trans ((HBW.out.trans hW').mono HB0.out.size)⟩)
      · have hneg : ¬ (l.askF l.knots.length).1 < 0 := by have := bd.2.2 (by omega); omega
        have HO := Lib.hid (show askS l = ((l.askF l.knots.length).1, 0) by unfold askS; rw [if_pos HOK.out, if_neg h0])
        go_wp2_with fail
        refine leaves_marks (B := W0.heap.size) (v := .tuple #[.int .i64 (l.askF l.knots.length).1, .int .i64 0]) (fun w => by simp [results, Tryd.results37, go_sem]) rs W HMK.out (fun W' hW' => ⟨by rw [HO.out], HB0.out.trans ((HBW.out.trans hW').mono HB0.out.size)⟩)
  · have hB := (Below.refl _ w).alloc (Nat.le_refl _) (.cells #[.slice A l.long.length c, .int .i64 l.size, .slice B l.knots.length d] 25)
    have H := Lib.hid (h.below hB)
    have HO := Lib.hid (show askS l = (0, 10) from if_neg ok)
    clear h he
    rw [HO.out]
    go_enter Tryd.func37, Tryd.ntmps37
    go_wp2_with fail
    refine (asked_bad H.out _ _ ok).mono ?_
    rintro e w1 ⟨rfl, hb1⟩
    have HB := Lib.hid (bb hB hb1)
    clear hb1
    unfold zeroLog
    go_wp2_with fail
    go_ret2
    exact ⟨rfl, (HB.out.alloc HB.out.size _)⟩
end Go.Proofs.YtigofgdmefobaaaDoor.Peel
