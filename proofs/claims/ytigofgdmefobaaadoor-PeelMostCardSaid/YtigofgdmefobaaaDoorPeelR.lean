/- Walks of package peel: the iterator of truths, knot by knot. -/
import Derived.Test.YtigofgdmefobaaaDoorPeelQ
set_option linter.unusedVariables false
set_option linter.unusedSimpArgs false
namespace Go.Proofs.YtigofgdmefobaaaDoor.Peel
open Go.RowKit Go.Proofs.YtigofgdmefobaaaDoor.Iter
attribute [local go_sem] Oper.semAt_some

/-- The captured yield, and the captured function itself. -/
structure OnAt (L bl by_ bo : Nat) (w : World) : Prop where
  y : w.cell? ⟨by_, 0, none⟩ = some (.func (.yield L) #[] #[])
  o : w.cell? ⟨bo, 0, none⟩ = some (.func (.func 88) #[] #[.pointer (some ⟨bl, 0, none⟩), .pointer (some ⟨by_, 0, none⟩), .pointer (some ⟨bo, 0, none⟩)])
theorem OnAt.below {L bl by_ bo : Nat} {w w1 : World} (h : OnAt L bl by_ bo w) (hb : Below w.heap.size w w1) : OnAt L bl by_ bo w1 := ⟨cell_below hb h.y, cell_below hb h.o⟩
theorem OnAt.keeps {L bl by_ bo : Nat} {T : Nat → Prop} {w w1 : World} (h : OnAt L bl by_ bo w) (hk : Keeps T w w1) (h1 : T by_) (h2 : T bo) : OnAt L bl by_ bo w1 := ⟨keeps_cell hk h1 h.y, keeps_cell hk h2 h.o⟩
/-- What a call of 'on' comes to. -/
structure OnPost (J : Nat → (Nat → Prop) → World → Prop) (need : World → Prop) (L bl by_ bo m n : Nat) (T : Nat → Prop) (W : World) (e : Ending) (W' : World) : Prop where
  e : e = .returned (.bool true)
  need : need W'
  at_ : OnAt L bl by_ bo W'
  keeps : Keeps (fun b => T b ∧ b ≠ m) W W'
  j : ∃ T', J n T' W' ∧ (∀ b, T b → T' b) ∧ ∀ b, T' b → b < W'.heap.size
abbrev ribV (r : Nat → Bool) : Array Value := #[.agg (rv r)]
theorem spots_bd {x : Kn} {n : Int} (h : x.Ok n) {i : Nat} {s1 s2 : Int} (hs : x.spots[i]? = some (s1, s2)) : 0 ≤ s1 ∧ s1 ≤ 23 ∧ 0 ≤ s2 ∧ s2 ≤ n := by
  have hi : i < x.many := by
    have := (List.getElem?_eq_some_iff.1 hs).1
    rwa [x.spots_len] at this
  rw [x.spots_get i hi] at hs
  have hc := h.cases
  obtain ⟨⟨a1, a2, a3, a4⟩, ⟨b1, b2, b3, b4⟩⟩ := h
  have e1 : x.a.n = x.a.hi - x.a.lo + 1 := rfl
  have e2 : x.f.n = x.f.hi - x.f.lo + 1 := rfl
  unfold Kn.many at hi
  unfold Kn.spot at hs
  injection hs with hs
  rw [Prod.mk.injEq] at hs
  obtain ⟨h1, h2⟩ := hs
  obtain ⟨g1 | g1 | g1 | g1, g2 | g2⟩ := hc <;> rw [g1] at h1 h2 e1 hi <;> rw [g2] at e2 hi <;> simp at hi <;> omega
theorem ne_of_cell_map {w : World} {p : Addr} {v : Value} {m c : Nat} {es : Array MapEntry} (h : w.cell? p = some v) (hm : w.heap[m]? = some (.map es c)) : p.block ≠ m := by
  intro e
  rw [← e] at hm
  simp [World.cell?, hm] at h
/-- What lies in cells stays. -/
def CellsKept (w w1 : World) : Prop := ∀ p v, w.cell? p = some v → w1.cell? p = some v
theorem cellsKept_turned {l : PL} {m : Nat} {w w1 : World} (hm : MarksAt l m w) (h : Turned m w w1) : CellsKept w w1 := by
  obtain ⟨es, c, hm, _⟩ := hm
  intro p v hv
  rw [← hv]
  exact World.cell?_of_block (h.block p.block (World.block_lt_of_cell? w p hv) (ne_of_cell_map hv hm))
theorem LogAt.kept {w w1 : World} {l : PL} {a : Addr} {B : Option Addr} {c d : Nat} (h : LogAt w l a B c d) (hk : CellsKept w w1) : LogAt w1 l a B c d where
  ok := h.ok
  long := fun k hk' => hk _ _ (h.long k hk')
  knots := fun k x hx => by
    obtain ⟨b, e, h1, h2, h3, h4⟩ := h.knots k x hx
    exact ⟨b, e, hk _ _ h1, hk _ _ h2, hk _ _ h3, hk _ _ h4⟩
  c := h.c
  d := h.d
theorem TruthsNeed.turned {l : PL} {a : Addr} {B : Option Addr} {c d m bl : Nat} {w w1 : World} (h : TruthsNeed l a B c d m bl w) (ht : Turned m w w1) (hm : MarksAt l m w1) : TruthsNeed l a B c d m bl w1 :=
  have hk := cellsKept_turned h.marks ht
  ⟨h.log.kept hk, ⟨hk _ _ h.ends.e0, hk _ _ h.ends.e1⟩, hk _ _ h.q0, hk _ _ h.q1, hk _ _ h.q2, hk _ _ h.q3, hm⟩
theorem flatMap_at {α β : Type} (f : α → List β) : ∀ (ss : List α) (i : Nat) (s : α), ss[i]? = some s → ((ss.take (i + 1)).flatMap f).length = ((ss.take i).flatMap f).length + (f s).length ∧ (∀ j, j < (f s).length → ((ss.take i).flatMap f).length + j < (ss.flatMap f).length ∧ (ss.flatMap f)[((ss.take i).flatMap f).length + j]? = (f s)[j]?) := by
  intro ss
  induction ss with
  | nil => intro i s h; simp at h
  | cons a ss ih =>
    intro i s h
    cases i with
    | zero =>
      simp at h
      subst h
      refine ⟨by simp, fun j hj => ⟨by simp; omega, ?_⟩⟩
      simp [List.getElem?_append_left hj]
    | succ i =>
      have := ih i s (by simpa using h)
      obtain ⟨h1, h2⟩ := this
      refine ⟨by simp only [List.take_succ_cons, List.flatMap_cons, List.length_append, h1]; omega, fun j hj => ?_⟩
      obtain ⟨h3, h4⟩ := h2 j hj
      simp only [List.take_succ_cons, List.flatMap_cons, List.length_append]
      refine ⟨by omega, ?_⟩
      rw [List.getElem?_append_right (by omega), ← h4]
      congr 1
      omega
/-- One ribbon over another, up to a column. -/
def orTo (r s : Nat → Bool) (k : Nat) : Nat → Bool := fun i => r i || (decide (i < k) && s i)
theorem orTo_zero (r s : Nat → Bool) : orTo r s 0 = r := by funext i; simp [orTo]
theorem orTo_succ (r s : Nat → Bool) (k i : Nat) : orTo r s (k + 1) i = if i = k then (orTo r s k i || s k) else orTo r s k i := by
  unfold orTo
  by_cases h : i = k
  · subst h; simp
  · have : (i < k + 1) = (i < k) := by simp; omega
    simp [h, this]
theorem orTo_all (r s : Nat → Bool) : rv (orTo r s 72) = rv (fun i => r i || s i) := rv_congr fun i hi => by simp [orTo, hi]
/-- How many truths there are for the first spots of a knot. -/
def PL.upto (l : PL) (ks : List Kn) (x : Kn) (r : Nat → Bool) (i : Nat) : Nat := ((x.spots.take i).flatMap fun s => l.truths ks fun j => r j || l.mark s j).length
/-- What holds while the spots of a knot are gone through. -/
structure OnRange (J : Nat → (Nat → Prop) → World → Prop) (need : World → Prop) (L bl by_ bo m n : Nat) (l : PL) (ks : List Kn) (x : Kn) (r : Nat → Bool) (T0 : Nat → Prop) (w : World) (i : Nat) (T : Nat → Prop) (W : World) : Prop where
  j : ∃ TJ, J (n + l.upto ks x r i) TJ W ∧ (∀ b, TJ b → b < W.heap.size) ∧ (∀ b, b < W.heap.size → T b → TJ b) ∧ ∀ b, T0 b → TJ b
  t : ∀ b, T b → w.heap.size ≤ b
  size : w.heap.size ≤ W.heap.size
  need : need W
  at_ : OnAt L bl by_ bo W
  keeps : Keeps (fun b => T0 b ∧ b ≠ m) w W
theorem onRange_abides {J : Nat → (Nat → Prop) → World → Prop} (hJ : Iter.Abides J) {l : PL} {a : Addr} {B : Option Addr} {c d m bl by_ bo L n : Nat} {ks : List Kn} {x : Kn} {r : Nat → Bool} {T0 : Nat → Prop} {w : World} (hN : TruthsNeed l a B c d m bl w) (hO : OnAt L bl by_ bo w) (hT0 : ∀ b, T0 b → b < w.heap.size) :
    Iter.Abides (OnRange J (TruthsNeed l a B c d m bl) L bl by_ bo m n l ks x r T0 w) := by
  rintro i T T' W W' ⟨⟨TJ, hj, hb, ht, h0⟩, hT, hsz, hneed, hat, hk⟩ hs hT'
  have hbel : Below w.heap.size W W' := hs.below hsz (fun b hb h => by have := hT b h; omega)
  refine ⟨⟨fun b => TJ b ∨ (W.heap.size ≤ b ∧ b < W'.heap.size), hJ _ TJ _ W W' hj (hs.mono ht) (fun b hb hn h => by rcases h with h | h; exact hn h; omega), ?_, ?_, fun b h => .inl (h0 b h)⟩, ?_, Nat.le_trans hsz hs.ext.size, hN.far hneed hbel, ⟨cell_far hO.y hat.y hbel, cell_far hO.o hat.o hbel⟩, ?_⟩
  · intro b h
    rcases h with h | h
    · exact Nat.lt_of_lt_of_le (hb b h) hs.ext.size
    · exact h.2
  · intro b hb' h
    rcases Nat.lt_or_ge b W.heap.size with hlt | hge
    · refine .inl (ht b hlt ?_)
      exact Classical.byContradiction fun hn => hT' b hlt hn h
    · exact .inr ⟨hge, hb'⟩
  · intro b h
    rcases Nat.lt_or_ge b W.heap.size with hlt | hge
    · exact hT b (Classical.byContradiction fun hn => hT' b hlt hn h)
    · omega
  · exact hk.trans (Keeps.of_stays hs fun b hb h hn => by have := hT b hn; have := hT0 b h.1; omega)
set_option maxRecDepth 8000 in
set_option maxHeartbeats 4000000 in
theorem on_base (l : PL) (a : Addr) (B : Option Addr) (c d m bl by_ bo L : Nat) (J : Nat → (Nat → Prop) → World → Prop) (hJ : Iter.Abides J) (xs : List (Nat → Bool))
    (hY : ∀ n x T W1, xs[n]? = some x → J n T W1 → TruthsNeed l a B c d m bl W1 → (∀ b, T b → b < W1.heap.size) → YieldAt Fence.wide 0 Tryd.prog L (ribV x) W1 fun e W2 => e = .returned (.bool true) ∧ J (n + 1) T W2 ∧ Keeps T W1 W2 ∧ TruthsNeed l a B c d m bl W2)
    (r : Nat → Bool) (n : Nat) (T : Nat → Prop) (W : World) (hx : xs[n]? = some r) (h0 : J n T W) (hT : ∀ b, T b → b < W.heap.size) (hty : T by_) (hto : T bo) (hN : TruthsNeed l a B c d m bl W) (hO : OnAt L bl by_ bo W) :
    Calls Tryd.prog 88 #[.int .i64 l.knots.length, .agg (rv r), .pointer (some ⟨bl, 0, none⟩), .pointer (some ⟨by_, 0, none⟩), .pointer (some ⟨bo, 0, none⟩)] W (OnPost J (TruthsNeed l a B c d m bl) L bl by_ bo m (n + 1) T W) := by
  have q2 := hN.q2
  have lt2 : bl < W.heap.size := World.block_lt_of_cell? W _ q2
  have oy := hO.y
  have lt3 : by_ < W.heap.size := World.block_lt_of_cell? W _ oy
  have hkl := hN.log.ok.knots3
  have hB := (((Below.refl _ W).alloc (Nat.le_refl _) (.cells #[.int .i64 l.knots.length] 3)).alloc (by simp) (.cells (rv r) 86)).alloc (by simp; omega) (.cells #[.bool false] 4)
  have q2' := cell_below hB q2
  have HN := Lib.hid hN
  have HO := Lib.hid hO
  have HB := Lib.hid hB
  have HY := Lib.hid hY
  have HJ := Lib.hid hJ
  have H0 := Lib.hid h0
  have HX := Lib.hid hx
  have HT := Lib.hid hT
  clear hN hO hB hY hJ h0 hx hT
  go_enter Tryd.func88, Tryd.ntmps88
  go_upto_region 2 with (first | ((with_reducible refine gate_box 86 rfl ?_); refine ev_box_rib rfl _ rfl r rfl ?_))
  obtain ⟨T1, hT1⟩ : ∃ T1 : Nat → Prop, T1 = fun b => T b ∨ b = W.heap.size ∨ b = W.heap.size + 1 ∨ b = W.heap.size + 1 + 1 := ⟨_, rfl⟩
  obtain ⟨W1, hW1⟩ : ∃ W1, W1 = ((W.alloc (.cells #[.int .i64 l.knots.length] 3)).alloc (.cells (rv r) 86)).alloc (.cells #[.bool false] 4) := ⟨_, rfl⟩
  have z1 : W1.heap.size = W.heap.size + 3 := by rw [hW1]; simp
  have r6 : W1.heap[W.heap.size + 1]? = some (.cells (rv r) 86 (0, 0)) := by rw [hW1]; (repeat (first | with_reducible assumption | with_reducible exact row_new | with_reducible refine row_drew ?_ | with_reducible apply row_same | with_reducible refine row_diff ?_ (by first | omega | (simp only [World.size_alloc, size_setRow, size_drew', World.size_setCell]; omega)) | with_reducible refine row_far ?_ (by (try dsimp only); first | omega | (simp only [World.size_alloc, size_setRow, size_drew', World.size_setCell]; omega)) | with_reducible refine row_new' (by first | (simp only [World.size_alloc, size_setRow, size_drew', World.size_setCell]; done) | omega | (simp only [World.size_alloc, size_setRow, size_drew', World.size_setCell]; omega)) | with_reducible refine row_old ?_ | with_reducible refine row_below (by assumption) ?_ (by first | omega | (simp only [World.size_alloc, size_setRow, size_drew', World.size_setCell]; omega))))
  have r7 : W1.heap[W.heap.size + 1 + 1]? = some (.cells #[.bool false] 4 (0, 0)) := by rw [hW1]; (repeat (first | with_reducible assumption | with_reducible exact row_new | with_reducible refine row_drew ?_ | with_reducible apply row_same | with_reducible refine row_diff ?_ (by first | omega | (simp only [World.size_alloc, size_setRow, size_drew', World.size_setCell]; omega)) | with_reducible refine row_far ?_ (by (try dsimp only); first | omega | (simp only [World.size_alloc, size_setRow, size_drew', World.size_setCell]; omega)) | with_reducible refine row_new' (by first | (simp only [World.size_alloc, size_setRow, size_drew', World.size_setCell]; done) | omega | (simp only [World.size_alloc, size_setRow, size_drew', World.size_setCell]; omega)) | with_reducible refine row_old ?_ | with_reducible refine row_below (by assumption) ?_ (by first | omega | (simp only [World.size_alloc, size_setRow, size_drew', World.size_setCell]; omega))))
  have oy1 : W1.cell? ⟨by_, 0, none⟩ = some (.func (.yield L) #[] #[]) := by rw [hW1]; exact cell_below HB.out oy
  have hB1 := HB.out
  rw [← hW1] at hB1
  have HB1 := Lib.hid hB1
  have hJ1 : J n T1 W1 := HJ.out n T T1 W W1 H0.out (Stays.of_below HB1.out) (fun b hb hn h => by rw [hT1] at h; rcases h with h | h | h | h; exact hn h; omega; omega; omega)
  have hbd : ∀ b, T1 b → b < W1.heap.size := fun b h => by rw [hT1] at h; rcases h with h | h | h | h; (have := HT.out b h; omega); omega; omega; omega
  obtain ⟨fn, tmps, assign, body, hy, hR⟩ := HY.out n r T1 W1 HX.out hJ1 (HN.out.below HB1.out) hbd
  have HBD := Lib.hid hbd
  dsimp only [ribV] at hy
  rw [← hW1]
  clear hW1 hB1 hJ1 hbd oy q2 q2' HB
  refine (wpIn_wide (n := 0)).1 ?_
  gi_wp2_with (first | ((with_reducible refine gate_load_in 86 rfl ?_); refine ev_load_rib_in rfl _ rfl _ rfl r (by (repeat (first | with_reducible assumption | with_reducible exact row_new | with_reducible refine row_drew ?_ | with_reducible apply row_same | with_reducible refine row_diff ?_ (by first | omega | (simp only [World.size_alloc, size_setRow, size_drew', World.size_setCell]; omega)) | with_reducible refine row_far ?_ (by (try dsimp only); first | omega | (simp only [World.size_alloc, size_setRow, size_drew', World.size_setCell]; omega)) | with_reducible refine row_new' (by first | (simp only [World.size_alloc, size_setRow, size_drew', World.size_setCell]; done) | omega | (simp only [World.size_alloc, size_setRow, size_drew', World.size_setCell]; omega)) | with_reducible refine row_old ?_ | with_reducible refine row_below (by assumption) ?_ (by first | omega | (simp only [World.size_alloc, size_setRow, size_drew', World.size_setCell]; omega))))) ?_))
  refine ⟨rfl, hR.mono ?_⟩
  rintro e W2 ⟨rfl, hJ2, hk2, hN2⟩
  have t7 : T1 (W.heap.size + 1 + 1) := by rw [hT1]; exact .inr (.inr (.inr rfl))
  have s7 := hk2.obj r7 t7
  have hO2 : OnAt L bl by_ bo W2 := ((HO.out.below HB1.out).keeps hk2 (by rw [hT1]; exact .inl hty) (by rw [hT1]; exact .inl hto))
  have x0 : W2.cell? ⟨W.heap.size + 1 + 1, 0, none⟩ = some (.bool false) := cell_row' s7 rfl
  have x1 : W2.frozen? ⟨W.heap.size + 1 + 1, 0, none⟩ = false := frozen_of_row W2 _ 0 _ _ s7
  have hsz := hk2.ext.size
  have HJ2 := Lib.hid hJ2
  have HK2 := Lib.hid hk2
  have HN2 := Lib.hid hN2
  have HO2 := Lib.hid hO2
  have S7 := Lib.hid s7
  clear hJ2 hk2 hN2 hO2 s7 r6 r7 oy1
  gi_wp2
  go_wp2_with fail
  have hst : Stays T1 W2 (W2.setCell ⟨W.heap.size + 1 + 1, 0, none⟩ (.bool true)) := stays_setCell W2 _ _ t7
  have hb2 : Below W.heap.size W2 (W2.setCell ⟨W.heap.size + 1 + 1, 0, none⟩ (.bool true)) := (Below.refl _ W2).setCell (by simp; omega) _
  have y0 : (W2.setCell ⟨W.heap.size + 1 + 1, 0, none⟩ (.bool true)).cell? ⟨W.heap.size + 1 + 1, 0, none⟩ = some (.bool true) := cset_same (some_of x0)
  refine bodyPost_ret (v := .bool true) (by simp [results, Tryd.results88, go_sem, y0]) rfl ?_
  refine ⟨rfl, HN.out.far HN2.out hb2, ⟨cell_far HO.out.y HO2.out.y hb2, cell_far HO.out.o HO2.out.o hb2⟩, ⟨(Ext.below HB1.out).trans (HK2.out.ext.trans hst.ext), fun b hb hTb => ?_⟩, T1, HJ.out (n + 1) T1 T1 W2 _ HJ2.out hst (fun b _ h => h), fun b hb => by rw [hT1]; exact .inl hb, fun b hb => Nat.lt_of_lt_of_le (HBD.out b hb) (Nat.le_trans hsz hst.ext.size)⟩
  exact (heap_put (by (try dsimp only); omega)).trans ((HK2.out.block b (by omega) (by rw [hT1]; exact .inl hTb.1)).trans (HB1.out.block b hb))
set_option maxRecDepth 8000 in
set_option maxHeartbeats 8000000 in
theorem on_step (l : PL) (a : Addr) (B : Option Addr) (c d m bl by_ bo L : Nat) (J : Nat → (Nat → Prop) → World → Prop) (hJ : Iter.Abides J) (xs : List (Nat → Bool)) (k : Nat) (x : Kn) (ks : List Kn) (hk : l.knots[k]? = some x)
    (ih : ∀ (r : Nat → Bool) (n : Nat) (T : Nat → Prop) (W : World), (∀ j, j < (l.truths ks r).length → xs[n + j]? = (l.truths ks r)[j]?) → J n T W → (∀ b, T b → b < W.heap.size) → T m → T by_ → T bo → TruthsNeed l a B c d m bl W → OnAt L bl by_ bo W →
      Calls Tryd.prog 88 #[.int .i64 ((k : Int) + 1), .agg (rv r), .pointer (some ⟨bl, 0, none⟩), .pointer (some ⟨by_, 0, none⟩), .pointer (some ⟨bo, 0, none⟩)] W (OnPost J (TruthsNeed l a B c d m bl) L bl by_ bo m (n + (l.truths ks r).length) T W))
    (r : Nat → Bool) (n : Nat) (T : Nat → Prop) (W : World) (hx : ∀ j, j < (l.truths (x :: ks) r).length → xs[n + j]? = (l.truths (x :: ks) r)[j]?) (h0 : J n T W) (hT : ∀ b, T b → b < W.heap.size) (htm : T m) (hty : T by_) (hto : T bo) (hN : TruthsNeed l a B c d m bl W) (hO : OnAt L bl by_ bo W) :
    Calls Tryd.prog 88 #[.int .i64 k, .agg (rv r), .pointer (some ⟨bl, 0, none⟩), .pointer (some ⟨by_, 0, none⟩), .pointer (some ⟨bo, 0, none⟩)] W (OnPost J (TruthsNeed l a B c d m bl) L bl by_ bo m (n + (l.truths (x :: ks) r).length) T W) := by
  have hklt : k < l.knots.length := (List.getElem?_eq_some_iff.1 hk).1
  have hkne : ((k : Int) == (l.knots.length : Int)) = false := beq_eq_false_iff_ne.2 (by omega)
  have hkl := hN.log.ok.knots3
  have q0 := hN.q0
  have q1 := hN.q1
  have q2 := hN.q2
  have q3 := hN.q3
  have hB := (((Below.refl _ W).alloc (Nat.le_refl _) (.cells #[.int .i64 k] 3)).alloc (by simp) (.cells (rv r) 86)).alloc (by simp; omega) (.cells #[.bool false] 4)
  obtain ⟨W1, hW1⟩ : ∃ W1, W1 = ((W.alloc (.cells #[.int .i64 k] 3)).alloc (.cells (rv r) 86)).alloc (.cells #[.bool false] 4) := ⟨_, rfl⟩
  rw [← hW1] at hB
  have z1 : W1.heap.size = W.heap.size + 3 := by rw [hW1]; simp
  have r5 : W1.heap[W.heap.size]? = some (.cells #[.int .i64 k] 3 (0, 0)) := by rw [hW1]; (repeat (first | with_reducible assumption | with_reducible exact row_new | with_reducible refine row_drew ?_ | with_reducible apply row_same | with_reducible refine row_diff ?_ (by first | omega | (simp only [World.size_alloc, size_setRow, size_drew', World.size_setCell]; omega)) | with_reducible refine row_far ?_ (by (try dsimp only); first | omega | (simp only [World.size_alloc, size_setRow, size_drew', World.size_setCell]; omega)) | with_reducible refine row_new' (by first | (simp only [World.size_alloc, size_setRow, size_drew', World.size_setCell]; done) | omega | (simp only [World.size_alloc, size_setRow, size_drew', World.size_setCell]; omega)) | with_reducible refine row_old ?_ | with_reducible refine row_below (by assumption) ?_ (by first | omega | (simp only [World.size_alloc, size_setRow, size_drew', World.size_setCell]; omega))))
  have r6 : W1.heap[W.heap.size + 1]? = some (.cells (rv r) 86 (0, 0)) := by rw [hW1]; (repeat (first | with_reducible assumption | with_reducible exact row_new | with_reducible refine row_drew ?_ | with_reducible apply row_same | with_reducible refine row_diff ?_ (by first | omega | (simp only [World.size_alloc, size_setRow, size_drew', World.size_setCell]; omega)) | with_reducible refine row_far ?_ (by (try dsimp only); first | omega | (simp only [World.size_alloc, size_setRow, size_drew', World.size_setCell]; omega)) | with_reducible refine row_new' (by first | (simp only [World.size_alloc, size_setRow, size_drew', World.size_setCell]; done) | omega | (simp only [World.size_alloc, size_setRow, size_drew', World.size_setCell]; omega)) | with_reducible refine row_old ?_ | with_reducible refine row_below (by assumption) ?_ (by first | omega | (simp only [World.size_alloc, size_setRow, size_drew', World.size_setCell]; omega))))
  have r7 : W1.heap[W.heap.size + 1 + 1]? = some (.cells #[.bool false] 4 (0, 0)) := by rw [hW1]; (repeat (first | with_reducible assumption | with_reducible exact row_new | with_reducible refine row_drew ?_ | with_reducible apply row_same | with_reducible refine row_diff ?_ (by first | omega | (simp only [World.size_alloc, size_setRow, size_drew', World.size_setCell]; omega)) | with_reducible refine row_far ?_ (by (try dsimp only); first | omega | (simp only [World.size_alloc, size_setRow, size_drew', World.size_setCell]; omega)) | with_reducible refine row_new' (by first | (simp only [World.size_alloc, size_setRow, size_drew', World.size_setCell]; done) | omega | (simp only [World.size_alloc, size_setRow, size_drew', World.size_setCell]; omega)) | with_reducible refine row_old ?_ | with_reducible refine row_below (by assumption) ?_ (by first | omega | (simp only [World.size_alloc, size_setRow, size_drew', World.size_setCell]; omega))))
  have q0 := cell_below hB hN.q0
  have q1 := cell_below hB hN.q1
  have q2 := cell_below hB hN.q2
  have q3 := cell_below hB hN.q3
  have e5 : W1.cell? ⟨W.heap.size, 0, none⟩ = some (.int .i64 k) := cell_row' r5 rfl
  have HB := Lib.hid hB
  have HN := Lib.hid hN
  have HN1 := Lib.hid (hN.below hB)
  have HO := Lib.hid hO
  have HJ := Lib.hid hJ
  have H0 := Lib.hid h0
  have HX := Lib.hid hx
  have HT := Lib.hid hT
  have HK := Lib.hid hk
  have IH := Lib.hid ih
  have R5 := Lib.hid r5
  have R6 := Lib.hid r6
  have R7 := Lib.hid r7
  clear hB hN hO hJ h0 hx hT hk ih r5 r6 r7
  refine callsIn_wide.1 (callsIn_of_wp_marks (n := 0) Tryd.func88 rfl trivial ?_)
  simp only [Tryd.ntmps88, List.size_toArray, List.length_cons, List.length_nil, Nat.reduceAdd, Nat.reduceSub, Array.replicate_succ, Array.replicate_zero, List.push_toArray, List.append_toArray, List.nil_append, List.cons_append]
  refine wpIn_wide.2 ?_
  go_upto_region 1 with (first | ((with_reducible refine gate_box 86 rfl ?_); refine ev_box_rib rfl _ rfl r rfl ?_))
  rw [← hW1]
  clear hW1
  go_wp2_with fail
  refine (spots_any HN1.out.log HN1.out.ends k).mono ?_
  rintro e w ⟨bl2, bk2, rfl, hb1, hsn, hl2, hk2⟩
  have z2 := hb1.size
  have HSN := Lib.hid hsn
  have HNw := Lib.hid (HN1.out.below hb1)
  have HOw := Lib.hid ((HO.out.below HB.out).below hb1)
  have R5w := Lib.hid (row_below hb1 R5.out (by omega))
  have R6w := Lib.hid (row_below hb1 R6.out (by omega))
  have R7w := Lib.hid (row_below hb1 R7.out (by omega))
  have HBw := Lib.hid (bb HB.out hb1)
  obtain ⟨T0, hT0⟩ : ∃ T0 : Nat → Prop, T0 = fun b => T b ∨ (W.heap.size ≤ b ∧ b < w.heap.size) := ⟨_, rfl⟩
  have HT0 := Lib.hid hT0
  have hT0b : ∀ b, T0 b → b < w.heap.size := fun b h => by rw [hT0] at h; rcases h with h | h; (have := HT.out b h; omega); exact h.2
  have HT0B := Lib.hid hT0b
  have HL2 := Lib.hid hl2
  have HK2 := Lib.hid hk2
  have hJw : J n T0 w := HJ.out n T T0 W w H0.out (Stays.of_below HBw.out) (fun b hb hn h => by rw [hT0] at h; rcases h with h | h; exact hn h; omega)
  have HJW := Lib.hid hJw
  clear hb1 hsn hT0 hT0b hJw q0 q1 q2 q3 e5 hl2 hk2
  go_wp2_with fail
  refine (wpIn_wide (n := 0)).1 ?_
  refine range_law (gf := 96) (lb := #[.pointer (some ⟨bl2, 0, none⟩), .pointer (some ⟨bk2, 0, none⟩)]) rfl (enters_of Tryd.func96 (by kernel_rfl) rfl)
    (spots_yields l a B c d m bl2 bk2 k x HK.out) (fun _ => rfl) (OnRange J (TruthsNeed l a B c d m bl) L bl by_ bo m n l ks x r T0 w) (onRange_abides HJ.out HNw.out HOw.out HT0B.out) (fun b h => h.elim) HSN.out
    (fun V V' hV hsz hs => ?hN) (fun V hV => ?h0) ?hround ?hdone
  case hN => exact HSN.out.far hV (hs.below hsz (fun b hb h => by omega))
  case h0 =>
    have hJV : J n (fun b => T0 b ∨ (w.heap.size ≤ b ∧ b < V.heap.size)) V := HJ.out n T0 _ w V HJW.out (Stays.of_below hV) (fun b hb hn h => by rcases h with h | h; exact hn h; omega)
    refine ⟨⟨fun b => T0 b ∨ (w.heap.size ≤ b ∧ b < V.heap.size), by simpa [PL.upto] using hJV, ?_, ?_, fun b h => .inl h⟩, ?_, hV.size, HNw.out.below hV, HOw.out.below hV, Keeps.of_below hV⟩
    · intro b h
      rcases h with h | h
      · exact Nat.lt_of_lt_of_le (HT0B.out b h) hV.size
      · exact h.2
    · intro b hb h
      rcases h with h | h | h
      · exact h.elim
      · exact .inr ⟨by omega, hb⟩
      · exact .inr ⟨by omega, hb⟩
    · intro b h
      rcases h with h | h | h
      · exact h.elim
      · omega
      · omega
  case hdone =>
    rintro D V ⟨⟨TJ, hj, hjb, hjt, hj0⟩, hDt, hsz, hneed, hat, hkeep⟩ hsn hDa hDb hK
    have hm : m < W.heap.size := by obtain ⟨es, cl, h1, _⟩ := HN.out.marks; exact (Array.getElem?_eq_some_iff.1 h1).1
    have t07 : T0 (W.heap.size + 1 + 1) := by rw [HT0.out]; exact .inr ⟨by omega, by omega⟩
    have s7 := hkeep.obj R7w.out ⟨t07, by omega⟩
    have x0 : V.cell? ⟨W.heap.size + 1 + 1, 0, none⟩ = some (.bool false) := cell_row' s7 rfl
    have x1 : V.frozen? ⟨W.heap.size + 1 + 1, 0, none⟩ = false := frozen_of_row V _ 0 _ _ s7
    have hwV : w.heap.size < V.heap.size := (Array.getElem?_eq_some_iff.1 hK).1
    have HJV := Lib.hid hj
    have HK := Lib.hid hK
    have HS7 := Lib.hid s7
    clear hj hK s7
    gi_wp2
    go_wp2_with fail
    have y0 : ((V.setCell ⟨W.heap.size + 1 + 1, 0, none⟩ (.bool true)).putObj w.heap.size (.deferred none)).cell? ⟨W.heap.size + 1 + 1, 0, none⟩ = some (.bool true) := by
      have e1 : ((V.setCell ⟨W.heap.size + 1 + 1, 0, none⟩ (.bool true)).putObj w.heap.size (.deferred none)).heap[W.heap.size + 1 + 1]? = (V.setCell ⟨W.heap.size + 1 + 1, 0, none⟩ (.bool true)).heap[W.heap.size + 1 + 1]? := World.putObj_heap_other (by omega)
      have e2 : (V.setCell ⟨W.heap.size + 1 + 1, 0, none⟩ (.bool true)).cell? ⟨W.heap.size + 1 + 1, 0, none⟩ = some (.bool true) := cset_same (some_of x0)
      rw [← e2]
      simp only [World.cell?, e1]
    have hst : Stays TJ V ((V.setCell ⟨W.heap.size + 1 + 1, 0, none⟩ (.bool true)).putObj w.heap.size (.deferred none)) := (stays_setCell V _ _ (hj0 _ t07)).trans (stays_putObj _ _ _ (hjt _ hwV hDa))
    have hb2 : Below W.heap.size V ((V.setCell ⟨W.heap.size + 1 + 1, 0, none⟩ (.bool true)).putObj w.heap.size (.deferred none)) :=
      ⟨hst.ext.os, hst.ext.tape, hst.ext.output, hst.ext.size, fun b hb => (World.putObj_heap_other (by omega)).trans (heap_put (by (try dsimp only); omega))⟩
    have hKd : (V.setCell ⟨W.heap.size + 1 + 1, 0, none⟩ (.bool true)).heap[w.heap.size]? = some (.deferred (some [])) := (heap_put (by (try dsimp only); omega)).trans HK.out
    refine ⟨by simp, .inl ⟨_, _, rfl, run_takeDeferred hKd, ?_⟩⟩
    refine ⟨.bool true, (by simp [results, Tryd.results88, go_sem, y0]), ?_⟩
    refine ⟨rfl, HN.out.far hneed hb2, ⟨cell_far HO.out.y hat.y hb2, cell_far HO.out.o hat.o hb2⟩, ⟨(Ext.below HBw.out).trans (hkeep.ext.trans hst.ext), fun b hb hTb => ?_⟩, TJ, ?_, fun b hb => hj0 b (by rw [HT0.out]; exact .inl hb), fun b hb => Nat.lt_of_lt_of_le (hjb b hb) hst.ext.size⟩
    · exact (hb2.block b hb).trans ((hkeep.block b (by have := HBw.out.size; omega) ⟨by rw [HT0.out]; exact .inl hTb.1, hTb.2⟩).trans (HBw.out.block b hb))
    · have e : l.upto ks x r x.spots.length = (l.truths (x :: ks) r).length := by unfold PL.upto; rw [List.take_length]; rfl
      rw [← e]
      exact HJ.out _ TJ TJ V _ HJV.out hst (fun b _ h => h)
  case hround =>
    rintro i ⟨s1, s2⟩ D V hs hVsz ⟨⟨TJ, hj, hjb, hjt, hj0⟩, hDt, hsz, hneed, hat, hkeep⟩ hsn hDa hDb hDbd
    dsimp only [spotV]
    gi_wp2
    have hV1 : Below V.heap.size V (V.alloc (.cells #[.int .i64 s1, .int .i64 s2] 102)) := (Below.refl _ V).alloc (Nat.le_refl _) _
    refine ⟨hV1, fun V1 hst1 => ?_⟩
    -- what is there at the head of the round
    have hm : m < W.heap.size := by obtain ⟨es, cl, h1, _⟩ := HN.out.marks; exact (Array.getElem?_eq_some_iff.1 h1).1
    have zV1 : V.heap.size + 1 ≤ V1.heap.size := by have := hst1.ext.size; simpa using this
    have hb01 : Below w.heap.size V V1 := (hV1.mono hsz).trans (hst1.below (by simp; omega) (fun b hb h => by omega))
    have need1 : TruthsNeed l a B c d m bl V1 := HNw.out.far hneed hb01
    have on1 : OnAt L bl by_ bo V1 := ⟨cell_far HOw.out.y hat.y hb01, cell_far HOw.out.o hat.o hb01⟩
    have k5 : V1.heap[W.heap.size]? = some (.cells #[.int .i64 k] 3 (0, 0)) := row_below hb01 (hkeep.obj R5w.out ⟨by rw [HT0.out]; exact .inr ⟨by omega, by omega⟩, by omega⟩) (by omega)
    have k6 : V1.heap[W.heap.size + 1]? = some (.cells (rv r) 86 (0, 0)) := row_below hb01 (hkeep.obj R6w.out ⟨by rw [HT0.out]; exact .inr ⟨by omega, by omega⟩, by omega⟩) (by omega)
    have k8 : V1.heap[V.heap.size]? = some (.cells #[.int .i64 s1, .int .i64 s2] 102 (0, 0)) := hst1.obj (heap_alloc_new V _) (by omega)
    have c5 : V1.cell? ⟨W.heap.size, 0, none⟩ = some (.int .i64 k) := cell_row' k5 rfl
    have c80 : V1.cell? ⟨V.heap.size, 0, none⟩ = some (.int .i64 s1) := cell_row' (i := 0) k8 rfl
    have c81 : V1.cell? ⟨V.heap.size, 1, none⟩ = some (.int .i64 s2) := cell_row' (i := 1) k8 rfl
    have q0 := need1.q0
    have q1 := need1.q1
    have q2 := need1.q2
    have q3 := need1.q3
    have lt2 : bl < V1.heap.size := World.block_lt_of_cell? V1 _ q0
    have N1 := Lib.hid need1
    have O1 := Lib.hid on1
    have K6 := Lib.hid k6
    have K5 := Lib.hid k5
    have HB01 := Lib.hid hb01
    have HST1 := Lib.hid hst1
    have HVJ := Lib.hid hj
    have HSPOT := Lib.hid hs
    clear need1 on1 hst1 hb01 hj hs k5 k8 hV1
    gi_upto_region 6 with (first | ((with_reducible refine gate_alloc_in 86 rfl ?_); refine ev_alloc_rib_in rfl rfl ?_) | ((with_reducible refine gate_load_in 86 rfl ?_); refine ev_load_rib_in rfl _ rfl _ rfl r (by (repeat (first | with_reducible assumption | with_reducible exact row_new | with_reducible refine row_drew ?_ | with_reducible apply row_same | with_reducible refine row_diff ?_ (by first | omega | (simp only [World.size_alloc, size_setRow, size_drew', World.size_setCell]; omega)) | with_reducible refine row_far ?_ (by (try dsimp only); first | omega | (simp only [World.size_alloc, size_setRow, size_drew', World.size_setCell]; omega)) | with_reducible refine row_new' (by first | (simp only [World.size_alloc, size_setRow, size_drew', World.size_setCell]; done) | omega | (simp only [World.size_alloc, size_setRow, size_drew', World.size_setCell]; omega)) | with_reducible refine row_old ?_ | with_reducible refine row_below (by assumption) ?_ (by first | omega | (simp only [World.size_alloc, size_setRow, size_drew', World.size_setCell]; omega))))) ?_) | ((with_reducible refine gate_store_in 86 rfl ?_); refine ev_store_rib_in rfl rfl _ _ rfl _ rfl none72 r rfl (by (repeat (first | with_reducible assumption | with_reducible exact row_new | with_reducible refine row_drew ?_ | with_reducible apply row_same | with_reducible refine row_diff ?_ (by first | omega | (simp only [World.size_alloc, size_setRow, size_drew', World.size_setCell]; omega)) | with_reducible refine row_far ?_ (by (try dsimp only); first | omega | (simp only [World.size_alloc, size_setRow, size_drew', World.size_setCell]; omega)) | with_reducible refine row_new' (by first | (simp only [World.size_alloc, size_setRow, size_drew', World.size_setCell]; done) | omega | (simp only [World.size_alloc, size_setRow, size_drew', World.size_setCell]; omega)) | with_reducible refine row_old ?_ | with_reducible refine row_below (by assumption) ?_ (by first | omega | (simp only [World.size_alloc, size_setRow, size_drew', World.size_setCell]; omega))))) ?_))
    obtain ⟨V2, hV2⟩ : ∃ V2, V2 = (V1.alloc (.cells (rv none72) 86)).setRow V1.heap.size (rv r) := ⟨_, rfl⟩
    rw [← hV2]
    have hb12 : Below V1.heap.size V1 V2 := by rw [hV2]; exact ((Below.refl _ V1).alloc (Nat.le_refl _) _).trans ((only_setRow _ _ _).below (Nat.le_refl _))
    have z12 : V2.heap.size = V1.heap.size + 1 := by rw [hV2]; simp
    have k9 : V2.heap[V1.heap.size]? = some (.cells (rv r) 86 (0, 0)) := by rw [hV2]; (repeat (first | with_reducible assumption | with_reducible exact row_new | with_reducible refine row_drew ?_ | with_reducible apply row_same | with_reducible refine row_diff ?_ (by first | omega | (simp only [World.size_alloc, size_setRow, size_drew', World.size_setCell]; omega)) | with_reducible refine row_far ?_ (by (try dsimp only); first | omega | (simp only [World.size_alloc, size_setRow, size_drew', World.size_setCell]; omega)) | with_reducible refine row_new' (by first | (simp only [World.size_alloc, size_setRow, size_drew', World.size_setCell]; done) | omega | (simp only [World.size_alloc, size_setRow, size_drew', World.size_setCell]; omega)) | with_reducible refine row_old ?_ | with_reducible refine row_below (by assumption) ?_ (by first | omega | (simp only [World.size_alloc, size_setRow, size_drew', World.size_setCell]; omega))))
    have q0 := cell_below hb12 q0
    have q1 := cell_below hb12 q1
    have q2 := cell_below hb12 q2
    have q3 := cell_below hb12 q3
    have c80 := cell_below hb12 c80
    have c81 := cell_below hb12 c81
    have K9 := Lib.hid k9
    have N2 := Lib.hid (N1.out.below hb12)
    have O2 := Lib.hid (O1.out.below hb12)
    have HB12 := Lib.hid hb12
    clear hV2 k9 k6 hb12
    gi_wp2
    have hsb := spots_bd (N2.out.log.ok.knots x (List.mem_of_getElem? HK.out)) HSPOT.out
    refine ⟨trivial, rfl, ?_⟩
    refine (CallsIn.inRound _ (callsIn_wide.2 (mark_any N2.out.log s1 s2 hsb.1 hsb.2.1 hsb.2.2.1 hsb.2.2.2 N2.out.marks))).mono ?_
    rintro e V3 ⟨rfl, htu, hmk⟩
    obtain ⟨mk, hmkd⟩ : ∃ mk, mk = l.mark (s1, s2) := ⟨_, rfl⟩
    have HMKD := Lib.hid hmkd
    rw [← hmkd]
    have hm9 : V1.heap.size ≠ m := by have := HB01.out.size; omega
    have z23 := htu.ext.size
    have j9 := htu.obj K9.out hm9
    have hb23 : ∀ b, b < V2.heap.size → b ≠ m → V3.heap[b]? = V2.heap[b]? := htu.block
    have HTU := Lib.hid htu
    have HMK := Lib.hid hmk
    have J9 := Lib.hid j9
    have hidx : ∀ (w : World) (k : Nat), (k : Int) < 72 → (Instr.index 86 (.agg (rv mk)) (.int .i64 k)).run Tryd.prog w = .ok (.bool (mk k)) w := fun w k hk => by have := index_rib (w := w) (r := mk) (i := k) (by omega) hk; simpa using this
    clear htu hmk j9 hmkd c80 c81 hb23
    gi_wp2
    gi_loopw [29] (fun p Wl => ∃ j : Nat, p = .int .i64 j ∧ j ≤ 72 ∧ Wl.heap[V1.heap.size]? = some (.cells (rv (orTo r mk j)) 86 (0, 0)) ∧ Stays (fun b => b = V1.heap.size) V3 Wl) (fun p _ => 72 - (intOf p).toNat)
    case atStart => exact ⟨0, rfl, by omega, by rw [orTo_zero]; exact J9.out, Stays.refl _ _⟩
    case round =>
      obtain ⟨j, rfl, hj72, hrow, hstl⟩ := hrel
      have HROW := Lib.hid hrow
      have HSTL := Lib.hid hstl
      have zl := hstl.ext.size
      clear hstl
      by_cases hjlt : j < 72
      · have hji : (j : Int) < 72 := by omega
        have hj0 : (0 : Int) ≤ (j : Int) := by omega
        have x0 : wr.cell? ⟨V1.heap.size, j, none⟩ = some (.bool (orTo r mk j j)) := cell_row' hrow (rv_get _ j hjlt)
        have x1 : wr.frozen? ⟨V1.heap.size, j, none⟩ = false := frozen_of_row wr _ j _ _ hrow
        have hix := hidx wr j hji
        clear hrow hidx
        have HOS := Lib.hid (fun i => orTo_succ r mk j i)
        cases hb : orTo r mk j j
        · rw [hb] at x0
          gi_wp2
          refine ⟨⟨j + 1, by go_num, by omega, ?_, HSTL.out.trans (stays_setCell _ _ _ rfl)⟩, by simp [intOf]; omega⟩
          rw [blk_set HROW.out j _, rv_set]
          congr 2
          refine rv_congr fun i hi => ?_
          rw [HOS.out i]
          by_cases hij : i = j
          · subst hij; simp [hb]
          · simp [hij]
        · rw [hb] at x0
          gi_wp2
          refine ⟨⟨j + 1, by go_num, by omega, ?_, HSTL.out.trans (stays_setCell _ _ _ rfl)⟩, by simp [intOf]; omega⟩
          rw [blk_set HROW.out j _, rv_set]
          congr 2
          refine rv_congr fun i hi => ?_
          rw [HOS.out i]
          by_cases hij : i = j
          · subst hij; simp [hb]
          · simp [hij]
      · obtain rfl : j = 72 := by omega
        rw [orTo_all] at hrow
        have hmk := HMKD.out
        subst hmk
        have zz : V.heap.size < V1.heap.size ∧ V1.heap.size < V2.heap.size := by omega
        have hkept := cellsKept_turned N2.out.marks HTU.out
        have need3 := N2.out.turned HTU.out HMK.out
        have hb3r : Below V1.heap.size V3 wr := HSTL.out.below (by omega) (fun b hb h => by omega)
        have need4 : TruthsNeed l a B c d m bl wr := N1.out.far need3 hb3r
        have on4 : OnAt L bl by_ bo wr := ⟨cell_far O1.out.y (hkept _ _ O2.out.y) hb3r, cell_far O1.out.o (hkept _ _ O2.out.o) hb3r⟩
        have c54 : wr.cell? ⟨W.heap.size, 0, none⟩ = some (.int .i64 k) := cell_far c5 (hkept _ _ (cell_below HB12.out c5)) hb3r
        have co4 := on4.o
        have hw1 : IntKind.i64.wrap ((k : Int) + 1) = (k : Int) + 1 := IntWalk.i64_in _ (by omega)
        obtain ⟨T4, hT4⟩ : ∃ T4 : Nat → Prop, T4 = fun b => TJ b ∨ (V.heap.size ≤ b ∧ b < wr.heap.size) := ⟨_, rfl⟩
        have hmT : TJ m := hj0 m (by rw [HT0.out]; exact .inl htm)
        have hdT : TJ (w.heap.size + 1) := hjt _ (by omega) hDb
        have hstay : Stays (fun b => b = m ∨ b = w.heap.size + 1 ∨ V.heap.size ≤ b) V wr := by
          refine (Stays.of_below ((Below.refl _ V).alloc (Nat.le_refl _) (.cells #[.int .i64 s1, .int .i64 s2] 102))).trans ((HST1.out.mono ?_).trans ((Stays.of_below HB12.out).trans ((HTU.out.mono ?_).trans (HSTL.out.mono ?_))))
          · rintro b _ rfl; exact .inr (.inl rfl)
          · rintro b _ rfl; exact .inl rfl
          · rintro b _ rfl; exact .inr (.inr (by omega))
        have hJ4 : J (n + l.upto ks x r i) T4 wr := HJ.out _ TJ T4 V wr HVJ.out (hstay.mono fun b hb h => by rcases h with rfl | rfl | h; exact hmT; exact hdT; omega) (fun b hb hn h => by rw [hT4] at h; rcases h with h | h; exact hn h; omega)
        have hb4 : ∀ b, T4 b → b < wr.heap.size := fun b h => by rw [hT4] at h; rcases h with h | h; (have := hjb b h; omega); exact h.2
        have hfl := flatMap_at (fun s => l.truths ks fun j => r j || l.mark s j) x.spots i (s1, s2) HSPOT.out
        have hxs4 : ∀ j, j < (l.truths ks fun j => r j || l.mark (s1, s2) j).length → xs[n + l.upto ks x r i + j]? = (l.truths ks fun j => r j || l.mark (s1, s2) j)[j]? := fun j hj => by
          obtain ⟨h1, h2⟩ := hfl.2 j hj
          rw [← h2, Nat.add_assoc]
          exact HX.out _ h1
        have hcall := IH.out (fun j => r j || l.mark (s1, s2) j) (n + l.upto ks x r i) T4 wr hxs4 hJ4 hb4 (by rw [hT4]; exact .inl hmT) (by rw [hT4]; exact .inl (hj0 _ (by rw [HT0.out]; exact .inl hty))) (by rw [hT4]; exact .inl (hj0 _ (by rw [HT0.out]; exact .inl hto))) need4 on4
        have HCALL := Lib.hid hcall
        have HSTAY := Lib.hid hstay
        have HUP := Lib.hid hfl.1
        clear hcall hstay hfl hxs4 hJ4 hb4 need3 need4 on4 hkept hidx hb3r q0 q1 q2 q3 c5
        gi_wp2_with ((with_reducible refine gate_load_in 86 rfl ?_); refine ev_load_rib_in rfl _ rfl _ rfl (fun j => r j || l.mark (s1, s2) j) (by (repeat (first | with_reducible assumption | with_reducible exact row_new | with_reducible refine row_drew ?_ | with_reducible apply row_same | with_reducible refine row_diff ?_ (by first | omega | (simp only [World.size_alloc, size_setRow, size_drew', World.size_setCell]; omega)) | with_reducible refine row_far ?_ (by (try dsimp only); first | omega | (simp only [World.size_alloc, size_setRow, size_drew', World.size_setCell]; omega)) | with_reducible refine row_new' (by first | (simp only [World.size_alloc, size_setRow, size_drew', World.size_setCell]; done) | omega | (simp only [World.size_alloc, size_setRow, size_drew', World.size_setCell]; omega)) | with_reducible refine row_old ?_ | with_reducible refine row_below (by assumption) ?_ (by first | omega | (simp only [World.size_alloc, size_setRow, size_drew', World.size_setCell]; omega))))) ?_)
        refine ⟨trivial, rfl, ?_⟩
        refine (CallsIn.inRound _ (callsIn_wide.2 HCALL.out)).mono ?_
        rintro e V5 ⟨rfl, need5, on5, keeps5, T5, hJ5, hT5, hb5⟩
        have HJ5 := Lib.hid hJ5
        have HN5 := Lib.hid need5
        have HO5 := Lib.hid on5
        have HK5 := Lib.hid keeps5
        have HT5 := Lib.hid hT5
        have HB5 := Lib.hid hb5
        clear hJ5 need5 on5 keeps5 hT5 hb5
        gi_wp2
        have hk5w : Keeps (fun b => T0 b ∧ b ≠ m) w V5 := by
          refine ⟨hkeep.ext.trans (HSTAY.out.ext.trans HK5.out.ext), fun b hb h => ?_⟩
          refine (HK5.out.block b (by omega) ⟨by rw [hT4]; exact .inl (hj0 b h.1), h.2⟩).trans ((HSTAY.out.block b (by omega) (fun hc => ?_)).trans (hkeep.block b hb h))
          rcases hc with hc | hc | hc
          · exact h.2 hc
          · omega
          · omega
        have hb2m : bl2 ≠ m := by have := HL2.out; omega
        have hk2m : bk2 ≠ m := by have := HK2.out; omega
        have hb2T : T0 bl2 := by rw [HT0.out]; exact .inr ⟨by have := HL2.out; omega, World.block_lt_of_cell? w _ HSN.out.q0⟩
        have hk2T : T0 bk2 := by rw [HT0.out]; exact .inr ⟨by have := HK2.out; omega, World.block_lt_of_cell? w _ HSN.out.k⟩
        refine ⟨⟨⟨T5, ?_, HB5.out, fun b _ h => HT5.out b (by rw [hT4]; exact .inl (hjt b (hDbd b h) h)), fun b h => HT5.out b (by rw [hT4]; exact .inl (hj0 b h))⟩, hDt, by have := HK5.out.ext.size; omega, HN5.out, HO5.out, hk5w⟩, ⟨?_, fun b hb h => ?_⟩, ⟨HN5.out.log, HN5.out.ends, keeps_cell hk5w ⟨hb2T, hb2m⟩ HSN.out.q0, keeps_cell hk5w ⟨hb2T, hb2m⟩ HSN.out.q1, keeps_cell hk5w ⟨hb2T, hb2m⟩ HSN.out.q2, keeps_cell hk5w ⟨hb2T, hb2m⟩ HSN.out.q3, keeps_cell hk5w ⟨hk2T, hk2m⟩ HSN.out.k⟩⟩
        · have e : n + l.upto ks x r (i + 1) = n + l.upto ks x r i + (l.truths ks fun j => r j || l.mark (s1, s2) j).length := by
            unfold PL.upto
            rw [HUP.out]
            omega
          rw [e]
          exact HJ5.out
        · exact (Ext.below HB12.out).trans (HTU.out.ext.trans (HSTL.out.ext.trans HK5.out.ext))
        · have h1 := hDt b h
          have h2 := hDbd b h
          exact (HK5.out.block b (by omega) ⟨by rw [hT4]; exact .inl (hjt b h2 h), by omega⟩).trans ((HSTL.out.block b (by omega) (by omega)).trans ((HTU.out.block b (by omega) (by omega)).trans (HB12.out.block b hb)))
end Go.Proofs.YtigofgdmefobaaaDoor.Peel
