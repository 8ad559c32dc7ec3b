/- Package peel: truths, what is possible, Best, Waste, Sure, Hope. -/
import Derived.Test.YtigofgdmefobaaaDoorG2
import Derived.Laws.EntriesVeiled
import Derived.Test.YtigofgdmefobaaaDoorG1
import Derived.OwnWalkIn
import Derived.RangeFuncCalls
import Derived.OrdersHeld
/- Walks of package peel: the truths of a log: what is needed, and the heads. -/
set_option linter.unusedVariables false
set_option linter.unusedSimpArgs false
namespace Go.Proofs.YtigofgdmefobaaaDoor.Peel
open Go.RowKit Go.Proofs.YtigofgdmefobaaaDoor.Iter

/-- For each truth the columns that have a knot, besides those that have one already. -/
def PL.truths (l : PL) : List Kn → (Nat → Bool) → List (Nat → Bool)
  | [], r => [r]
  | x :: ks, r => x.spots.flatMap fun s => l.truths ks fun i => r i || l.mark s i
/-- What the iterator of truths reads, and its own map of marks. -/
structure TruthsNeed (l : PL) (a : Addr) (B : Option Addr) (c d m bl : Nat) (w : World) : Prop where
  log : LogAt w l a B c d
  ends : EndsAt w
  q0 : w.cell? ⟨bl, 0, none⟩ = some (.slice (some a) l.long.length c)
  q1 : w.cell? ⟨bl, 1, none⟩ = some (.int .i64 l.size)
  q2 : w.cell? ⟨bl, 2, none⟩ = some (.slice B l.knots.length d)
  q3 : w.cell? ⟨bl, 3, none⟩ = some (.map (some m))
  marks : MarksAt l m w
theorem TruthsNeed.below {l : PL} {a : Addr} {B : Option Addr} {c d m bl : Nat} {w w1 : World} (h : TruthsNeed l a B c d m bl w) (hb : Below w.heap.size w w1) : TruthsNeed l a B c d m bl w1 :=
  ⟨h.log.below hb, h.ends.below hb, cell_below hb h.q0, cell_below hb h.q1, cell_below hb h.q2, cell_below hb h.q3, h.marks.below hb⟩
theorem MarksAt.far {l : PL} {m : Nat} {w0 w1 w2 : World} (h0 : MarksAt l m w0) (h : MarksAt l m w1) (hb : Below w0.heap.size w1 w2) : MarksAt l m w2 := by
  obtain ⟨es0, c0, h00, _⟩ := h0
  obtain ⟨es, clock, h1, h2⟩ := h
  exact ⟨es, clock, (hb.block m (Array.getElem?_eq_some_iff.1 h00).1).trans h1, h2⟩
theorem TruthsNeed.far {l : PL} {a : Addr} {B : Option Addr} {c d m bl : Nat} {w0 w1 w2 : World} (h0 : TruthsNeed l a B c d m bl w0) (h : TruthsNeed l a B c d m bl w1) (hb : Below w0.heap.size w1 w2) : TruthsNeed l a B c d m bl w2 :=
  ⟨h0.log.far h.log hb, h0.ends.far h.ends hb, cell_far h0.q0 h.q0 hb, cell_far h0.q1 h.q1 hb, cell_far h0.q2 h.q2 hb, cell_far h0.q3 h.q3 hb, h0.marks.far h.marks hb⟩
theorem spots_any {w : World} {l : PL} {a : Addr} {B : Option Addr} {c d m : Nat} (h : LogAt w l a B c d) (he : EndsAt w) (k : Nat) :
    Calls Tryd.prog 81 #[.agg #[.slice (some a) l.long.length c, .int .i64 l.size, .slice B l.knots.length d, .map (some m)], .int .i64 k] w fun e w' => ∃ bl bk, e = .returned (.func (.func 96) #[] #[.pointer (some ⟨bl, 0, none⟩), .pointer (some ⟨bk, 0, none⟩)]) ∧ Below w.heap.size w w' ∧ SpotsNeed l a B c d m bl bk k w' ∧ w.heap.size ≤ bl ∧ w.heap.size ≤ bk := by
  have hB := ((Below.refl _ w).alloc (Nat.le_refl _) (.cells #[.slice (some a) l.long.length c, .int .i64 l.size, .slice B l.knots.length d, .map (some m)] 75)).alloc (by simp) (.cells #[.int .i64 k] 3)
  have H := Lib.hid (h.below hB)
  have HE := Lib.hid (he.below hB)
  have HB := Lib.hid hB
  clear h he hB
  go_enter Tryd.func81, Tryd.ntmps81
  go_wp2_with fail
  go_ret
  exact ⟨w.heap.size, w.heap.size + 1, rfl, HB.out, ⟨H.out, HE.out, cell_row' (i := 0) (by exact rowt_) rfl, cell_row' (i := 1) (by exact rowt_) rfl, cell_row' (i := 2) (by exact rowt_) rfl, cell_row' (i := 3) (by exact rowt_) rfl, cell_row' (i := 0) (by exact rowt_) rfl⟩, by omega, by omega⟩
theorem truths_any {w : World} {l : PL} {a : Addr} {B : Option Addr} {c d m : Nat} (h : LogAt w l a B c d) (he : EndsAt w) (hm : MarksAt l m w) :
    Calls Tryd.prog 66 #[.agg #[.slice (some a) l.long.length c, .int .i64 l.size, .slice B l.knots.length d, .map (some m)]] w fun e w' => ∃ bl, e = .returned (.func (.func 87) #[] #[.pointer (some ⟨bl, 0, none⟩)]) ∧ Below w.heap.size w w' ∧ TruthsNeed l a B c d m bl w' ∧ w.heap.size ≤ bl := by
  have hB := ((Below.refl _ w).alloc (Nat.le_refl _) (.cells #[.slice (some a) l.long.length c, .int .i64 l.size, .slice B l.knots.length d, .map (some m)] 75))
  have H := Lib.hid (h.below hB)
  have HE := Lib.hid (he.below hB)
  have HM := Lib.hid (hm.below hB)
  have HB := Lib.hid hB
  clear h he hm hB
  go_enter Tryd.func66, Tryd.ntmps66
  go_wp2_with fail
  go_ret
  exact ⟨w.heap.size, rfl, HB.out, ⟨H.out, HE.out, cell_row' (i := 0) (by exact rowt_) rfl, cell_row' (i := 1) (by exact rowt_) rfl, cell_row' (i := 2) (by exact rowt_) rfl, cell_row' (i := 3) (by exact rowt_) rfl, HM.out⟩, by omega⟩
end Go.Proofs.YtigofgdmefobaaaDoor.Peel

/- Walks of package peel: the iterator of truths, knot by knot. -/
set_option linter.unusedVariables false
set_option linter.unusedSimpArgs false
namespace Go.Proofs.YtigofgdmefobaaaDoor.Peel
open Go.RowKit Go.Proofs.YtigofgdmefobaaaDoor.Iter
attribute [local go_sem] Oper.semAt_some

/-- The captured yield, and the captured function itself. -/
structure OnAt (L bl by_ bo : Nat) (w : World) : Prop where
  y : w.cell? ⟨by_, 0, none⟩ = some (.func (.yield L) #[] #[])
  o : w.cell? ⟨bo, 0, none⟩ = some (.func (.func 88) #[] #[.pointer (some ⟨bl, 0, none⟩), .pointer (some ⟨by_, 0, none⟩), .pointer (some ⟨bo, 0, none⟩)])
theorem OnAt.below {L bl by_ bo : Nat} {w w1 : World} (h : OnAt L bl by_ bo w) (hb : Below w.heap.size w w1) : OnAt L bl by_ bo w1 := ⟨cell_below hb h.y, cell_below hb h.o⟩
theorem OnAt.keeps {L bl by_ bo : Nat} {T : Nat → Prop} {w w1 : World} (h : OnAt L bl by_ bo w) (hk : Keeps T w w1) (h1 : T by_) (h2 : T bo) : OnAt L bl by_ bo w1 := ⟨keeps_cell hk h1 h.y, keeps_cell hk h2 h.o⟩
/-- What a call of 'on' comes to. -/
structure OnPost (J : Nat → (Nat → Prop) → World → Prop) (need : World → Prop) (L bl by_ bo m n : Nat) (T : Nat → Prop) (W : World) (e : Ending) (W' : World) : Prop where
  e : e = .returned (.bool true)
  need : need W'
  at_ : OnAt L bl by_ bo W'
  keeps : Keeps (fun b => T b ∧ b ≠ m) W W'
  j : ∃ T', J n T' W' ∧ (∀ b, T b → T' b) ∧ ∀ b, T' b → b < W'.heap.size
abbrev ribV (r : Nat → Bool) : Array Value := #[.agg (rv r)]
theorem spots_bd {x : Kn} {n : Int} (h : x.Ok n) {i : Nat} {s1 s2 : Int} (hs : x.spots[i]? = some (s1, s2)) : 0 ≤ s1 ∧ s1 ≤ 23 ∧ 0 ≤ s2 ∧ s2 ≤ n := by
  have hi : i < x.many := by
    have := (List.getElem?_eq_some_iff.1 hs).1
    rwa [x.spots_len] at this
  rw [x.spots_get i hi] at hs
  have hc := h.cases
  obtain ⟨⟨a1, a2, a3, a4⟩, ⟨b1, b2, b3, b4⟩⟩ := h
  have e1 : x.a.n = x.a.hi - x.a.lo + 1 := rfl
  have e2 : x.f.n = x.f.hi - x.f.lo + 1 := rfl
  unfold Kn.many at hi
  unfold Kn.spot at hs
  injection hs with hs
  rw [Prod.mk.injEq] at hs
  obtain ⟨h1, h2⟩ := hs
  obtain ⟨g1 | g1 | g1 | g1, g2 | g2⟩ := hc <;> rw [g1] at h1 h2 e1 hi <;> rw [g2] at e2 hi <;> simp at hi <;> omega
theorem ne_of_cell_map {w : World} {p : Addr} {v : Value} {m c : Nat} {es : Array MapEntry} (h : w.cell? p = some v) (hm : w.heap[m]? = some (.map es c)) : p.block ≠ m := by
  intro e
  rw [← e] at hm
  simp [World.cell?, hm] at h
/-- What lies in cells stays. -/
def CellsKept (w w1 : World) : Prop := ∀ p v, w.cell? p = some v → w1.cell? p = some v
theorem cellsKept_turned {l : PL} {m : Nat} {w w1 : World} (hm : MarksAt l m w) (h : Turned m w w1) : CellsKept w w1 := by
  obtain ⟨es, c, hm, _⟩ := hm
  intro p v hv
  rw [← hv]
  exact World.cell?_of_block (h.block p.block (World.block_lt_of_cell? w p hv) (ne_of_cell_map hv hm))
theorem LogAt.kept {w w1 : World} {l : PL} {a : Addr} {B : Option Addr} {c d : Nat} (h : LogAt w l a B c d) (hk : CellsKept w w1) : LogAt w1 l a B c d where
  ok := h.ok
  long := fun k hk' => hk _ _ (h.long k hk')
  knots := fun k x hx => by
    obtain ⟨b, e, h1, h2, h3, h4⟩ := h.knots k x hx
    exact ⟨b, e, hk _ _ h1, hk _ _ h2, hk _ _ h3, hk _ _ h4⟩
  c := h.c
  d := h.d
theorem TruthsNeed.turned {l : PL} {a : Addr} {B : Option Addr} {c d m bl : Nat} {w w1 : World} (h : TruthsNeed l a B c d m bl w) (ht : Turned m w w1) (hm : MarksAt l m w1) : TruthsNeed l a B c d m bl w1 :=
  have hk := cellsKept_turned h.marks ht
  ⟨h.log.kept hk, ⟨hk _ _ h.ends.e0, hk _ _ h.ends.e1⟩, hk _ _ h.q0, hk _ _ h.q1, hk _ _ h.q2, hk _ _ h.q3, hm⟩
theorem flatMap_at {α β : Type} (f : α → List β) : ∀ (ss : List α) (i : Nat) (s : α), ss[i]? = some s → ((ss.take (i + 1)).flatMap f).length = ((ss.take i).flatMap f).length + (f s).length ∧ (∀ j, j < (f s).length → ((ss.take i).flatMap f).length + j < (ss.flatMap f).length ∧ (ss.flatMap f)[((ss.take i).flatMap f).length + j]? = (f s)[j]?) := by
  intro ss
  induction ss with
  | nil => intro i s h; simp at h
  | cons a ss ih =>
    intro i s h
    cases i with
    | zero =>
      simp at h
      subst h
      refine ⟨by simp, fun j hj => ⟨by simp; omega, ?_⟩⟩
      simp [List.getElem?_append_left hj]
    | succ i =>
      have := ih i s (by simpa using h)
      obtain ⟨h1, h2⟩ := this
      refine ⟨by simp only [List.take_succ_cons, List.flatMap_cons, List.length_append, h1]; omega, fun j hj => ?_⟩
      obtain ⟨h3, h4⟩ := h2 j hj
      simp only [List.take_succ_cons, List.flatMap_cons, List.length_append]
      refine ⟨by omega, ?_⟩
      rw [List.getElem?_append_right (by omega), ← h4]
      congr 1
      omega
/-- One ribbon over another, up to a column. -/
def orTo (r s : Nat → Bool) (k : Nat) : Nat → Bool := fun i => r i || (decide (i < k) && s i)
theorem orTo_zero (r s : Nat → Bool) : orTo r s 0 = r := by funext i; simp [orTo]
theorem orTo_succ (r s : Nat → Bool) (k i : Nat) : orTo r s (k + 1) i = if i = k then (orTo r s k i || s k) else orTo r s k i := by
  unfold orTo
  by_cases h : i = k
  · subst h; simp
  · have : (i < k + 1) = (i < k) := by simp; omega
    simp [h, this]
theorem orTo_all (r s : Nat → Bool) : rv (orTo r s 72) = rv (fun i => r i || s i) := rv_congr fun i hi => by simp [orTo, hi]
/-- How many truths there are for the first spots of a knot. -/
def PL.upto (l : PL) (ks : List Kn) (x : Kn) (r : Nat → Bool) (i : Nat) : Nat := ((x.spots.take i).flatMap fun s => l.truths ks fun j => r j || l.mark s j).length
/-- What holds while the spots of a knot are gone through. -/
structure OnRange (J : Nat → (Nat → Prop) → World → Prop) (need : World → Prop) (L bl by_ bo m n : Nat) (l : PL) (ks : List Kn) (x : Kn) (r : Nat → Bool) (T0 : Nat → Prop) (w : World) (i : Nat) (T : Nat → Prop) (W : World) : Prop where
  j : ∃ TJ, J (n + l.upto ks x r i) TJ W ∧ (∀ b, TJ b → b < W.heap.size) ∧ (∀ b, b < W.heap.size → T b → TJ b) ∧ ∀ b, T0 b → TJ b
  t : ∀ b, T b → w.heap.size ≤ b
  size : w.heap.size ≤ W.heap.size
  need : need W
  at_ : OnAt L bl by_ bo W
  keeps : Keeps (fun b => T0 b ∧ b ≠ m) w W
theorem onRange_abides {J : Nat → (Nat → Prop) → World → Prop} (hJ : Iter.Abides J) {l : PL} {a : Addr} {B : Option Addr} {c d m bl by_ bo L n : Nat} {ks : List Kn} {x : Kn} {r : Nat → Bool} {T0 : Nat → Prop} {w : World} (hN : TruthsNeed l a B c d m bl w) (hO : OnAt L bl by_ bo w) (hT0 : ∀ b, T0 b → b < w.heap.size) :
    Iter.Abides (OnRange J (TruthsNeed l a B c d m bl) L bl by_ bo m n l ks x r T0 w) := by
  rintro i T T' W W' ⟨⟨TJ, hj, hb, ht, h0⟩, hT, hsz, hneed, hat, hk⟩ hs hT'
  have hbel : Below w.heap.size W W' := hs.below hsz (fun b hb h => by have := hT b h; omega)
  refine ⟨⟨fun b => TJ b ∨ (W.heap.size ≤ b ∧ b < W'.heap.size), hJ _ TJ _ W W' hj (hs.mono ht) (fun b hb hn h => by rcases h with h | h; exact hn h; omega), ?_, ?_, fun b h => .inl (h0 b h)⟩, ?_, Nat.le_trans hsz hs.ext.size, hN.far hneed hbel, ⟨cell_far hO.y hat.y hbel, cell_far hO.o hat.o hbel⟩, ?_⟩
  · intro b h
    rcases h with h | h
    · exact Nat.lt_of_lt_of_le (hb b h) hs.ext.size
    · exact h.2
  · intro b hb' h
    rcases Nat.lt_or_ge b W.heap.size with hlt | hge
    · refine .inl (ht b hlt ?_)
      exact Classical.byContradiction fun hn => hT' b hlt hn h
    · exact .inr ⟨hge, hb'⟩
  · intro b h
    rcases Nat.lt_or_ge b W.heap.size with hlt | hge
    · exact hT b (Classical.byContradiction fun hn => hT' b hlt hn h)
    · omega
  · exact hk.trans (Keeps.of_stays hs fun b hb h hn => by have := hT b hn; have := hT0 b h.1; omega)
set_option maxRecDepth 8000 in
set_option maxHeartbeats 4000000 in
theorem on_base (l : PL) (a : Addr) (B : Option Addr) (c d m bl by_ bo L : Nat) (J : Nat → (Nat → Prop) → World → Prop) (hJ : Iter.Abides J) (xs : List (Nat → Bool))
    (hY : ∀ n x T W1, xs[n]? = some x → J n T W1 → TruthsNeed l a B c d m bl W1 → (∀ b, T b → b < W1.heap.size) → YieldAt Fence.wide 0 Tryd.prog L (ribV x) W1 fun e W2 => e = .returned (.bool true) ∧ J (n + 1) T W2 ∧ Keeps T W1 W2 ∧ TruthsNeed l a B c d m bl W2)
    (r : Nat → Bool) (n : Nat) (T : Nat → Prop) (W : World) (hx : xs[n]? = some r) (h0 : J n T W) (hT : ∀ b, T b → b < W.heap.size) (hty : T by_) (hto : T bo) (hN : TruthsNeed l a B c d m bl W) (hO : OnAt L bl by_ bo W) :
    Calls Tryd.prog 88 #[.int .i64 l.knots.length, .agg (rv r), .pointer (some ⟨bl, 0, none⟩), .pointer (some ⟨by_, 0, none⟩), .pointer (some ⟨bo, 0, none⟩)] W (OnPost J (TruthsNeed l a B c d m bl) L bl by_ bo m (n + 1) T W) := by
  have q2 := hN.q2
  have lt2 : bl < W.heap.size := World.block_lt_of_cell? W _ q2
  have oy := hO.y
  have lt3 : by_ < W.heap.size := World.block_lt_of_cell? W _ oy
  have hkl := hN.log.ok.knots3
  have hB := (((Below.refl _ W).alloc (Nat.le_refl _) (.cells #[.int .i64 l.knots.length] 3)).alloc (by simp) (.cells (rv r) 86)).alloc (by simp; omega) (.cells #[.bool false] 4)
  have q2' := cell_below hB q2
  have HN := Lib.hid hN
  have HO := Lib.hid hO
  have HB := Lib.hid hB
  have HY := Lib.hid hY
  have HJ := Lib.hid hJ
  have H0 := Lib.hid h0
  have HX := Lib.hid hx
  have HT := Lib.hid hT
  clear hN hO hB hY hJ h0 hx hT
  go_enter Tryd.func88, Tryd.ntmps88
  go_upto_region 2 with (first | ((with_reducible refine gate_box 86 rfl ?_); refine ev_box_rib rfl _ rfl r rfl ?_))
  obtain ⟨T1, hT1⟩ : ∃ T1 : Nat → Prop, T1 = fun b => T b ∨ b = W.heap.size ∨ b = W.heap.size + 1 ∨ b = W.heap.size + 1 + 1 := ⟨_, rfl⟩
  obtain ⟨W1, hW1⟩ : ∃ W1, W1 = ((W.alloc (.cells #[.int .i64 l.knots.length] 3)).alloc (.cells (rv r) 86)).alloc (.cells #[.bool false] 4) := ⟨_, rfl⟩
  have z1 : W1.heap.size = W.heap.size + 3 := by rw [hW1]; simp
  have r6 : W1.heap[W.heap.size + 1]? = some (.cells (rv r) 86 (0, 0)) := by rw [hW1]; exact rowt_
  have r7 : W1.heap[W.heap.size + 1 + 1]? = some (.cells #[.bool false] 4 (0, 0)) := by rw [hW1]; exact rowt_
  have oy1 : W1.cell? ⟨by_, 0, none⟩ = some (.func (.yield L) #[] #[]) := by rw [hW1]; exact cell_below HB.out oy
  have hB1 := HB.out
  rw [← hW1] at hB1
  have HB1 := Lib.hid hB1
  have hJ1 : J n T1 W1 := HJ.out n T T1 W W1 H0.out (Stays.of_below HB1.out) (fun b hb hn h => by rw [hT1] at h; rcases h with h | h | h | h; exact hn h; omega; omega; omega)
  have hbd : ∀ b, T1 b → b < W1.heap.size := fun b h => by rw [hT1] at h; rcases h with h | h | h | h; (have := HT.out b h; omega); omega; omega; omega
  obtain ⟨fn, tmps, assign, body, hy, hR⟩ := HY.out n r T1 W1 HX.out hJ1 (HN.out.below HB1.out) hbd
  have HBD := Lib.hid hbd
  dsimp only [ribV] at hy
  rw [← hW1]
  clear hW1 hB1 hJ1 hbd oy q2 q2' HB
  refine (wpIn_wide (n := 0)).1 ?_
  gi_wp2_with (first | ((with_reducible refine gate_load_in 86 rfl ?_); refine ev_load_rib_in rfl _ rfl _ rfl r (by exact rowt_) ?_))
  refine ⟨rfl, hR.mono ?_⟩
  rintro e W2 ⟨rfl, hJ2, hk2, hN2⟩
  have t7 : T1 (W.heap.size + 1 + 1) := by rw [hT1]; exact .inr (.inr (.inr rfl))
  have s7 := hk2.obj r7 t7
  have hO2 : OnAt L bl by_ bo W2 := ((HO.out.below HB1.out).keeps hk2 (by rw [hT1]; exact .inl hty) (by rw [hT1]; exact .inl hto))
  have x0 : W2.cell? ⟨W.heap.size + 1 + 1, 0, none⟩ = some (.bool false) := cell_row' s7 rfl
  have x1 : W2.frozen? ⟨W.heap.size + 1 + 1, 0, none⟩ = false := frozen_of_row W2 _ 0 _ _ s7
  have hsz := hk2.ext.size
  have HJ2 := Lib.hid hJ2
  have HK2 := Lib.hid hk2
  have HN2 := Lib.hid hN2
  have HO2 := Lib.hid hO2
  have S7 := Lib.hid s7
  clear hJ2 hk2 hN2 hO2 s7 r6 r7 oy1
  gi_wp2
  go_wp2_with fail
  have hst : Stays T1 W2 (W2.setCell ⟨W.heap.size + 1 + 1, 0, none⟩ (.bool true)) := stays_setCell W2 _ _ t7
  have hb2 : Below W.heap.size W2 (W2.setCell ⟨W.heap.size + 1 + 1, 0, none⟩ (.bool true)) := (Below.refl _ W2).setCell (by simp; omega) _
  have y0 : (W2.setCell ⟨W.heap.size + 1 + 1, 0, none⟩ (.bool true)).cell? ⟨W.heap.size + 1 + 1, 0, none⟩ = some (.bool true) := cset_same (some_of x0)
  refine bodyPost_ret (v := .bool true) (by simp [results, Tryd.results88, go_sem, y0]) rfl ?_
  refine ⟨rfl, HN.out.far HN2.out hb2, ⟨cell_far HO.out.y HO2.out.y hb2, cell_far HO.out.o HO2.out.o hb2⟩, ⟨(Ext.below HB1.out).trans (HK2.out.ext.trans hst.ext), fun b hb hTb => ?_⟩, T1, HJ.out (n + 1) T1 T1 W2 _ HJ2.out hst (fun b _ h => h), fun b hb => by rw [hT1]; exact .inl hb, fun b hb => Nat.lt_of_lt_of_le (HBD.out b hb) (Nat.le_trans hsz hst.ext.size)⟩
  exact (heap_put (by (try dsimp only); omega)).trans ((HK2.out.block b (by omega) (by rw [hT1]; exact .inl hTb.1)).trans (HB1.out.block b hb))
set_option maxRecDepth 8000 in
set_option maxHeartbeats 8000000 in
theorem on_step (l : PL) (a : Addr) (B : Option Addr) (c d m bl by_ bo L : Nat) (J : Nat → (Nat → Prop) → World → Prop) (hJ : Iter.Abides J) (xs : List (Nat → Bool)) (k : Nat) (x : Kn) (ks : List Kn) (hk : l.knots[k]? = some x)
    (ih : ∀ (r : Nat → Bool) (n : Nat) (T : Nat → Prop) (W : World), (∀ j, j < (l.truths ks r).length → xs[n + j]? = (l.truths ks r)[j]?) → J n T W → (∀ b, T b → b < W.heap.size) → T m → T by_ → T bo → TruthsNeed l a B c d m bl W → OnAt L bl by_ bo W →
      Calls Tryd.prog 88 #[.int .i64 ((k : Int) + 1), .agg (rv r), .pointer (some ⟨bl, 0, none⟩), .pointer (some ⟨by_, 0, none⟩), .pointer (some ⟨bo, 0, none⟩)] W (OnPost J (TruthsNeed l a B c d m bl) L bl by_ bo m (n + (l.truths ks r).length) T W))
    (r : Nat → Bool) (n : Nat) (T : Nat → Prop) (W : World) (hx : ∀ j, j < (l.truths (x :: ks) r).length → xs[n + j]? = (l.truths (x :: ks) r)[j]?) (h0 : J n T W) (hT : ∀ b, T b → b < W.heap.size) (htm : T m) (hty : T by_) (hto : T bo) (hN : TruthsNeed l a B c d m bl W) (hO : OnAt L bl by_ bo W) :
    Calls Tryd.prog 88 #[.int .i64 k, .agg (rv r), .pointer (some ⟨bl, 0, none⟩), .pointer (some ⟨by_, 0, none⟩), .pointer (some ⟨bo, 0, none⟩)] W (OnPost J (TruthsNeed l a B c d m bl) L bl by_ bo m (n + (l.truths (x :: ks) r).length) T W) := by
  have hklt : k < l.knots.length := (List.getElem?_eq_some_iff.1 hk).1
  have hkne : ((k : Int) == (l.knots.length : Int)) = false := beq_eq_false_iff_ne.2 (by omega)
  have hkl := hN.log.ok.knots3
  have q0 := hN.q0
  have q1 := hN.q1
  have q2 := hN.q2
  have q3 := hN.q3
  have hB := (((Below.refl _ W).alloc (Nat.le_refl _) (.cells #[.int .i64 k] 3)).alloc (by simp) (.cells (rv r) 86)).alloc (by simp; omega) (.cells #[.bool false] 4)
  obtain ⟨W1, hW1⟩ : ∃ W1, W1 = ((W.alloc (.cells #[.int .i64 k] 3)).alloc (.cells (rv r) 86)).alloc (.cells #[.bool false] 4) := ⟨_, rfl⟩
  rw [← hW1] at hB
  have z1 : W1.heap.size = W.heap.size + 3 := by rw [hW1]; simp
  have r5 : W1.heap[W.heap.size]? = some (.cells #[.int .i64 k] 3 (0, 0)) := by rw [hW1]; exact rowt_
  have r6 : W1.heap[W.heap.size + 1]? = some (.cells (rv r) 86 (0, 0)) := by rw [hW1]; exact rowt_
  have r7 : W1.heap[W.heap.size + 1 + 1]? = some (.cells #[.bool false] 4 (0, 0)) := by rw [hW1]; exact rowt_
  have q0 := cell_below hB hN.q0
  have q1 := cell_below hB hN.q1
  have q2 := cell_below hB hN.q2
  have q3 := cell_below hB hN.q3
  have e5 : W1.cell? ⟨W.heap.size, 0, none⟩ = some (.int .i64 k) := cell_row' r5 rfl
  have HB := Lib.hid hB
  have HN := Lib.hid hN
  have HN1 := Lib.hid (hN.below hB)
  have HO := Lib.hid hO
  have HJ := Lib.hid hJ
  have H0 := Lib.hid h0
  have HX := Lib.hid hx
  have HT := Lib.hid hT
  have HK := Lib.hid hk
  have IH := Lib.hid ih
  have R5 := Lib.hid r5
  have R6 := Lib.hid r6
  have R7 := Lib.hid r7
  clear hB hN hO hJ h0 hx hT hk ih r5 r6 r7
  refine callsIn_wide.1 (callsIn_of_wp_marks (n := 0) Tryd.func88 rfl trivial ?_)
  simp only [Tryd.ntmps88, List.size_toArray, List.length_cons, List.length_nil, Nat.reduceAdd, Nat.reduceSub, Array.replicate_succ, Array.replicate_zero, List.push_toArray, List.append_toArray, List.nil_append, List.cons_append]
  refine wpIn_wide.2 ?_
  go_upto_region 1 with (first | ((with_reducible refine gate_box 86 rfl ?_); refine ev_box_rib rfl _ rfl r rfl ?_))
  rw [← hW1]
  clear hW1
  go_wp2_with fail
  refine (spots_any HN1.out.log HN1.out.ends k).mono ?_
  rintro e w ⟨bl2, bk2, rfl, hb1, hsn, hl2, hk2⟩
  have z2 := hb1.size
  have HSN := Lib.hid hsn
  have HNw := Lib.hid (HN1.out.below hb1)
  have HOw := Lib.hid ((HO.out.below HB.out).below hb1)
  have R5w := Lib.hid (row_below hb1 R5.out (by omega))
  have R6w := Lib.hid (row_below hb1 R6.out (by omega))
  have R7w := Lib.hid (row_below hb1 R7.out (by omega))
  have HBw := Lib.hid (bb HB.out hb1)
  obtain ⟨T0, hT0⟩ : ∃ T0 : Nat → Prop, T0 = fun b => T b ∨ (W.heap.size ≤ b ∧ b < w.heap.size) := ⟨_, rfl⟩
  have HT0 := Lib.hid hT0
  have hT0b : ∀ b, T0 b → b < w.heap.size := fun b h => by rw [hT0] at h; rcases h with h | h; (have := HT.out b h; omega); exact h.2
  have HT0B := Lib.hid hT0b
  have HL2 := Lib.hid hl2
  have HK2 := Lib.hid hk2
  have hJw : J n T0 w := HJ.out n T T0 W w H0.out (Stays.of_below HBw.out) (fun b hb hn h => by rw [hT0] at h; rcases h with h | h; exact hn h; omega)
  have HJW := Lib.hid hJw
  clear hb1 hsn hT0 hT0b hJw q0 q1 q2 q3 e5 hl2 hk2
  go_wp2_with fail
  refine (wpIn_wide (n := 0)).1 ?_
  refine range_law (gf := 96) (lb := #[.pointer (some ⟨bl2, 0, none⟩), .pointer (some ⟨bk2, 0, none⟩)]) rfl (enters_of Tryd.func96 (by kernel_rfl) rfl)
    (spots_yields l a B c d m bl2 bk2 k x HK.out) (fun _ => rfl) (OnRange J (TruthsNeed l a B c d m bl) L bl by_ bo m n l ks x r T0 w) (onRange_abides HJ.out HNw.out HOw.out HT0B.out) (fun b h => h.elim) HSN.out
    (fun V V' hV hsz hs => ?hN) (fun V hV => ?h0) ?hround ?hdone
  case hN => exact HSN.out.far hV (hs.below hsz (fun b hb h => by omega))
  case h0 =>
    have hJV : J n (fun b => T0 b ∨ (w.heap.size ≤ b ∧ b < V.heap.size)) V := HJ.out n T0 _ w V HJW.out (Stays.of_below hV) (fun b hb hn h => by rcases h with h | h; exact hn h; omega)
    refine ⟨⟨fun b => T0 b ∨ (w.heap.size ≤ b ∧ b < V.heap.size), by simpa [PL.upto] using hJV, ?_, ?_, fun b h => .inl h⟩, ?_, hV.size, HNw.out.below hV, HOw.out.below hV, Keeps.of_below hV⟩
    · intro b h
      rcases h with h | h
      · exact Nat.lt_of_lt_of_le (HT0B.out b h) hV.size
      · exact h.2
    · intro b hb h
      rcases h with h | h | h
      · exact h.elim
      · exact .inr ⟨by omega, hb⟩
      · exact .inr ⟨by omega, hb⟩
    · intro b h
      rcases h with h | h | h
      · exact h.elim
      · omega
      · omega
  case hdone =>
    rintro D V ⟨⟨TJ, hj, hjb, hjt, hj0⟩, hDt, hsz, hneed, hat, hkeep⟩ hsn hDa hDb hK
    have hm : m < W.heap.size := by obtain ⟨es, cl, h1, _⟩ := HN.out.marks; exact (Array.getElem?_eq_some_iff.1 h1).1
    have t07 : T0 (W.heap.size + 1 + 1) := by rw [HT0.out]; exact .inr ⟨by omega, by omega⟩
    have s7 := hkeep.obj R7w.out ⟨t07, by omega⟩
    have x0 : V.cell? ⟨W.heap.size + 1 + 1, 0, none⟩ = some (.bool false) := cell_row' s7 rfl
    have x1 : V.frozen? ⟨W.heap.size + 1 + 1, 0, none⟩ = false := frozen_of_row V _ 0 _ _ s7
    have hwV : w.heap.size < V.heap.size := (Array.getElem?_eq_some_iff.1 hK).1
    have HJV := Lib.hid hj
    have HK := Lib.hid hK
    have HS7 := Lib.hid s7
    clear hj hK s7
    gi_wp2
    go_wp2_with fail
    have y0 : ((V.setCell ⟨W.heap.size + 1 + 1, 0, none⟩ (.bool true)).putObj w.heap.size (.deferred none)).cell? ⟨W.heap.size + 1 + 1, 0, none⟩ = some (.bool true) := by
      have e1 : ((V.setCell ⟨W.heap.size + 1 + 1, 0, none⟩ (.bool true)).putObj w.heap.size (.deferred none)).heap[W.heap.size + 1 + 1]? = (V.setCell ⟨W.heap.size + 1 + 1, 0, none⟩ (.bool true)).heap[W.heap.size + 1 + 1]? := World.putObj_heap_other (by omega)
      have e2 : (V.setCell ⟨W.heap.size + 1 + 1, 0, none⟩ (.bool true)).cell? ⟨W.heap.size + 1 + 1, 0, none⟩ = some (.bool true) := cset_same (some_of x0)
      rw [← e2]
      simp only [World.cell?, e1]
    have hst : Stays TJ V ((V.setCell ⟨W.heap.size + 1 + 1, 0, none⟩ (.bool true)).putObj w.heap.size (.deferred none)) := (stays_setCell V _ _ (hj0 _ t07)).trans (stays_putObj _ _ _ (hjt _ hwV hDa))
    have hb2 : Below W.heap.size V ((V.setCell ⟨W.heap.size + 1 + 1, 0, none⟩ (.bool true)).putObj w.heap.size (.deferred none)) :=
      ⟨hst.ext.os, hst.ext.tape, hst.ext.output, hst.ext.size, fun b hb => (World.putObj_heap_other (by omega)).trans (heap_put (by (try dsimp only); omega))⟩
    have hKd : (V.setCell ⟨W.heap.size + 1 + 1, 0, none⟩ (.bool true)).heap[w.heap.size]? = some (.deferred (some [])) := (heap_put (by (try dsimp only); omega)).trans HK.out
    refine ⟨by simp, .inl ⟨_, _, rfl, run_takeDeferred hKd, ?_⟩⟩
    refine ⟨.bool true, (by simp [results, Tryd.results88, go_sem, y0]), ?_⟩
    refine ⟨rfl, HN.out.far hneed hb2, ⟨cell_far HO.out.y hat.y hb2, cell_far HO.out.o hat.o hb2⟩, ⟨(Ext.below HBw.out).trans (hkeep.ext.trans hst.ext), fun b hb hTb => ?_⟩, TJ, ?_, fun b hb => hj0 b (by rw [HT0.out]; exact .inl hb), fun b hb => Nat.lt_of_lt_of_le (hjb b hb) hst.ext.size⟩
    · exact (hb2.block b hb).trans ((hkeep.block b (by have := HBw.out.size; omega) ⟨by rw [HT0.out]; exact .inl hTb.1, hTb.2⟩).trans (HBw.out.block b hb))
    · have e : l.upto ks x r x.spots.length = (l.truths (x :: ks) r).length := by unfold PL.upto; rw [List.take_length]; rfl
      rw [← e]
      exact HJ.out _ TJ TJ V _ HJV.out hst (fun b _ h => h)
  case hround =>
    rintro i ⟨s1, s2⟩ D V hs hVsz ⟨⟨TJ, hj, hjb, hjt, hj0⟩, hDt, hsz, hneed, hat, hkeep⟩ hsn hDa hDb hDbd
    dsimp only [spotV]
    gi_wp2
    have hV1 : Below V.heap.size V (V.alloc (.cells #[.int .i64 s1, .int .i64 s2] 102)) := (Below.refl _ V).alloc (Nat.le_refl _) _
    refine ⟨hV1, fun V1 hst1 => ?_⟩
    -- what is there at the head of the round
    have hm : m < W.heap.size := by obtain ⟨es, cl, h1, _⟩ := HN.out.marks; exact (Array.getElem?_eq_some_iff.1 h1).1
    have zV1 : V.heap.size + 1 ≤ V1.heap.size := by have := hst1.ext.size; simpa using this
    have hb01 : Below w.heap.size V V1 := (hV1.mono hsz).trans (hst1.below (by simp; omega) (fun b hb h => by omega))
    have need1 : TruthsNeed l a B c d m bl V1 := HNw.out.far hneed hb01
    have on1 : OnAt L bl by_ bo V1 := ⟨cell_far HOw.out.y hat.y hb01, cell_far HOw.out.o hat.o hb01⟩
    have k5 : V1.heap[W.heap.size]? = some (.cells #[.int .i64 k] 3 (0, 0)) := row_below hb01 (hkeep.obj R5w.out ⟨by rw [HT0.out]; exact .inr ⟨by omega, by omega⟩, by omega⟩) (by omega)
    have k6 : V1.heap[W.heap.size + 1]? = some (.cells (rv r) 86 (0, 0)) := row_below hb01 (hkeep.obj R6w.out ⟨by rw [HT0.out]; exact .inr ⟨by omega, by omega⟩, by omega⟩) (by omega)
    have k8 : V1.heap[V.heap.size]? = some (.cells #[.int .i64 s1, .int .i64 s2] 102 (0, 0)) := hst1.obj (heap_alloc_new V _) (by omega)
    have c5 : V1.cell? ⟨W.heap.size, 0, none⟩ = some (.int .i64 k) := cell_row' k5 rfl
    have c80 : V1.cell? ⟨V.heap.size, 0, none⟩ = some (.int .i64 s1) := cell_row' (i := 0) k8 rfl
    have c81 : V1.cell? ⟨V.heap.size, 1, none⟩ = some (.int .i64 s2) := cell_row' (i := 1) k8 rfl
    have q0 := need1.q0
    have q1 := need1.q1
    have q2 := need1.q2
    have q3 := need1.q3
    have lt2 : bl < V1.heap.size := World.block_lt_of_cell? V1 _ q0
    have N1 := Lib.hid need1
    have O1 := Lib.hid on1
    have K6 := Lib.hid k6
    have K5 := Lib.hid k5
    have HB01 := Lib.hid hb01
    have HST1 := Lib.hid hst1
    have HVJ := Lib.hid hj
    have HSPOT := Lib.hid hs
    clear need1 on1 hst1 hb01 hj hs k5 k8 hV1
    gi_upto_region 6 with (first | ((with_reducible refine gate_alloc_in 86 rfl ?_); refine ev_alloc_rib_in rfl rfl ?_) | ((with_reducible refine gate_load_in 86 rfl ?_); refine ev_load_rib_in rfl _ rfl _ rfl r (by exact rowt_) ?_) | ((with_reducible refine gate_store_in 86 rfl ?_); refine ev_store_rib_in rfl rfl _ _ rfl _ rfl none72 r rfl (by exact rowt_) ?_))
    obtain ⟨V2, hV2⟩ : ∃ V2, V2 = (V1.alloc (.cells (rv none72) 86)).setRow V1.heap.size (rv r) := ⟨_, rfl⟩
    rw [← hV2]
    have hb12 : Below V1.heap.size V1 V2 := by rw [hV2]; exact ((Below.refl _ V1).alloc (Nat.le_refl _) _).trans ((only_setRow _ _ _).below (Nat.le_refl _))
    have z12 : V2.heap.size = V1.heap.size + 1 := by rw [hV2]; simp
    have k9 : V2.heap[V1.heap.size]? = some (.cells (rv r) 86 (0, 0)) := by rw [hV2]; exact rowt_
    have q0 := cell_below hb12 q0
    have q1 := cell_below hb12 q1
    have q2 := cell_below hb12 q2
    have q3 := cell_below hb12 q3
    have c80 := cell_below hb12 c80
    have c81 := cell_below hb12 c81
    have K9 := Lib.hid k9
    have N2 := Lib.hid (N1.out.below hb12)
    have O2 := Lib.hid (O1.out.below hb12)
    have HB12 := Lib.hid hb12
    clear hV2 k9 k6 hb12
    gi_wp2
    have hsb := spots_bd (N2.out.log.ok.knots x (List.mem_of_getElem? HK.out)) HSPOT.out
    refine ⟨trivial, rfl, ?_⟩
    refine (CallsIn.inRound _ (callsIn_wide.2 (mark_any N2.out.log s1 s2 hsb.1 hsb.2.1 hsb.2.2.1 hsb.2.2.2 N2.out.marks))).mono ?_
    rintro e V3 ⟨rfl, htu, hmk⟩
    obtain ⟨mk, hmkd⟩ : ∃ mk, mk = l.mark (s1, s2) := ⟨_, rfl⟩
    have HMKD := Lib.hid hmkd
    rw [← hmkd]
    have hm9 : V1.heap.size ≠ m := by have := HB01.out.size; omega
    have z23 := htu.ext.size
    have j9 := htu.obj K9.out hm9
    have hb23 : ∀ b, b < V2.heap.size → b ≠ m → V3.heap[b]? = V2.heap[b]? := htu.block
    have HTU := Lib.hid htu
    have HMK := Lib.hid hmk
    have J9 := Lib.hid j9
    have hidx : ∀ (w : World) (k : Nat), (k : Int) < 72 → (Instr.index 86 (.agg (rv mk)) (.int .i64 k)).run Tryd.prog w = .ok (.bool (mk k)) w := fun w k hk => by have := index_rib (w := w) (r := mk) (i := k) (by omega) hk; simpa using this
    clear htu hmk j9 hmkd c80 c81 hb23
    gi_wp2
    gi_loopw [29] (fun p Wl => ∃ j : Nat, p = .int .i64 j ∧ j ≤ 72 ∧ Wl.heap[V1.heap.size]? = some (.cells (rv (orTo r mk j)) 86 (0, 0)) ∧ Stays (fun b => b = V1.heap.size) V3 Wl) (fun p _ => 72 - (intOf p).toNat)
    case atStart => exact ⟨0, rfl, by omega, by rw [orTo_zero]; exact J9.out, Stays.refl _ _⟩
    case round =>
      obtain ⟨j, rfl, hj72, hrow, hstl⟩ := hrel
      have HROW := Lib.hid hrow
      have HSTL := Lib.hid hstl
      have zl := hstl.ext.size
      clear hstl
      by_cases hjlt : j < 72
      · have hji : (j : Int) < 72 := by omega
        have hj0 : (0 : Int) ≤ (j : Int) := by omega
        have x0 : wr.cell? ⟨V1.heap.size, j, none⟩ = some (.bool (orTo r mk j j)) := cell_row' hrow (rv_get _ j hjlt)
        have x1 : wr.frozen? ⟨V1.heap.size, j, none⟩ = false := frozen_of_row wr _ j _ _ hrow
        have hix := hidx wr j hji
        clear hrow hidx
        have HOS := Lib.hid (fun i => orTo_succ r mk j i)
        cases hb : orTo r mk j j
        · rw [hb] at x0
          gi_wp2
          refine ⟨⟨j + 1, by go_num, by omega, ?_, HSTL.out.trans (stays_setCell _ _ _ rfl)⟩, by simp [intOf]; omega⟩
          rw [blk_set HROW.out j _, rv_set]
          congr 2
          refine rv_congr fun i hi => ?_
          rw [HOS.out i]
          by_cases hij : i = j
          · subst hij; simp [hb]
          · simp [hij]
        · rw [hb] at x0
          gi_wp2
          refine ⟨⟨j + 1, by go_num, by omega, ?_, HSTL.out.trans (stays_setCell _ _ _ rfl)⟩, by simp [intOf]; omega⟩
          rw [blk_set HROW.out j _, rv_set]
          congr 2
          refine rv_congr fun i hi => ?_
          rw [HOS.out i]
          by_cases hij : i = j
          · subst hij; simp [hb]
          · simp [hij]
      · obtain rfl : j = 72 := by omega
        rw [orTo_all] at hrow
        have hmk := HMKD.out
        subst hmk
        have zz : V.heap.size < V1.heap.size ∧ V1.heap.size < V2.heap.size := by omega
        have hkept := cellsKept_turned N2.out.marks HTU.out
        have need3 := N2.out.turned HTU.out HMK.out
        have hb3r : Below V1.heap.size V3 wr := HSTL.out.below (by omega) (fun b hb h => by omega)
        have need4 : TruthsNeed l a B c d m bl wr := N1.out.far need3 hb3r
        have on4 : OnAt L bl by_ bo wr := ⟨cell_far O1.out.y (hkept _ _ O2.out.y) hb3r, cell_far O1.out.o (hkept _ _ O2.out.o) hb3r⟩
        have c54 : wr.cell? ⟨W.heap.size, 0, none⟩ = some (.int .i64 k) := cell_far c5 (hkept _ _ (cell_below HB12.out c5)) hb3r
        have co4 := on4.o
        have hw1 : IntKind.i64.wrap ((k : Int) + 1) = (k : Int) + 1 := IntWalk.i64_in _ (by omega)
        obtain ⟨T4, hT4⟩ : ∃ T4 : Nat → Prop, T4 = fun b => TJ b ∨ (V.heap.size ≤ b ∧ b < wr.heap.size) := ⟨_, rfl⟩
        have hmT : TJ m := hj0 m (by rw [HT0.out]; exact .inl htm)
        have hdT : TJ (w.heap.size + 1) := hjt _ (by omega) hDb
        have hstay : Stays (fun b => b = m ∨ b = w.heap.size + 1 ∨ V.heap.size ≤ b) V wr := by
          refine (Stays.of_below ((Below.refl _ V).alloc (Nat.le_refl _) (.cells #[.int .i64 s1, .int .i64 s2] 102))).trans ((HST1.out.mono ?_).trans ((Stays.of_below HB12.out).trans ((HTU.out.mono ?_).trans (HSTL.out.mono ?_))))
          · rintro b _ rfl; exact .inr (.inl rfl)
          · rintro b _ rfl; exact .inl rfl
          · rintro b _ rfl; exact .inr (.inr (by omega))
        have hJ4 : J (n + l.upto ks x r i) T4 wr := HJ.out _ TJ T4 V wr HVJ.out (hstay.mono fun b hb h => by rcases h with rfl | rfl | h; exact hmT; exact hdT; omega) (fun b hb hn h => by rw [hT4] at h; rcases h with h | h; exact hn h; omega)
        have hb4 : ∀ b, T4 b → b < wr.heap.size := fun b h => by rw [hT4] at h; rcases h with h | h; (have := hjb b h; omega); exact h.2
        have hfl := flatMap_at (fun s => l.truths ks fun j => r j || l.mark s j) x.spots i (s1, s2) HSPOT.out
        have hxs4 : ∀ j, j < (l.truths ks fun j => r j || l.mark (s1, s2) j).length → xs[n + l.upto ks x r i + j]? = (l.truths ks fun j => r j || l.mark (s1, s2) j)[j]? := fun j hj => by
          obtain ⟨h1, h2⟩ := hfl.2 j hj
          rw [← h2, Nat.add_assoc]
          exact HX.out _ h1
        have hcall := IH.out (fun j => r j || l.mark (s1, s2) j) (n + l.upto ks x r i) T4 wr hxs4 hJ4 hb4 (by rw [hT4]; exact .inl hmT) (by rw [hT4]; exact .inl (hj0 _ (by rw [HT0.out]; exact .inl hty))) (by rw [hT4]; exact .inl (hj0 _ (by rw [HT0.out]; exact .inl hto))) need4 on4
        have HCALL := Lib.hid hcall
        have HSTAY := Lib.hid hstay
        have HUP := Lib.hid hfl.1
        clear hcall hstay hfl hxs4 hJ4 hb4 need3 need4 on4 hkept hidx hb3r q0 q1 q2 q3 c5
        gi_wp2_with ((with_reducible refine gate_load_in 86 rfl ?_); refine ev_load_rib_in rfl _ rfl _ rfl (fun j => r j || l.mark (s1, s2) j) (by exact rowt_) ?_)
        refine ⟨trivial, rfl, ?_⟩
        refine (CallsIn.inRound _ (callsIn_wide.2 HCALL.out)).mono ?_
        rintro e V5 ⟨rfl, need5, on5, keeps5, T5, hJ5, hT5, hb5⟩
        have HJ5 := Lib.hid hJ5
        have HN5 := Lib.hid need5
        have HO5 := Lib.hid on5
        have HK5 := Lib.hid keeps5
        have HT5 := Lib.hid hT5
        have HB5 := Lib.hid hb5
        clear hJ5 need5 on5 keeps5 hT5 hb5
        gi_wp2
        have hk5w : Keeps (fun b => T0 b ∧ b ≠ m) w V5 := by
          refine ⟨hkeep.ext.trans (HSTAY.out.ext.trans HK5.out.ext), fun b hb h => ?_⟩
          refine (HK5.out.block b (by omega) ⟨by rw [hT4]; exact .inl (hj0 b h.1), h.2⟩).trans ((HSTAY.out.block b (by omega) (fun hc => ?_)).trans (hkeep.block b hb h))
          rcases hc with hc | hc | hc
          · exact h.2 hc
          · omega
          · omega
        have hb2m : bl2 ≠ m := by have := HL2.out; omega
        have hk2m : bk2 ≠ m := by have := HK2.out; omega
        have hb2T : T0 bl2 := by rw [HT0.out]; exact .inr ⟨by have := HL2.out; omega, World.block_lt_of_cell? w _ HSN.out.q0⟩
        have hk2T : T0 bk2 := by rw [HT0.out]; exact .inr ⟨by have := HK2.out; omega, World.block_lt_of_cell? w _ HSN.out.k⟩
        refine ⟨⟨⟨T5, ?_, HB5.out, fun b _ h => HT5.out b (by rw [hT4]; exact .inl (hjt b (hDbd b h) h)), fun b h => HT5.out b (by rw [hT4]; exact .inl (hj0 b h))⟩, hDt, by have := HK5.out.ext.size; omega, HN5.out, HO5.out, hk5w⟩, ⟨?_, fun b hb h => ?_⟩, ⟨HN5.out.log, HN5.out.ends, keeps_cell hk5w ⟨hb2T, hb2m⟩ HSN.out.q0, keeps_cell hk5w ⟨hb2T, hb2m⟩ HSN.out.q1, keeps_cell hk5w ⟨hb2T, hb2m⟩ HSN.out.q2, keeps_cell hk5w ⟨hb2T, hb2m⟩ HSN.out.q3, keeps_cell hk5w ⟨hk2T, hk2m⟩ HSN.out.k⟩⟩
        · have e : n + l.upto ks x r (i + 1) = n + l.upto ks x r i + (l.truths ks fun j => r j || l.mark (s1, s2) j).length := by
            unfold PL.upto
            rw [HUP.out]
            omega
          rw [e]
          exact HJ5.out
        · exact (Ext.below HB12.out).trans (HTU.out.ext.trans (HSTL.out.ext.trans HK5.out.ext))
        · have h1 := hDt b h
          have h2 := hDbd b h
          exact (HK5.out.block b (by omega) ⟨by rw [hT4]; exact .inl (hjt b h2 h), by omega⟩).trans ((HSTL.out.block b (by omega) (by omega)).trans ((HTU.out.block b (by omega) (by omega)).trans (HB12.out.block b hb)))
end Go.Proofs.YtigofgdmefobaaaDoor.Peel

/- Walks of package peel: the truths of a log, as an iterator. -/
set_option linter.unusedVariables false
set_option linter.unusedSimpArgs false
namespace Go.Proofs.YtigofgdmefobaaaDoor.Peel
open Go.RowKit Go.Proofs.YtigofgdmefobaaaDoor.Iter
attribute [local go_sem] Oper.semAt_some
theorem on_any (l : PL) (a : Addr) (B : Option Addr) (c d m bl by_ bo L : Nat) (J : Nat → (Nat → Prop) → World → Prop) (hJ : Iter.Abides J) (xs : List (Nat → Bool))
    (hY : ∀ n x T W1, xs[n]? = some x → J n T W1 → TruthsNeed l a B c d m bl W1 → (∀ b, T b → b < W1.heap.size) → YieldAt Fence.wide 0 Tryd.prog L (ribV x) W1 fun e W2 => e = .returned (.bool true) ∧ J (n + 1) T W2 ∧ Keeps T W1 W2 ∧ TruthsNeed l a B c d m bl W2) :
    ∀ (rem : List Kn) (k : Nat), l.knots.drop k = rem → k ≤ l.knots.length → ∀ (r : Nat → Bool) (n : Nat) (T : Nat → Prop) (W : World), (∀ j, j < (l.truths rem r).length → xs[n + j]? = (l.truths rem r)[j]?) → J n T W → (∀ b, T b → b < W.heap.size) → T m → T by_ → T bo → TruthsNeed l a B c d m bl W → OnAt L bl by_ bo W →
      Calls Tryd.prog 88 #[.int .i64 k, .agg (rv r), .pointer (some ⟨bl, 0, none⟩), .pointer (some ⟨by_, 0, none⟩), .pointer (some ⟨bo, 0, none⟩)] W (OnPost J (TruthsNeed l a B c d m bl) L bl by_ bo m (n + (l.truths rem r).length) T W) := by
  intro rem
  induction rem with
  | nil =>
    intro k hd hk r n T W hx h0 hT htm hty hto hN hO
    have hkl : k = l.knots.length := by
      have := congrArg List.length hd
      simp at this
      omega
    subst hkl
    have := hx 0 (by simp [PL.truths])
    exact on_base l a B c d m bl by_ bo L J hJ xs hY r n T W (by simpa [PL.truths] using this) h0 hT hty hto hN hO
  | cons x ks ih =>
    intro k hd hk r n T W hx h0 hT htm hty hto hN hO
    have hkx : l.knots[k]? = some x := by
      have := congrArg (fun q => q[0]?) hd
      simpa using this
    have hks : l.knots.drop (k + 1) = ks := by
      have := congrArg List.tail hd
      simpa using this
    refine on_step l a B c d m bl by_ bo L J hJ xs k x ks hkx ?_ r n T W hx h0 hT htm hty hto hN hO
    have := ih (k + 1) hks (List.getElem?_eq_some_iff.1 hkx).1
    simpa using this
set_option maxRecDepth 8000 in
set_option maxHeartbeats 4000000 in
theorem truths_yields (l : PL) (a : Addr) (B : Option Addr) (c d m bl : Nat) :
    Iter.Yields Tryd.prog 87 #[.pointer (some ⟨bl, 0, none⟩)] ribV (l.truths l.knots none72) (fun b => b = m) (TruthsNeed l a B c d m bl) := by
  intro L J W hN hJ hY h0
  have hm : m < W.heap.size := by obtain ⟨es, cl, h1, _⟩ := hN.marks; exact (Array.getElem?_eq_some_iff.1 h1).1
  have HN := Lib.hid hN
  have HY := Lib.hid hY
  have H0 := Lib.hid h0
  have HJ := Lib.hid hJ
  clear hN hY h0 hJ
  simp only [List.push_toArray, List.append_toArray, List.cons_append, List.nil_append]
  refine callsIn_wide.2 ?_
  go_enter Tryd.func87, Tryd.ntmps87
  go_upto_region 3 with (fail)
  obtain ⟨W1, hW1⟩ : ∃ W1, W1 = (W.alloc (.cells #[.func (.yield L) #[] #[]] 111)).alloc (.cells #[.func (.func 88) #[] #[.pointer (some ⟨bl, 0, none⟩), .pointer (some ⟨W.heap.size, 0, none⟩), .pointer (some ⟨W.heap.size + 1, 0, none⟩)]] 112) := ⟨_, rfl⟩
  have z1 : W1.heap.size = W.heap.size + 2 := by rw [hW1]; simp
  have hb1 : Below W.heap.size W W1 := by rw [hW1]; exact ((Below.refl _ W).alloc (Nat.le_refl _) _).alloc (by simp) _
  have on1 : OnAt L bl W.heap.size (W.heap.size + 1) W1 := by
    rw [hW1]
    exact ⟨cell_row' (i := 0) (by exact rowt_) rfl, cell_row' (i := 0) (by exact rowt_) rfl⟩
  rw [← hW1]
  clear hW1
  have hJ1 : J 0 (fun b => b = m ∨ b = W.heap.size ∨ b = W.heap.size + 1) W1 := HJ.out 0 _ _ W W1 H0.out (Stays.of_below hb1) (fun b hb hn h => by rcases h with h | h | h; exact hn h; omega; omega)
  have co := on1.o
  have O1 := Lib.hid on1
  have HJ1 := Lib.hid hJ1
  have HB1 := Lib.hid hb1
  have hyd : ∀ n x T W1, (l.truths l.knots none72)[n]? = some x → J n T W1 → TruthsNeed l a B c d m bl W1 → (∀ b, T b → b < W1.heap.size) → YieldAt Fence.wide 0 Tryd.prog L (ribV x) W1 fun e W2 => e = .returned (.bool true) ∧ J (n + 1) T W2 ∧ Keeps T W1 W2 ∧ TruthsNeed l a B c d m bl W2 := HY.out
  have hon := on_any l a B c d m bl W.heap.size (W.heap.size + 1) L J HJ.out (l.truths l.knots none72) hyd l.knots 0 rfl (Nat.zero_le _) none72 0
  have HON := Lib.hid hon
  clear on1 hJ1 hb1 hon hyd
  go_region_held3 (fun w' => w'.cell? ⟨W.heap.size + 1, 0, none⟩ = some (.func (.func 88) #[] #[.pointer (some ⟨bl, 0, none⟩), .pointer (some ⟨W.heap.size, 0, none⟩), .pointer (some ⟨W.heap.size + 1, 0, none⟩)]))
    (first | go_keep | exact cell_below hb' (by assumption) | exact HP.out.at_.o)
    (first
      | (go_at_call 90; refine (clean_any _).mono ?_; rintro e w' ⟨rfl, hb'⟩)
      | (go_at_call 88; refine (HON.out _ w' (fun j hj => by simp) (HJ.out 0 _ _ W1 _ HJ1.out (Stays.of_below (by (repeat' (first | exact Below.refl _ _ | assumption | with_reducible refine bdrew ?_ | with_reducible refine balloc ?_ _ | with_reducible refine bset ?_ _ _ (by first | omega | (simp; done) | (simp; omega) | (dsimp only; omega)) | with_reducible refine bb ?_ (by assumption))))) (fun b hb hn h => hn h)) (fun b hb => by have := hb'.size; rcases hb with h | h | h <;> simp at this <;> omega) (.inl rfl) (.inr (.inl rfl)) (.inr (.inr rfl)) (HN.out.below (bb HB1.out (by (repeat' (first | exact Below.refl _ _ | assumption | with_reducible refine bdrew ?_ | with_reducible refine balloc ?_ _ | with_reducible refine bset ?_ _ _ (by first | omega | (simp; done) | (simp; omega) | (dsimp only; omega)) | with_reducible refine bb ?_ (by assumption)))))) (O1.out.below (by (repeat' (first | exact Below.refl _ _ | assumption | with_reducible refine bdrew ?_ | with_reducible refine balloc ?_ _ | with_reducible refine bset ?_ _ _ (by first | omega | (simp; done) | (simp; omega) | (dsimp only; omega)) | with_reducible refine bb ?_ (by assumption)))))).mono ?_; rintro e w'' hp; have hpe := hp.e; have HP := Lib.hid hp; clear hp; subst hpe))
  obtain ⟨T', hj', _, _⟩ := HP.out.j
  have HJ' := Lib.hid hj'
  clear hj'
  go_end0
  exact ⟨⟨_, rfl⟩, HP.out.need, T', by simpa using HJ'.out⟩
end Go.Proofs.YtigofgdmefobaaaDoor.Peel

/- Walks of package peel: the columns that have a knot in some truth. -/
set_option linter.unusedVariables false
set_option linter.unusedSimpArgs false
namespace Go.Proofs.YtigofgdmefobaaaDoor.Peel
open Go.RowKit Go.Proofs.YtigofgdmefobaaaDoor.Iter
attribute [local go_sem] Oper.semAt_some

theorem put_one (t : Array Value) (p : Tmp) (v : Value) : ((#[p] : Array Tmp).zip #[v]).foldl (fun t (p, v) => t.setIfInBounds p v) t = t.setIfInBounds p v := by simp
/-- What is in some of several ribbons. -/
def anyOf (xs : List (Nat → Bool)) : Nat → Bool := fun i => xs.any fun r => r i
def PL.possible (l : PL) : Nat → Bool := anyOf (l.truths l.knots none72)
theorem anyOf_succ (xs : List (Nat → Bool)) (i : Nat) (x : Nat → Bool) (h : xs[i]? = some x) : anyOf (xs.take (i + 1)) = fun j => anyOf (xs.take i) j || x j := by
  have hi := (List.getElem?_eq_some_iff.1 h)
  obtain ⟨hi, he⟩ := hi
  funext j
  unfold anyOf
  rw [List.take_succ_eq_append_getElem hi, List.any_append, he]
  simp
/-- A loop over truths that turns one block of its own, b3, from w on. -/
structure Loops (m b3 : Nat) (w : World) (T : Nat → Prop) (W : World) : Prop where
  t : ∀ b, T b → b = m ∨ w.heap.size ≤ b
  ext : Ext w W
  same : ∀ b, b < w.heap.size → b ≠ m → b ≠ b3 → W.heap[b]? = w.heap[b]?
theorem Loops.abides {m b3 : Nat} {w : World} {T T' : Nat → Prop} {W W' : World} (h : Loops m b3 w T W) (hs : Stays T W W') (hT : ∀ b, b < W.heap.size → ¬ T b → ¬ T' b) : Loops m b3 w T' W' := by
  refine ⟨fun b hb => ?_, h.ext.trans hs.ext, fun b hb h1 h2 => (hs.block b (by have := h.ext.size; omega) (fun ht => ?_)).trans (h.same b hb h1 h2)⟩
  · rcases Nat.lt_or_ge b W.heap.size with hlt | hge
    · exact h.t b (Classical.byContradiction fun hn => hT b hlt hn hb)
    · exact .inr (by have := h.ext.size; omega)
  · rcases h.t b ht with h | h <;> omega
theorem Loops.obj {m b3 : Nat} {w : World} {T : Nat → Prop} {W W' : World} (h : Loops m b3 w T W) (hs : Stays T W W') (hb : b3 < w.heap.size) (hm : b3 ≠ m) {o : Obj} (ho : W.heap[b3]? = some o) : W'.heap[b3]? = some o :=
  hs.obj ho fun ht => by rcases h.t b3 ht with h | h <;> omega
/-- A round that turned b3 alone, of what lay before. -/
theorem Loops.round {m b3 : Nat} {w : World} {T : Nat → Prop} {W W1 : World} (h : Loops m b3 w T W) (hs : Stays (fun b => b = b3 ∨ w.heap.size ≤ b) W W1) : Loops m b3 w T W1 :=
  ⟨h.t, h.ext.trans hs.ext, fun b hb h1 h2 => (hs.block b (by have := h.ext.size; omega) (fun ht => by rcases ht with h | h <;> omega)).trans (h.same b hb h1 h2)⟩
set_option maxRecDepth 8000 in
set_option maxHeartbeats 8000000 in
theorem possible_any {w0 : World} {l : PL} {a : Addr} {B : Option Addr} {c d m : Nat} (h : LogAt w0 l a B c d) (he : EndsAt w0) (hm : MarksAt l m w0) :
    Calls Tryd.prog 72 #[.agg #[.slice (some a) l.long.length c, .int .i64 l.size, .slice B l.knots.length d, .map (some m)]] w0 fun e w' => e = .returned (.agg (rv l.possible)) ∧ Turned m w0 w' ∧ MarksAt l m w' := by
  have hml : m < w0.heap.size := by obtain ⟨es, cl, h1, _⟩ := hm; exact (Array.getElem?_eq_some_iff.1 h1).1
  have hB := ((Below.refl _ w0).alloc (Nat.le_refl _) (.cells #[.slice (some a) l.long.length c, .int .i64 l.size, .slice B l.knots.length d, .map (some m)] 75)).alloc (by simp) (.cells (rv none72) 86)
  obtain ⟨W1, hW1⟩ : ∃ W1, W1 = (w0.alloc (.cells #[.slice (some a) l.long.length c, .int .i64 l.size, .slice B l.knots.length d, .map (some m)] 75)).alloc (.cells (rv none72) 86) := ⟨_, rfl⟩
  have z1 : W1.heap.size = w0.heap.size + 2 := by rw [hW1]; simp
  have r1 : W1.heap[w0.heap.size]? = some (.cells #[.slice (some a) l.long.length c, .int .i64 l.size, .slice B l.knots.length d, .map (some m)] 75 (0, 0)) := by rw [hW1]; exact rowt_
  have r2 : W1.heap[w0.heap.size + 1]? = some (.cells (rv none72) 86 (0, 0)) := by rw [hW1]; exact rowt_
  rw [← hW1] at hB
  have HB := Lib.hid hB
  have HL := Lib.hid h
  have HE := Lib.hid he
  have HM := Lib.hid hm
  have R1 := Lib.hid r1
  have R2 := Lib.hid r2
  clear h he hm hB r1 r2
  refine callsIn_wide.1 (callsIn_of_wp_marks (n := 0) Tryd.func72 rfl trivial ?_)
  simp only [Tryd.ntmps72, List.size_toArray, List.length_cons, List.length_nil, Nat.reduceAdd, Nat.reduceSub, Array.replicate_succ, Array.replicate_zero, List.push_toArray, List.append_toArray, List.nil_append, List.cons_append]
  refine wpIn_wide.2 ?_
  go_upto_region 1 with (first | ((with_reducible refine gate_alloc 86 rfl ?_); refine ev_alloc_rib rfl rfl ?_))
  rw [← hW1]
  clear hW1
  go_wp2_with fail
  refine (clean_any W1).mono ?_
  rintro e W2 ⟨rfl, hb2⟩
  have z2 := hb2.size
  have HB2 := Lib.hid hb2
  clear hb2
  go_upto_region 2 with (first | ((with_reducible refine gate_alloc 86 rfl ?_); refine ev_alloc_rib rfl rfl ?_) | ((with_reducible refine gate_store 86 rfl ?_); refine ev_store_rib rfl rfl _ _ rfl _ rfl none72 none72 rfl (by exact rowt_) ?_))
  obtain ⟨W3, hW3⟩ : ∃ W3, W3 = (W2.alloc (.cells (rv none72) 86)).setRow W2.heap.size (rv none72) := ⟨_, rfl⟩
  have z3 : W3.heap.size = W2.heap.size + 1 := by rw [hW3]; simp
  have hb3 : Below W2.heap.size W2 W3 := by rw [hW3]; exact ((Below.refl _ W2).alloc (Nat.le_refl _) _).trans ((only_setRow _ _ _).below (Nat.le_refl _))
  have r3 : W3.heap[W2.heap.size]? = some (.cells (rv none72) 86 (0, 0)) := by rw [hW3]; exact rowt_
  rw [← hW3]
  clear hW3
  have hb13 := bb HB2.out hb3
  have r1' := row_below hb13 R1.out (by omega)
  have q0 : W3.cell? ⟨w0.heap.size, 0, none⟩ = some (.slice (some a) l.long.length c) := cell_row' (i := 0) r1' rfl
  have q1 : W3.cell? ⟨w0.heap.size, 1, none⟩ = some (.int .i64 l.size) := cell_row' (i := 1) r1' rfl
  have q2 : W3.cell? ⟨w0.heap.size, 2, none⟩ = some (.slice B l.knots.length d) := cell_row' (i := 2) r1' rfl
  have q3 : W3.cell? ⟨w0.heap.size, 3, none⟩ = some (.map (some m)) := cell_row' (i := 3) r1' rfl
  have hb03 := bb HB.out hb13
  have HB03 := Lib.hid hb03
  have R3 := Lib.hid r3
  have R23 := Lib.hid (row_below hb13 R2.out (by omega))
  clear hb3 hb13 hb03 r3 r1'
  go_wp2_with fail
  refine (truths_any (HL.out.below HB03.out) (HE.out.below HB03.out) (HM.out.below HB03.out)).mono ?_
  rintro e w ⟨bl, rfl, hb4, hneed, hbl⟩
  have z4 := hb4.size
  have HN := Lib.hid hneed
  have HB4 := Lib.hid hb4
  have R3w := Lib.hid (row_below hb4 R3.out (by omega))
  have R2w := Lib.hid (row_below hb4 R23.out (by omega))
  have HB0 := Lib.hid (bb HB03.out hb4)
  have lbl : bl < w.heap.size := World.block_lt_of_cell? w _ hneed.q0
  clear hneed hb4 q0 q1 q2 q3
  go_wp2_with fail
  refine (wpIn_wide (n := 0)).1 ?_
  refine range_law (gf := 87) (lb := #[.pointer (some ⟨bl, 0, none⟩)]) rfl (enters_of Tryd.func87 (by kernel_rfl) rfl)
    (truths_yields l a B c d m bl) (fun _ => rfl) (fun i T W => W.heap[W2.heap.size]? = some (.cells (rv (anyOf ((l.truths l.knots none72).take i))) 86 (0, 0)) ∧ Loops m W2.heap.size w T W)
    ?hI (fun b h => by subst h; omega) HN.out (fun V V' hV hsz hs => HN.out.far hV (hs.below hsz (fun b hb h => by omega))) (fun V hV => ⟨?h0a, ?h0b⟩) ?hround ?hdone
  case hI =>
    rintro i T T' V V' ⟨hr, hl⟩ hs hT
    exact ⟨hl.obj hs (by omega) (by omega) hr, hl.abides hs hT⟩
  case h0a => exact row_below hV R3w.out (by omega)
  case h0b => exact ⟨fun b h => by rcases h with h | h | h; exact .inl h; exact .inr (by omega); exact .inr (by omega), Ext.below hV, fun b hb _ _ => hV.block b hb⟩
  case hdone =>
    rintro D V ⟨hr, hl⟩ hneed hDa hDb hK
    rw [List.take_length] at hr
    have zV := hl.ext.size
    have k2 : V.heap[w0.heap.size + 1]? = some (.cells (rv none72) 86 (0, 0)) := (hl.same _ (by omega) (by omega) (by omega)).trans R2w.out
    have HR := Lib.hid hr
    have HL2 := Lib.hid hl
    have HN2 := Lib.hid hneed
    have HK := Lib.hid hK
    have hwV : w.heap.size < V.heap.size := (Array.getElem?_eq_some_iff.1 hK).1
    clear hl hneed hK
    gi_wp2
    go_wp2_with (first | ((with_reducible refine gate_load 86 rfl ?_); refine ev_load_rib rfl _ rfl _ rfl (anyOf (l.truths l.knots none72)) (by exact rowt_) ?_) | ((with_reducible refine gate_store 86 rfl ?_); refine ev_store_rib rfl rfl _ _ rfl _ rfl none72 (anyOf (l.truths l.knots none72)) rfl (by exact rowt_) ?_))
    have hg : (V.setRow (w0.heap.size + 1) (rv (anyOf (l.truths l.knots none72)))).heap[w0.heap.size + 1]? = some (.cells (rv (anyOf (l.truths l.knots none72))) 86 (0, 0)) := by exact rowt_
    have hKd : (V.setRow (w0.heap.size + 1) (rv (anyOf (l.truths l.knots none72)))).heap[w.heap.size]? = some (.deferred (some [])) := (setRow_other _ _ _ _ (by omega)).trans HK.out
    have hg2 : ((V.setRow (w0.heap.size + 1) (rv (anyOf (l.truths l.knots none72)))).putObj w.heap.size (.deferred none)).heap[w0.heap.size + 1]? = some (.cells (rv (anyOf (l.truths l.knots none72))) 86 (0, 0)) := (World.putObj_heap_other (by omega)).trans hg
    have hb0 : Below w0.heap.size V ((V.setRow (w0.heap.size + 1) (rv (anyOf (l.truths l.knots none72)))).putObj w.heap.size (.deferred none)) :=
      ⟨rfl, rfl, rfl, by simp [World.putObj], fun b hb => (World.putObj_heap_other (by omega)).trans (setRow_other _ _ _ _ (by omega))⟩
    refine ⟨by simp, .inl ⟨_, _, rfl, run_takeDeferred hKd, ?_⟩⟩
    refine ⟨.agg (rv l.possible), results_cell_row rfl _ _ _ _ _ _ _ rfl hg2 undRib rfl (by rw [rv_size]; exact sizeRib), rfl, ?_, HM.out.far HN2.out.marks hb0⟩
    refine ⟨(Ext.below HB0.out).trans (HL2.out.ext.trans (Ext.below hb0)), fun b hb hne => ?_⟩
    exact (hb0.block b hb).trans ((HL2.out.same b (by omega) hne (by omega)).trans (HB0.out.block b hb))
  case hround =>
    rintro i x D V hx hVsz ⟨hr, hl⟩ hneed hDa hDb hDbd
    dsimp only [ribV]
    rw [put_one]
    simp only [List.setIfInBounds_toArray, List.set_cons_succ, List.set_cons_zero]
    gi_wp2_with (first | ((with_reducible refine gate_alloc_in 86 rfl ?_); refine ev_alloc_rib_in rfl rfl ?_) | ((with_reducible refine gate_store_in 86 rfl ?_); refine ev_store_rib_in rfl rfl _ _ rfl _ rfl none72 x rfl (by exact rowt_) ?_))
    obtain ⟨V0, hV0⟩ : ∃ V0, V0 = (V.alloc (.cells (rv none72) 86)).setRow V.heap.size (rv x) := ⟨_, rfl⟩
    have hV1 : Below V.heap.size V V0 := by rw [hV0]; exact ((Below.refl _ V).alloc (Nat.le_refl _) _).trans ((only_setRow _ _ _).below (Nat.le_refl _))
    have k4 : V0.heap[V.heap.size]? = some (.cells (rv x) 86 (0, 0)) := by rw [hV0]; exact rowt_
    have zV0 : V0.heap.size = V.heap.size + 1 := by rw [hV0]; simp
    rw [← hV0]
    clear hV0
    refine ⟨hV1, fun V1 hst1 => ?_⟩
    have k4' := hst1.obj k4 (by omega)
    have hs01 : Stays (fun b => b = W2.heap.size ∨ w.heap.size ≤ b) V V1 := (Stays.of_below hV1).trans (hst1.mono fun b _ h => .inr (by omega))
    have hr1 := hs01.block W2.heap.size (by omega)
    have k3 : V1.heap[W2.heap.size]? = some (.cells (rv (anyOf ((l.truths l.knots none72).take i))) 86 (0, 0)) := hst1.obj (row_below hV1 hr (by omega)) (by omega)
    have zV1 := hst1.ext.size
    have hidx : ∀ (w : World) (k : Nat), (k : Int) < 72 → (Instr.index 86 (.agg (rv x)) (.int .i64 k)).run Tryd.prog w = .ok (.bool (x k)) w := fun w k hk => by have := index_rib (w := w) (r := x) (i := k) (by omega) hk; simpa using this
    have HST1 := Lib.hid hst1
    have HS01 := Lib.hid hs01
    have K3 := Lib.hid k3
    have HL1 := Lib.hid hl
    have HN1 := Lib.hid hneed
    have HX := Lib.hid hx
    clear hst1 hs01 k3 hr hr1 hl hneed hx k4 hV1
    gi_wp2_with ((with_reducible refine gate_load_in 86 rfl ?_); refine ev_load_rib_in rfl _ rfl _ rfl x (by exact rowt_) ?_)
    gi_loopw [12] (fun p Wl => ∃ j : Nat, p = .int .i64 j ∧ j ≤ 72 ∧ Wl.heap[W2.heap.size]? = some (.cells (rv (orTo (anyOf ((l.truths l.knots none72).take i)) x j)) 86 (0, 0)) ∧ Stays (fun b => b = W2.heap.size) V1 Wl) (fun p _ => 72 - (intOf p).toNat)
    case atStart => exact ⟨0, rfl, by omega, by rw [orTo_zero]; exact K3.out, Stays.refl _ _⟩
    case round =>
      obtain ⟨j, rfl, hj72, hrow, hstl⟩ := hrel
      have HROW := Lib.hid hrow
      have HSTL := Lib.hid hstl
      have zl := hstl.ext.size
      clear hstl
      obtain ⟨r, hr⟩ : ∃ r, r = anyOf ((l.truths l.knots none72).take i) := ⟨_, rfl⟩
      rw [← hr] at hrow HROW
      have HRR := Lib.hid hr
      clear hr
      by_cases hjlt : j < 72
      · have hji : (j : Int) < 72 := by omega
        have hj0 : (0 : Int) ≤ (j : Int) := by omega
        have x0 : wr.cell? ⟨W2.heap.size, j, none⟩ = some (.bool (orTo r x j j)) := cell_row' hrow (rv_get _ j hjlt)
        have x1 : wr.frozen? ⟨W2.heap.size, j, none⟩ = false := frozen_of_row wr _ j _ _ hrow
        have hix := hidx wr j hji
        clear hrow hidx
        have HOS := Lib.hid (fun i => orTo_succ r x j i)
        cases hb : orTo r x j j
        · rw [hb] at x0
          gi_wp2
          refine ⟨⟨j + 1, by go_num, by omega, ?_, HSTL.out.trans (stays_setCell _ _ _ rfl)⟩, by simp [intOf]; omega⟩
          rw [blk_set HROW.out j _, rv_set]
          congr 2
          refine rv_congr fun i hi => ?_
          rw [← HRR.out, HOS.out i]
          by_cases hij : i = j
          · subst hij; simp [hb]
          · simp [hij]
        · rw [hb] at x0
          gi_wp2
          refine ⟨⟨j + 1, by go_num, by omega, ?_, HSTL.out.trans (stays_setCell _ _ _ rfl)⟩, by simp [intOf]; omega⟩
          rw [blk_set HROW.out j _, rv_set]
          congr 2
          refine rv_congr fun i hi => ?_
          rw [← HRR.out, HOS.out i]
          by_cases hij : i = j
          · subst hij; simp [hb]
          · simp [hij]
      · obtain rfl : j = 72 := by omega
        rw [orTo_all] at hrow
        clear hidx
        gi_wp2
        have hsV : Stays (fun b => b = W2.heap.size ∨ w.heap.size ≤ b) V wr := HS01.out.trans (HSTL.out.mono fun b _ h => .inl h)
        have hb0 : Below w0.heap.size V wr := hsV.below (by have := HB0.out.size; omega) (fun b hb h => by have := HB0.out.size; rcases h with h | h <;> omega)
        have hcell : ∀ o v, V.cell? ⟨bl, o, none⟩ = some v → wr.cell? ⟨bl, o, none⟩ = some v := fun o v hv => by
          rw [← hv]
          exact World.cell?_of_block (hsV.block bl (by omega) (fun h => by rcases h with h | h <;> omega))
        refine ⟨⟨?_, HL1.out.round hsV⟩, Keeps.of_stays HSTL.out (fun b hb hD => by rcases HL1.out.t b hD with h | h <;> omega), ⟨HL.out.far HN1.out.log hb0, HE.out.far HN1.out.ends hb0, hcell 0 _ HN1.out.q0, hcell 1 _ HN1.out.q1, hcell 2 _ HN1.out.q2, hcell 3 _ HN1.out.q3, HM.out.far HN1.out.marks hb0⟩⟩
        rw [anyOf_succ _ i x HX.out, ← HRR.out]
        exact hrow
end Go.Proofs.YtigofgdmefobaaaDoor.Peel

/- Walks of package peel: Best, Waste, Sure. -/
set_option linter.unusedVariables false
set_option linter.unusedSimpArgs false
namespace Go.Proofs.YtigofgdmefobaaaDoor.Peel
open Go.RowKit Go.Proofs.YtigofgdmefobaaaDoor.Iter

theorem CutAt.kept {w w1 : World} {cs : List Int} {C : Option Addr} {n : Nat} (h : CutAt w cs C n) (hk : CellsKept w w1) : CutAt w1 cs C n where
  at_ := fun k hk' => by
    obtain ⟨a, e, h0⟩ := h.at_ k hk'
    exact ⟨a, e, hk _ _ h0⟩
  cap := h.cap
  len := h.len
def bestS (l : PL) : List Int × Int := if l.Ok then (l.cut l.possible, 0) else ([], 10)
def wasteS (l : PL) : Int × Int := if l.Ok then (l.all - l.size * (l.cut l.possible).length, 0) else (0, 10)
theorem marks_new {l : PL} {m : Nat} {w : World} (h : w.heap[m]? = some (.map #[] 0)) : MarksAt l m w := ⟨#[], 0, h, fun e he => by simp at he⟩
theorem turned_new {m : Nat} {w w1 w2 : World} (hb : Below w.heap.size w w1) (h : Turned m w1 w2) (hm : w.heap.size ≤ m) : Below w.heap.size w w2 :=
  hb.trans (h.below hb.size fun b hb' e => by omega)
set_option maxRecDepth 8000 in
set_option maxHeartbeats 4000000 in
theorem best_fresh {w : World} {l : PL} {A B : Option Addr} {c d : Nat} (h : RawAt w l A B c d) (he : EndsAt w) :
    Calls Tryd.prog 30 #[.agg #[.slice A l.long.length c, .int .i64 l.size, .slice B l.knots.length d]] w fun e w' => ∃ ao, e = .returned (.tuple #[.slice ao (bestS l).1.length (bestS l).1.length, .int .i64 (bestS l).2]) ∧ Below w.heap.size w w' ∧ CutAt w' (bestS l).1 ao (bestS l).1.length ∧ ∀ x, ao = some x → w.heap.size ≤ x.block := by
  by_cases ok : l.Ok
  · obtain ⟨a, rfl, hl⟩ := h.at ok
    have hB := (Below.refl _ w).alloc (Nat.le_refl _) (.cells #[.slice (some a) l.long.length c, .int .i64 l.size, .slice B l.knots.length d] 25)
    have H := Lib.hid (hl.below hB)
    have HE := Lib.hid (he.below hB)
    have HO := Lib.hid (show bestS l = (l.cut l.possible, 0) from if_pos ok)
    clear h hl he
    rw [HO.out]
    go_enter Tryd.func30, Tryd.ntmps30
    go_wp2_with fail
    refine (asked_yes H.out _ _ (anything_right _ l a B c d)).mono ?_
    rintro e w1 ⟨m, rfl, hb1, hm1, hm2⟩
    have hb2 := (Below.refl _ w1).alloc (Nat.le_refl _) (.cells #[.slice (some a) l.long.length c, .int .i64 l.size, .slice B l.knots.length d, .map (some m)] 75)
    have hmw : m < w1.heap.size := (Array.getElem?_eq_some_iff.1 hm1).1
    have HL := Lib.hid ((H.out.below hb1).below hb2)
    have HE2 := Lib.hid ((HE.out.below hb1).below hb2)
    have HM := Lib.hid ((marks_new (l := l) hm1).below hb2)
    have HB := Lib.hid (bb (bb hB hb1) hb2)
    have hmz : w.heap.size ≤ m := by have := hB.size; omega
    have q0 : (w1.alloc (.cells #[.slice (some a) l.long.length c, .int .i64 l.size, .slice B l.knots.length d, .map (some m)] 75)).cell? ⟨w1.heap.size, 0, none⟩ = some (.slice (some a) l.long.length c) := cell_row' (i := 0) (by exact rowt_) rfl
    have q1 : (w1.alloc (.cells #[.slice (some a) l.long.length c, .int .i64 l.size, .slice B l.knots.length d, .map (some m)] 75)).cell? ⟨w1.heap.size, 1, none⟩ = some (.int .i64 l.size) := cell_row' (i := 1) (by exact rowt_) rfl
    have q2 : (w1.alloc (.cells #[.slice (some a) l.long.length c, .int .i64 l.size, .slice B l.knots.length d, .map (some m)] 75)).cell? ⟨w1.heap.size, 2, none⟩ = some (.slice B l.knots.length d) := cell_row' (i := 2) (by exact rowt_) rfl
    have q3 : (w1.alloc (.cells #[.slice (some a) l.long.length c, .int .i64 l.size, .slice B l.knots.length d, .map (some m)] 75)).cell? ⟨w1.heap.size, 3, none⟩ = some (.map (some m)) := cell_row' (i := 3) (by exact rowt_) rfl
    clear hb1 hb2 hm1 hB
    go_upto_region 4 with (fail)
    generalize hW2 : w1.alloc (.cells #[.slice (some a) l.long.length c, .int .i64 l.size, .slice B l.knots.length d, .map (some m)] 75) = W2 at *
    clear hW2
    go_region_held3 (fun w' => w'.cell? ⟨w1.heap.size, 0, none⟩ = some (.slice (some a) l.long.length c) ∧ w'.cell? ⟨w1.heap.size, 1, none⟩ = some (.int .i64 l.size) ∧ w'.cell? ⟨w1.heap.size, 2, none⟩ = some (.slice B l.knots.length d) ∧ w'.cell? ⟨w1.heap.size, 3, none⟩ = some (.map (some m)))
      (first | go_keep | (go_split_ands; refine ⟨?_, ?_, ?_, ?_⟩ <;> exact HCK.out _ _ (by assumption)) | (go_split_ands; refine ⟨?_, ?_, ?_, ?_⟩ <;> exact cell_below HBC.out (by assumption)))
      (first
        | (go_at_call 72; refine (possible_any (HL.out.below (by exact (Below.refl _ _).drew)) (HE2.out.below (by exact (Below.refl _ _).drew)) (HM.out.below (by exact (Below.refl _ _).drew))).mono ?_; rintro e w4 ⟨rfl, htu, hmk⟩; have HCK := Lib.hid (cellsKept_turned (HM.out.below (by exact (Below.refl _ _).drew)) htu); have HTU := Lib.hid htu; clear htu hmk)
        | (go_at_call 79; refine (cut_any m ((HL.out.below (by exact (Below.refl _ _).drew)).kept HCK.out) l.possible).mono ?_; rintro e w5 ⟨ao, cv, rfl, hbc, hcut, hnil⟩; have HBC := Lib.hid hbc; have HCUT := Lib.hid hcut; have HNIL := Lib.hid hnil; clear hbc hcut hnil))
    have HFR := Lib.hid (show ∀ x, ao = some x → w.heap.size ≤ x.block from fun x hx => by have := HNIL.out x hx; have := HTU.out.ext.size; have := HB.out.size; have : W2.drew.heap.size = W2.heap.size := rfl; omega)
    have hcap := HCUT.out.cap
    have hlen := HCUT.out.len
    have hfin : Below w.heap.size w w5 := (turned_new HB.out ((Stays.of_below ((Below.refl _ W2).drew)).trans HTU.out) hmz).trans (HBC.out.mono (by have := HB.out.size; have := HTU.out.ext.size; have : W2.drew.heap.size = W2.heap.size := rfl; omega))
    have HFIN := Lib.hid hfin
    clear hfin q0 q1 q2 q3
    go_wp2_with fail
    go_ret2
    exact ⟨ao, rfl, HFIN.out, ⟨HCUT.out.at_, Nat.le_refl _, hlen⟩, HFR.out⟩
  · have hB := (Below.refl _ w).alloc (Nat.le_refl _) (.cells #[.slice A l.long.length c, .int .i64 l.size, .slice B l.knots.length d] 25)
    have H := Lib.hid (h.below hB)
    have HO := Lib.hid (show bestS l = ([], 10) from if_neg ok)
    clear h he
    rw [HO.out]
    go_enter Tryd.func30, Tryd.ntmps30
    go_wp2_with fail
    refine (asked_bad H.out _ _ ok).mono ?_
    rintro e w1 ⟨rfl, hb1⟩
    have HB := Lib.hid (bb hB hb1)
    clear hb1
    unfold zeroLog
    go_wp2_with fail
    go_ret2
    exact ⟨none, rfl, (HB.out.alloc HB.out.size _), ⟨fun k hk => by simp at hk, by simp, by simp⟩, fun x hx => by cases hx⟩
theorem best_any {w : World} {l : PL} {A B : Option Addr} {c d : Nat} (h : RawAt w l A B c d) (he : EndsAt w) :
    Calls Tryd.prog 30 #[.agg #[.slice A l.long.length c, .int .i64 l.size, .slice B l.knots.length d]] w fun e w' => ∃ ao, e = .returned (.tuple #[.slice ao (bestS l).1.length (bestS l).1.length, .int .i64 (bestS l).2]) ∧ Below w.heap.size w w' ∧ CutAt w' (bestS l).1 ao (bestS l).1.length :=
  (best_fresh h he).mono (fun e w' ⟨ao, h1, h2, h3, _⟩ => ⟨ao, h1, h2, h3⟩)
theorem cutF_len (l : PL) (r : Nat → Bool) : ∀ f c, (l.cutF r f c).length ≤ f := by
  intro f
  induction f with
  | zero => intro c; simp [PL.cutF]
  | succ f ih =>
    intro c
    unfold PL.cutF
    split
    · split
      · exact Nat.le_succ_of_le (ih _)
      · simp; exact ih _
    · simp
theorem cut_len (l : PL) (r : Nat → Bool) : (l.cut r).length ≤ 73 := cutF_len l r 73 0
set_option maxRecDepth 8000 in
set_option maxHeartbeats 4000000 in
theorem waste_any {w : World} {l : PL} {A B : Option Addr} {c d : Nat} (h : RawAt w l A B c d) (he : EndsAt w) :
    Calls Tryd.prog 33 #[.agg #[.slice A l.long.length c, .int .i64 l.size, .slice B l.knots.length d]] w fun e w' => e = .returned (.tuple #[.int .i64 (wasteS l).1, .int .i64 (wasteS l).2]) ∧ Below w.heap.size w w' := by
  by_cases ok : l.Ok
  · obtain ⟨a, rfl, hl⟩ := h.at ok
    have hB := (Below.refl _ w).alloc (Nat.le_refl _) (.cells #[.slice (some a) l.long.length c, .int .i64 l.size, .slice B l.knots.length d] 25)
    have H := Lib.hid (hl.below hB)
    have HE := Lib.hid (he.below hB)
    have HO := Lib.hid (show wasteS l = (l.all - l.size * (l.cut l.possible).length, 0) from if_pos ok)
    have hall := all_bd ok
    have hs1 := ok.size1
    have hs6 := ok.size6
    have hcl := cut_len l l.possible
    have hp0 : 0 ≤ l.size * ((l.cut l.possible).length : Int) := Int.mul_nonneg (by omega) (by omega)
    have hp1 : l.size * ((l.cut l.possible).length : Int) ≤ 6 * 73 := Int.mul_le_mul hs6 (by omega) (by omega) (by omega)
    have hmul : IntKind.i64.wrap (l.size * ((l.cut l.possible).length : Int)) = l.size * ((l.cut l.possible).length : Int) := IntWalk.i64_in _ (by omega)
    have hsub : IntKind.i64.wrap (l.all - l.size * ((l.cut l.possible).length : Int)) = l.all - l.size * ((l.cut l.possible).length : Int) := IntWalk.i64_in _ (by omega)
    clear h hl he hp0 hp1
    rw [HO.out]
    go_enter Tryd.func33, Tryd.ntmps33
    go_wp2_with fail
    refine (asked_yes H.out _ _ (anything_right _ l a B c d)).mono ?_
    rintro e w1 ⟨m, rfl, hb1, hm1, hm2⟩
    have hb2 := (Below.refl _ w1).alloc (Nat.le_refl _) (.cells #[.slice (some a) l.long.length c, .int .i64 l.size, .slice B l.knots.length d, .map (some m)] 75)
    have hmw : m < w1.heap.size := (Array.getElem?_eq_some_iff.1 hm1).1
    have HL := Lib.hid ((H.out.below hb1).below hb2)
    have HE2 := Lib.hid ((HE.out.below hb1).below hb2)
    have HM := Lib.hid ((marks_new (l := l) hm1).below hb2)
    have HB := Lib.hid (bb (bb hB hb1) hb2)
    have hmz : w.heap.size ≤ m := by have := hB.size; omega
    have q0 : (w1.alloc (.cells #[.slice (some a) l.long.length c, .int .i64 l.size, .slice B l.knots.length d, .map (some m)] 75)).cell? ⟨w1.heap.size, 0, none⟩ = some (.slice (some a) l.long.length c) := cell_row' (i := 0) (by exact rowt_) rfl
    have q1 : (w1.alloc (.cells #[.slice (some a) l.long.length c, .int .i64 l.size, .slice B l.knots.length d, .map (some m)] 75)).cell? ⟨w1.heap.size, 1, none⟩ = some (.int .i64 l.size) := cell_row' (i := 1) (by exact rowt_) rfl
    have q2 : (w1.alloc (.cells #[.slice (some a) l.long.length c, .int .i64 l.size, .slice B l.knots.length d, .map (some m)] 75)).cell? ⟨w1.heap.size, 2, none⟩ = some (.slice B l.knots.length d) := cell_row' (i := 2) (by exact rowt_) rfl
    have q3 : (w1.alloc (.cells #[.slice (some a) l.long.length c, .int .i64 l.size, .slice B l.knots.length d, .map (some m)] 75)).cell? ⟨w1.heap.size, 3, none⟩ = some (.map (some m)) := cell_row' (i := 3) (by exact rowt_) rfl
    clear hb1 hb2 hm1 hB
    go_upto_region 4 with (fail)
    generalize hW2 : w1.alloc (.cells #[.slice (some a) l.long.length c, .int .i64 l.size, .slice B l.knots.length d, .map (some m)] 75) = W2 at *
    clear hW2
    go_region_held3 (fun w' => w'.cell? ⟨w1.heap.size, 0, none⟩ = some (.slice (some a) l.long.length c) ∧ w'.cell? ⟨w1.heap.size, 1, none⟩ = some (.int .i64 l.size) ∧ w'.cell? ⟨w1.heap.size, 2, none⟩ = some (.slice B l.knots.length d) ∧ w'.cell? ⟨w1.heap.size, 3, none⟩ = some (.map (some m)))
      (first | go_keep | (go_split_ands; refine ⟨?_, ?_, ?_, ?_⟩ <;> exact cell_below HBC.out (by assumption)) | (go_split_ands; refine ⟨?_, ?_, ?_, ?_⟩ <;> exact HCK.out _ _ (by assumption)) | (go_split_ands; refine ⟨?_, ?_, ?_, ?_⟩ <;> exact cell_below HCO.out (by assumption)))
      (first
        | (go_at_call 58; refine (columns_any m (HL.out.below (by exact (Below.refl _ _).drew))).mono ?_; rintro e w3 ⟨rfl, hco⟩; have HCO := Lib.hid hco; clear hco)
        | (go_at_call 72; refine (possible_any ((HL.out.below (by exact (Below.refl _ _).drew)).below HCO.out) ((HE2.out.below (by exact (Below.refl _ _).drew)).below HCO.out) ((HM.out.below (by exact (Below.refl _ _).drew)).below HCO.out)).mono ?_; rintro e w4 ⟨rfl, htu, hmk⟩; have HCK := Lib.hid (cellsKept_turned ((HM.out.below (by exact (Below.refl _ _).drew)).below HCO.out) htu); have HTU := Lib.hid htu; clear htu hmk)
        | (go_at_call 79; refine (cut_any m (((HL.out.below (by exact (Below.refl _ _).drew)).below HCO.out).kept HCK.out) l.possible).mono ?_; rintro e w5 ⟨ao, cv, rfl, hbc, hcut, hnil⟩; have HBC := Lib.hid hbc; have hcap := hcut.cap; have hlen := hcut.len; clear hbc hcut hnil))
    have hfin : Below w.heap.size w w5 := (turned_new HB.out ((Stays.of_below ((Below.refl _ W2).drew)).trans ((Stays.of_below HCO.out).trans HTU.out)) hmz).trans (HBC.out.mono (by have := HB.out.size; have := HTU.out.ext.size; have := HCO.out.size; have : W2.drew.heap.size = W2.heap.size := rfl; omega))
    have HFIN := Lib.hid hfin
    clear hfin q0 q1 q2 q3
    go_wp2_with fail
    go_ret2
    exact ⟨rfl, HFIN.out⟩
  · have hB := (Below.refl _ w).alloc (Nat.le_refl _) (.cells #[.slice A l.long.length c, .int .i64 l.size, .slice B l.knots.length d] 25)
    have H := Lib.hid (h.below hB)
    have HO := Lib.hid (show wasteS l = (0, 10) from if_neg ok)
    clear h he
    rw [HO.out]
    go_enter Tryd.func33, Tryd.ntmps33
    go_wp2_with fail
    refine (asked_bad H.out _ _ ok).mono ?_
    rintro e w1 ⟨rfl, hb1⟩
    have HB := Lib.hid (bb hB hb1)
    clear hb1
    unfold zeroLog
    go_wp2_with fail
    go_ret2
    exact ⟨rfl, (HB.out.alloc HB.out.size _)⟩
def sureS (l : PL) (cs : List Int) : Int × Int := if l.Ok then (if l.isCut 0 cs = true then (l.count l.possible cs, 0) else (0, 11)) else (0, 10)
set_option maxRecDepth 8000 in
set_option maxHeartbeats 4000000 in
theorem sure_any {w : World} {l : PL} {A B : Option Addr} {c d : Nat} (h : RawAt w l A B c d) (he : EndsAt w) {cs : List Int} {C : Option Addr} {n : Nat} (hC : CutAt w cs C n) :
    Calls Tryd.prog 26 #[.agg #[.slice A l.long.length c, .int .i64 l.size, .slice B l.knots.length d], .slice C cs.length n] w fun e w' => e = .returned (.tuple #[.int .i64 (sureS l cs).1, .int .i64 (sureS l cs).2]) ∧ Below w.heap.size w w' := by
  by_cases ok : l.Ok
  · obtain ⟨a, rfl, hl⟩ := h.at ok
    have hB := ((Below.refl _ w).alloc (Nat.le_refl _) (.cells #[.slice (some a) l.long.length c, .int .i64 l.size, .slice B l.knots.length d] 25)).alloc (by simp) (.cells #[.slice C cs.length n] 22)
    have H := Lib.hid (hl.below hB)
    have HE := Lib.hid (he.below hB)
    have HC := Lib.hid (hC.below hB)
    have rg : ((w.alloc (.cells #[.slice (some a) l.long.length c, .int .i64 l.size, .slice B l.knots.length d] 25)).alloc (.cells #[.slice C cs.length n] 22)).heap[w.heap.size + 1]? = some (.cells #[.slice C cs.length n] 22 (0, 0)) := by exact rowt_
    have RG := Lib.hid rg
    have HR := Lib.hid (cut_right H.out HC.out (w.heap.size + 1) (cell_row' (i := 0) RG.out rfl))
    have hs1 := ok.size1
    have hs6 := ok.size6
    have hall := all_bd ok
    clear h hl he hC rg
    by_cases hin : l.isCut 0 cs = true
    · have HO := Lib.hid (show sureS l cs = (l.count l.possible cs, 0) by unfold sureS; rw [if_pos ok, if_pos hin])
      rw [HO.out]
      rw [hin] at HR
      have HIN := Lib.hid hin
      clear hin
      go_enter Tryd.func26, Tryd.ntmps26
      go_wp2_with fail
      refine (asked_yes H.out _ _ HR.out).mono ?_
      rintro e w1 ⟨m, rfl, hb1, hm1, hm2⟩
      have hz := hb1.size
      simp only [World.size_alloc] at hz
      have hb2 := (Below.refl _ w1).alloc (Nat.le_refl _) (.cells #[.slice (some a) l.long.length c, .int .i64 l.size, .slice B l.knots.length d, .map (some m)] 75)
      have hmw : m < w1.heap.size := (Array.getElem?_eq_some_iff.1 hm1).1
      have HL := Lib.hid ((H.out.below hb1).below hb2)
      have HE2 := Lib.hid ((HE.out.below hb1).below hb2)
      have HC2 := Lib.hid ((HC.out.below hb1).below hb2)
      have HM := Lib.hid ((marks_new (l := l) hm1).below hb2)
      have HB := Lib.hid (bb (bb hB hb1) hb2)
      have hmz : w.heap.size ≤ m := by have := hB.size; omega
      have rg1 := row_below hb1 RG.out (by simp)
      have q0 : (w1.alloc (.cells #[.slice (some a) l.long.length c, .int .i64 l.size, .slice B l.knots.length d, .map (some m)] 75)).cell? ⟨w1.heap.size, 0, none⟩ = some (.slice (some a) l.long.length c) := cell_row' (i := 0) (by exact rowt_) rfl
      have q1 : (w1.alloc (.cells #[.slice (some a) l.long.length c, .int .i64 l.size, .slice B l.knots.length d, .map (some m)] 75)).cell? ⟨w1.heap.size, 1, none⟩ = some (.int .i64 l.size) := cell_row' (i := 1) (by exact rowt_) rfl
      have q2 : (w1.alloc (.cells #[.slice (some a) l.long.length c, .int .i64 l.size, .slice B l.knots.length d, .map (some m)] 75)).cell? ⟨w1.heap.size, 2, none⟩ = some (.slice B l.knots.length d) := cell_row' (i := 2) (by exact rowt_) rfl
      have q3 : (w1.alloc (.cells #[.slice (some a) l.long.length c, .int .i64 l.size, .slice B l.knots.length d, .map (some m)] 75)).cell? ⟨w1.heap.size, 3, none⟩ = some (.map (some m)) := cell_row' (i := 3) (by exact rowt_) rfl
      have q4 : (w1.alloc (.cells #[.slice (some a) l.long.length c, .int .i64 l.size, .slice B l.knots.length d, .map (some m)] 75)).cell? ⟨w.heap.size + 1, 0, none⟩ = some (.slice C cs.length n) := cell_row' (i := 0) (row_old rg1) rfl
      clear hb1 hb2 hm1 hB rg1
      go_upto_region 4 with (fail)
      generalize hW2 : w1.alloc (.cells #[.slice (some a) l.long.length c, .int .i64 l.size, .slice B l.knots.length d, .map (some m)] 75) = W2 at *
      clear hW2
      go_region_held3 (fun w' => w'.cell? ⟨w1.heap.size, 0, none⟩ = some (.slice (some a) l.long.length c) ∧ w'.cell? ⟨w1.heap.size, 1, none⟩ = some (.int .i64 l.size) ∧ w'.cell? ⟨w1.heap.size, 2, none⟩ = some (.slice B l.knots.length d) ∧ w'.cell? ⟨w1.heap.size, 3, none⟩ = some (.map (some m)) ∧ w'.cell? ⟨w.heap.size + 1, 0, none⟩ = some (.slice C cs.length n))
        (first | go_keep | (go_split_ands; refine ⟨?_, ?_, ?_, ?_, ?_⟩ <;> exact cell_below HBC.out (by assumption)) | (go_split_ands; refine ⟨?_, ?_, ?_, ?_, ?_⟩ <;> exact cell_below HBW.out (by assumption)) | (go_split_ands; refine ⟨?_, ?_, ?_, ?_, ?_⟩ <;> exact HCK.out _ _ (by assumption)))
        (first
          | (go_at_call 72; refine (possible_any (HL.out.below (by exact (Below.refl _ _).drew)) (HE2.out.below (by exact (Below.refl _ _).drew)) (HM.out.below (by exact (Below.refl _ _).drew))).mono ?_; rintro e w4 ⟨rfl, htu, hmk⟩; have HCK := Lib.hid (cellsKept_turned (HM.out.below (by exact (Below.refl _ _).drew)) htu); have HTU := Lib.hid htu; clear htu hmk)
          | (go_at_call 71; refine (whole_any l a B c d m l.possible).mono ?_; rintro e w5 ⟨bi, br, rfl, hbw, hcnt⟩; have HBW := Lib.hid hbw; have HCNT := Lib.hid hcnt; clear hbw hcnt)
          | (go_at_call 73; refine (count_any HCNT.out hs1 hs6 (((HC2.out.below (by exact (Below.refl _ _).drew)).kept HCK.out).below HBW.out) hall.2 HIN.out).mono ?_; rintro e w6 ⟨rfl, hbc⟩; have HBC := Lib.hid hbc; clear hbc))
      have z2 := HB.out.size
      have z4 := HTU.out.ext.size
      have z5 := HBW.out.size
      have hdz : W2.drew.heap.size = W2.heap.size := rfl
      have HFIN := Lib.hid ((turned_new HB.out ((Stays.of_below ((Below.refl _ W2).drew)).trans HTU.out) hmz).trans ((HBW.out.mono (by omega)).trans (HBC.out.mono (by omega))))
      clear q0 q1 q2 q3 q4
      go_wp2_with fail
      go_ret2
      exact ⟨rfl, HFIN.out⟩
    · have HO := Lib.hid (show sureS l cs = (0, 11) by unfold sureS; rw [if_pos ok, if_neg hin])
      rw [HO.out]
      have hin' : l.isCut 0 cs = false := by simpa using hin
      rw [hin'] at HR
      clear hin hin'
      go_enter Tryd.func26, Tryd.ntmps26
      go_wp2_with fail
      refine (asked_no H.out _ _ HR.out).mono ?_
      rintro e w1 ⟨rfl, hb1⟩
      have HB := Lib.hid (bb hB hb1)
      clear hb1
      unfold zeroLog
      go_wp2_with fail
      go_ret2
      exact ⟨rfl, (HB.out.alloc HB.out.size _)⟩
  · have hB := ((Below.refl _ w).alloc (Nat.le_refl _) (.cells #[.slice A l.long.length c, .int .i64 l.size, .slice B l.knots.length d] 25)).alloc (by simp) (.cells #[.slice C cs.length n] 22)
    have H := Lib.hid (h.below hB)
    have HO := Lib.hid (show sureS l cs = (0, 10) from if_neg ok)
    clear h he
    rw [HO.out]
    go_enter Tryd.func26, Tryd.ntmps26
    go_wp2_with fail
    refine (asked_bad H.out _ _ ok).mono ?_
    rintro e w1 ⟨rfl, hb1⟩
    have HB := Lib.hid (bb hB hb1)
    clear hb1
    unfold zeroLog
    go_wp2_with fail
    go_ret2
    exact ⟨rfl, (HB.out.alloc HB.out.size _)⟩
end Go.Proofs.YtigofgdmefobaaaDoor.Peel

/- A region that draws its order, in the body of a loop over a function: what holds of it in a plain frame holds there. -/
set_option linter.unusedVariables false
namespace Go.Proofs.YtigofgdmefobaaaDoor.Peel
open Go.RowKit
section
variable {P : Program} {ops : Array Oper} {Q : Exit → Act → World → Prop} {md : Region.Mode} {l n : Nat}
theorem upon_in {o : Oper} {a : Act} {K : Act → World → Prop} (r : Result Next) (h : o.upon P a K Q r) : o.uponIn (Fence.wide.inRound l) n P a K Q r := by
  cases r with
  | ok x w =>
    cases x with
    | value v => exact h
    | skip => exact h
    | defer d => exact h
    | enter f args => exact ⟨fun hd => by simp [Fence.wide] at hd, CallsIn.inRound l (callsIn_wide.2 h)⟩
    | row row args => exact ⟨fun hd => by simp [Fence.wide] at hd, fun c cs _ => let ⟨v, w', r, s⟩ := h c cs; ⟨v, w', r, stepsIn_wide.2 s⟩⟩
    | round l f tmps assign body => exact h.elim
    | _ => exact h.elim
  | halt x w =>
    cases x with
    | panic v => exact h
    | _ => exact h.elim
def notDefer (o : Oper) : Bool := match o.op with
  | .defer _ => false
  | _ => true
theorem notDefer_spec {o : Oper} (h : notDefer o = true) : ∀ c, o.op ≠ .defer c := by
  intro c e
  simp [notDefer, e] at h
theorem op_in {o : Oper} {a : Act} {w : World} {K : Act → World → Prop} (hd : notDefer o = true) (h : o.wp P a w K Q) : o.wpIn (Fence.wide.inRound l) n P a w K Q := by
  refine ⟨fun f _ => trivial, ?_⟩
  rw [Oper.semAt_plain _ _ _ (notDefer_spec hd)]
  exact upon_in _ h
theorem wpOp_in {i : Nat} {a : Act} {w : World} {K K' : Act → World → Prop} (hd : ops.all notDefer = true) (hq : ¬ LetsOut Q) (hk : ∀ a w, K a w → K' a w) (h : wpOp P ops Q i K a w) : wpOpIn (Fence.wide.inRound l) n P ops Q i K' a w := by
  unfold wpOp at h
  unfold wpOpIn
  cases ho : ops[i]? with
  | none => simp only [ho] at h; exact hk _ _ h
  | some o =>
    simp only [ho] at h
    have hdo : notDefer o = true := by
      rw [Array.all_eq_true] at hd
      obtain ⟨hi, he⟩ := Array.getElem?_eq_some_iff.1 ho
      rw [← he]
      exact hd i hi
    simp only
    split
    · rename_i hw
      rw [if_pos hw] at h
      rcases h with h | h
      · exact Oper.wpIn_mono hk (op_in hdo h)
      · exact absurd h.2 hq
    · rename_i hw
      rw [if_neg hw] at h
      exact ⟨fun f _ => trivial, hk _ _ h⟩
theorem wpAny_in (hd : ops.all notDefer = true) (hq : ¬ LetsOut Q) : ∀ (fuel : Nat) (listed : Array Bool) (a : Act) (w : World), wpAny P md ops Q fuel listed a w → wpAnyIn (Fence.wide.inRound l) n P md ops Q fuel listed a w := by
  intro fuel
  induction fuel with
  | zero => intro listed a w h; exact h
  | succ fuel ih =>
    intro listed a w h
    exact ⟨h.1, fun i hi => wpOp_in hd hq (fun a w => ih _ a w) (h.2 i hi)⟩
/-- THE BEGINNING, in a round. -/
theorem region_held_in {S : World → Prop} {id : Nat} {a : Act} {w : World} (hm : P.follows .mixedOrders = true) (hd : ops.all notDefer = true) (hq : ¬ LetsOut Q) (hS : S w.drew)
    (h : S w.drew → wpAnyH P .any ops Q S ops.size (Array.replicate ops.size false) a w.drew) : (Code.region id ops true).wpIn (Fence.wide.inRound l) n P Q a w :=
  wpIn_region_any hm (wpAny_in hd hq _ _ _ _ (wpAny_of_held _ _ _ _ (h hS)))
end
end Go.Proofs.YtigofgdmefobaaaDoor.Peel

/- Walks of package peel: Hope. -/
set_option linter.unusedVariables false
set_option linter.unusedSimpArgs false
namespace Go.Proofs.YtigofgdmefobaaaDoor.Peel
open Go.RowKit Go.Proofs.YtigofgdmefobaaaDoor.Iter
attribute [local go_sem] Oper.semAt_some

/-- The most pieces that can be whole, of several truths. -/
def PL.most (l : PL) (rs : List (Nat → Bool)) : Int := rs.foldl (fun n r => max n ((l.cut r).length : Int)) 0
def PL.hope (l : PL) : Int := l.most (l.truths l.knots none72)
theorem most_succ (l : PL) (rs : List (Nat → Bool)) (i : Nat) (x : Nat → Bool) (h : rs[i]? = some x) : l.most (rs.take (i + 1)) = max (l.most (rs.take i)) ((l.cut x).length : Int) := by
  obtain ⟨hi, he⟩ := List.getElem?_eq_some_iff.1 h
  unfold PL.most
  rw [List.take_succ_eq_append_getElem hi, List.foldl_append, he]
  rfl
def hopeS (l : PL) : Int × Int := if l.Ok then (l.hope, 0) else (0, 10)
set_option maxRecDepth 8000 in
set_option maxHeartbeats 8000000 in
theorem hope_any {w : World} {l : PL} {A B : Option Addr} {c d : Nat} (h : RawAt w l A B c d) (he : EndsAt w) :
    Calls Tryd.prog 35 #[.agg #[.slice A l.long.length c, .int .i64 l.size, .slice B l.knots.length d]] w fun e w' => e = .returned (.tuple #[.int .i64 (hopeS l).1, .int .i64 (hopeS l).2]) ∧ Below w.heap.size w w' := by
  by_cases ok : l.Ok
  · obtain ⟨a, rfl, hl⟩ := h.at ok
    have hB := (Below.refl _ w).alloc (Nat.le_refl _) (.cells #[.slice (some a) l.long.length c, .int .i64 l.size, .slice B l.knots.length d] 25)
    have H := Lib.hid (hl.below hB)
    have HE := Lib.hid (he.below hB)
    have HO := Lib.hid (show hopeS l = (l.hope, 0) from if_pos ok)
    clear h hl he
    rw [HO.out]
    refine callsIn_wide.1 (callsIn_of_wp_marks (n := 0) Tryd.func35 rfl trivial ?_)
    simp only [Tryd.ntmps35, List.size_toArray, List.length_cons, List.length_nil, Nat.reduceAdd, Nat.reduceSub, Array.replicate_succ, Array.replicate_zero, List.push_toArray, List.append_toArray, List.nil_append, List.cons_append]
    refine wpIn_wide.2 ?_
    go_wp2_with fail
    refine (asked_yes H.out _ _ (anything_right _ l a B c d)).mono ?_
    rintro e w1 ⟨m, rfl, hb1, hm1, hm2⟩
    have hmw : m < w1.heap.size := (Array.getElem?_eq_some_iff.1 hm1).1
    have hmz : w.heap.size ≤ m := by have := hB.size; omega
    have H1 := Lib.hid (H.out.below hb1)
    have HE1 := Lib.hid (HE.out.below hb1)
    have HM1 := Lib.hid (marks_new (l := l) hm1)
    have HB1 := Lib.hid (bb hB hb1)
    clear hb1 hm1 hB
    go_upto_region 5 with (fail)
    obtain ⟨W2, hW2⟩ : ∃ W2, W2 = (w1.alloc (.cells #[.slice (some a) l.long.length c, .int .i64 l.size, .slice B l.knots.length d, .map (some m)] 75)).alloc (.cells #[.int .i64 0] 3) := ⟨_, rfl⟩
    rw [← hW2]
    have z2 : W2.heap.size = w1.heap.size + 2 := by rw [hW2]; simp
    have hb2 : Below w1.heap.size w1 W2 := by rw [hW2]; exact ((Below.refl _ w1).alloc (Nat.le_refl _) _).alloc (by simp) _
    have r4 : W2.heap[w1.heap.size]? = some (.cells #[.slice (some a) l.long.length c, .int .i64 l.size, .slice B l.knots.length d, .map (some m)] 75 (0, 0)) := by rw [hW2]; exact rowt_
    have r6 : W2.heap[w1.heap.size + 1]? = some (.cells #[.int .i64 0] 3 (0, 0)) := by rw [hW2]; exact rowt_
    clear hW2
    have q0 : W2.cell? ⟨w1.heap.size, 0, none⟩ = some (.slice (some a) l.long.length c) := cell_row' (i := 0) r4 rfl
    have q1 : W2.cell? ⟨w1.heap.size, 1, none⟩ = some (.int .i64 l.size) := cell_row' (i := 1) r4 rfl
    have q2 : W2.cell? ⟨w1.heap.size, 2, none⟩ = some (.slice B l.knots.length d) := cell_row' (i := 2) r4 rfl
    have q3 : W2.cell? ⟨w1.heap.size, 3, none⟩ = some (.map (some m)) := cell_row' (i := 3) r4 rfl
    have H2 := Lib.hid (H1.out.below hb2)
    have HE2 := Lib.hid (HE1.out.below hb2)
    have HM2 := Lib.hid (HM1.out.below hb2)
    have HB2 := Lib.hid (bb HB1.out hb2)
    have R4 := Lib.hid r4
    have R6 := Lib.hid r6
    clear hb2 r4 r6
    go_wp2_with fail
    refine (truths_any H2.out HE2.out HM2.out).mono ?_
    rintro e w3 ⟨bl, rfl, hb3, hneed, hbl⟩
    have z3 := hb3.size
    have HN := Lib.hid hneed
    have R4w := Lib.hid (row_below hb3 R4.out (by omega))
    have R6w := Lib.hid (row_below hb3 R6.out (by omega))
    have HB3 := Lib.hid (bb HB2.out hb3)
    have lbl : bl < w3.heap.size := World.block_lt_of_cell? w3 _ hneed.q0
    have zz := HB1.out.size
    clear hneed hb3 q0 q1 q2 q3
    go_wp2_with fail
    refine (wpIn_wide (n := 0)).1 ?_
    refine range_law (gf := 87) (lb := #[.pointer (some ⟨bl, 0, none⟩)]) rfl (enters_of Tryd.func87 (by kernel_rfl) rfl)
      (truths_yields l a B c d m bl) (fun _ => rfl) (fun i T W => W.heap[w1.heap.size + 1]? = some (.cells #[.int .i64 (l.most ((l.truths l.knots none72).take i))] 3 (0, 0)) ∧ Loops m (w1.heap.size + 1) w3 T W)
      ?hI (fun b h => by subst h; omega) HN.out (fun V V' hV hsz hs => HN.out.far hV (hs.below hsz (fun b hb h => by omega))) (fun V hV => ⟨?h0a, ?h0b⟩) ?hround ?hdone
    case hI =>
      rintro i T T' V V' ⟨hr, hl⟩ hs hT
      exact ⟨hl.obj hs (by omega) (by omega) hr, hl.abides hs hT⟩
    case h0a => exact row_below hV R6w.out (by omega)
    case h0b => exact ⟨fun b h => by rcases h with h | h | h; exact .inl h; exact .inr (by omega); exact .inr (by omega), Ext.below hV, fun b hb _ _ => hV.block b hb⟩
    case hdone =>
      rintro D V ⟨hr, hl⟩ hneed hDa hDb hK
      rw [List.take_length] at hr
      have zV := hl.ext.size
      have x0 : V.cell? ⟨w1.heap.size + 1, 0, none⟩ = some (.int .i64 l.hope) := cell_row' hr rfl
      have HL2 := Lib.hid hl
      have HK := Lib.hid hK
      have hwV : w3.heap.size < V.heap.size := (Array.getElem?_eq_some_iff.1 hK).1
      clear hl hneed hK hr
      gi_wp2
      go_wp2_with fail
      have hb0 : Below w.heap.size V (V.putObj w3.heap.size (.deferred none)) := ⟨rfl, rfl, rfl, by simp [World.putObj], fun b hb => World.putObj_heap_other (by have := HB3.out.size; omega)⟩
      refine ⟨by simp, .inl ⟨_, _, rfl, run_takeDeferred HK.out, ?_⟩⟩
      refine ⟨.tuple #[.int .i64 l.hope, .int .i64 0], (by simp [results, Tryd.results35, go_sem]), rfl, ?_⟩
      exact HB3.out.trans (Below.trans ⟨HL2.out.ext.os, HL2.out.ext.tape, HL2.out.ext.output, HL2.out.ext.size, fun b hb => HL2.out.same b (by have := HB3.out.size; omega) (by omega) (by omega)⟩ hb0)
    case hround =>
      rintro i x D V hx hVsz ⟨hr, hl⟩ hneed hDa hDb hDbd
      dsimp only [ribV]
      rw [put_one]
      simp only [List.setIfInBounds_toArray, List.set_cons_succ, List.set_cons_zero]
      gi_wp2_with (first | ((with_reducible refine gate_alloc_in 86 rfl ?_); refine ev_alloc_rib_in rfl rfl ?_) | ((with_reducible refine gate_store_in 86 rfl ?_); refine ev_store_rib_in rfl rfl _ _ rfl _ rfl none72 x rfl (by exact rowt_) ?_))
      obtain ⟨V0, hV0⟩ : ∃ V0, V0 = (V.alloc (.cells (rv none72) 86)).setRow V.heap.size (rv x) := ⟨_, rfl⟩
      have hV1 : Below V.heap.size V V0 := by rw [hV0]; exact ((Below.refl _ V).alloc (Nat.le_refl _) _).trans ((only_setRow _ _ _).below (Nat.le_refl _))
      have k4 : V0.heap[V.heap.size]? = some (.cells (rv x) 86 (0, 0)) := by rw [hV0]; exact rowt_
      have zV0 : V0.heap.size = V.heap.size + 1 := by rw [hV0]; simp
      rw [← hV0]
      clear hV0
      refine ⟨hV1, fun V1 hst1 => ?_⟩
      have k7 := hst1.obj k4 (by omega)
      have hs01 : Stays (fun b => b = w1.heap.size + 1 ∨ w3.heap.size ≤ b) V V1 := (Stays.of_below hV1).trans (hst1.mono fun b _ h => .inr (by omega))
      have k6 : V1.heap[w1.heap.size + 1]? = some (.cells #[.int .i64 (l.most ((l.truths l.knots none72).take i))] 3 (0, 0)) := hst1.obj (row_below hV1 hr (by have := hl.ext.size; omega)) (by omega)
      have k4' : V1.heap[w1.heap.size]? = some (.cells #[.slice (some a) l.long.length c, .int .i64 l.size, .slice B l.knots.length d, .map (some m)] 75 (0, 0)) := (hs01.block _ (by have := hl.ext.size; omega) (fun h => by rcases h with h | h <;> omega)).trans ((hl.same _ (by omega) (by omega) (by omega)).trans R4w.out)
      have q0 : V1.cell? ⟨w1.heap.size, 0, none⟩ = some (.slice (some a) l.long.length c) := cell_row' (i := 0) k4' rfl
      have q1 : V1.cell? ⟨w1.heap.size, 1, none⟩ = some (.int .i64 l.size) := cell_row' (i := 1) k4' rfl
      have q2 : V1.cell? ⟨w1.heap.size, 2, none⟩ = some (.slice B l.knots.length d) := cell_row' (i := 2) k4' rfl
      have q3 : V1.cell? ⟨w1.heap.size, 3, none⟩ = some (.map (some m)) := cell_row' (i := 3) k4' rfl
      have e0 := rangeAt_rib k7
      have hundR := undRib
      have hsizR : (Tryd.prog.info? 86).map (·.size) = some (rl x).length := by rw [rl_length]; exact sizeRib
      have hfin : ∀ (w4 : World) (o : Obj), Below V1.heap.size V1 w4 → (((w4.alloc o).setCell ⟨w1.heap.size + 1, 0, none⟩ (.int .i64 (max (l.most ((l.truths l.knots none72).take i)) ((l.cut x).length : Int)))).heap[w1.heap.size + 1]? = some (.cells #[.int .i64 (l.most ((l.truths l.knots none72).take (i + 1)))] 3 (0, 0)) ∧ Loops m (w1.heap.size + 1) w3 D ((w4.alloc o).setCell ⟨w1.heap.size + 1, 0, none⟩ (.int .i64 (max (l.most ((l.truths l.knots none72).take i)) ((l.cut x).length : Int))))) ∧ Keeps D V1 ((w4.alloc o).setCell ⟨w1.heap.size + 1, 0, none⟩ (.int .i64 (max (l.most ((l.truths l.knots none72).take i)) ((l.cut x).length : Int)))) ∧ TruthsNeed l a B c d m bl ((w4.alloc o).setCell ⟨w1.heap.size + 1, 0, none⟩ (.int .i64 (max (l.most ((l.truths l.knots none72).take i)) ((l.cut x).length : Int)))) := by
        intro w4 o hb
        have hs : Stays (fun b => b = w1.heap.size + 1) V1 ((w4.alloc o).setCell ⟨w1.heap.size + 1, 0, none⟩ (.int .i64 (max (l.most ((l.truths l.knots none72).take i)) ((l.cut x).length : Int)))) := (Stays.of_below hb).trans ((stays_alloc w4 o).trans (stays_setCell _ _ _ rfl))
        have hsV : Stays (fun b => b = w1.heap.size + 1 ∨ w3.heap.size ≤ b) V ((w4.alloc o).setCell ⟨w1.heap.size + 1, 0, none⟩ (.int .i64 (max (l.most ((l.truths l.knots none72).take i)) ((l.cut x).length : Int)))) := hs01.trans (hs.mono fun b _ h => .inl h)
        have hb0 : Below w1.heap.size V ((w4.alloc o).setCell ⟨w1.heap.size + 1, 0, none⟩ (.int .i64 (max (l.most ((l.truths l.knots none72).take i)) ((l.cut x).length : Int)))) := hsV.below (by have := hl.ext.size; omega) (fun b hb h => by rcases h with h | h <;> omega)
        have hcell : ∀ o' v, V.cell? ⟨bl, o', none⟩ = some v → ((w4.alloc o).setCell ⟨w1.heap.size + 1, 0, none⟩ (.int .i64 (max (l.most ((l.truths l.knots none72).take i)) ((l.cut x).length : Int)))).cell? ⟨bl, o', none⟩ = some v := fun o' v hv => by
          rw [← hv]
          exact World.cell?_of_block (hsV.block bl (by have := hl.ext.size; omega) (fun h => by rcases h with h | h <;> omega))
        refine ⟨⟨?_, hl.round hsV⟩, Keeps.of_stays hs (fun b hb hD => by rcases hl.t b hD with h | h <;> omega), ⟨H1.out.far hneed.log hb0, HE1.out.far hneed.ends hb0, hcell 0 _ hneed.q0, hcell 1 _ hneed.q1, hcell 2 _ hneed.q2, hcell 3 _ hneed.q3, HM1.out.far hneed.marks hb0⟩⟩
        rw [blk_set (row_old (row_below hb k6 (by have := hs01.ext.size; have := hl.ext.size; omega))) 0 _, most_succ l _ i x hx]
        rfl
      have HFIN := Lib.hid hfin
      have c6 : V1.cell? ⟨w1.heap.size + 1, 0, none⟩ = some (.int .i64 (l.most ((l.truths l.knots none72).take i))) := cell_row' k6 rfl
      have f6 : V1.frozen? ⟨w1.heap.size + 1, 0, none⟩ = false := frozen_of_row V1 _ 0 _ _ k6
      have H4 : LogAt V1 l a B c d := H1.out.far hneed.log (hs01.below (by have := hl.ext.size; omega) (fun b hb h => by rcases h with h | h <;> omega))
      have HL4 := Lib.hid H4
      clear hfin H4
      have zz1 : w1.heap.size + 1 < w3.heap.size := by omega
      have zz2 : w3.heap.size ≤ V.heap.size := hl.ext.size
      try simp only [Act.put, List.setIfInBounds_toArray, List.set_cons_succ, List.set_cons_zero]
      refine wpIn_block ?_
      refine region_held_in (S := fun w' => w'.cell? ⟨w1.heap.size, 0, none⟩ = some (.slice (some a) l.long.length c) ∧ w'.cell? ⟨w1.heap.size, 1, none⟩ = some (.int .i64 l.size) ∧ w'.cell? ⟨w1.heap.size, 2, none⟩ = some (.slice B l.knots.length d) ∧ w'.cell? ⟨w1.heap.size, 3, none⟩ = some (.map (some m)) ∧ w'.rangeAt V.heap.size 0 (rl x)) (by kernel_rfl) (by kernel_rfl) (by rintro ⟨a, w, h⟩; exact h) ⟨q0, q1, q2, q3, e0⟩ (fun hHeld => ?_)
      refine held_take 1 20 (.agg #[.slice (some a) l.long.length c, .int .i64 l.size, .slice B l.knots.length d, .map (some m)]) rfl rfl (by kernel_rfl) (by kernel_rfl) (by kernel_rfl) (fun _ _ _ h => h) (Or.inl ⟨by rfl, fun w hw => by dsimp only at hw; obtain ⟨h0, h1, h2, h3, h4⟩ := hw; go_simp⟩) hHeld ?_
      simp only [List.setIfInBounds_toArray, List.set_cons_zero, List.set_cons_succ]
      refine held_take 2 21 _ rfl rfl (by kernel_rfl) (by kernel_rfl) (by kernel_rfl) (fun _ _ _ h => h) (yieldsIf_load_mid (by rfl) _ _ rfl _ _ rfl (rl x) _ (fun _ h => h.2.2.2.2) hundR rfl hsizR) hHeld ?_
      simp only [List.setIfInBounds_toArray, List.set_cons_zero, List.set_cons_succ]
      refine wpAnyH_ready (rs := [0, 3]) (by kernel_rfl) (by simp) ?_
      refine AllReadyH.cons rfl (fun K hK => ?_) (AllReadyH.cons rfl (fun K hK => ?_) AllReadyH.nil)
      · go_simp
        refine hK.out _ _ hHeld (fun hHeldn => ?_)
        clear hK
        try simp only [Act.put, List.setIfInBounds_toArray, List.set_cons_zero, List.set_cons_succ]
        refine wpAnyH_ready (rs := [3]) (by kernel_rfl) (by simp) ?_
        refine AllReadyH.cons rfl (fun K hK => ?_) AllReadyH.nil
        go_simp
        rw [rv_rl]
        refine (cut_any m (HL4.out.below (by exact (Below.refl _ _).drew)) x).mono ?_
        rintro e w4 ⟨ao, cv, rfl, hbc, hcut, hnil⟩
        dsimp only
        have hb14 : Below V1.heap.size V1 w4 := ((Below.refl _ V1).drew).trans hbc
        refine hK.out _ _ ⟨cell_below hbc hHeldn.1, cell_below hbc hHeldn.2.1, cell_below hbc hHeldn.2.2.1, cell_below hbc hHeldn.2.2.2.1, rangeAt_below hbc hHeldn.2.2.2.2⟩ (fun hHeldnn => ?_)
        clear hK
        try simp only [Act.put, List.setIfInBounds_toArray, List.set_cons_zero, List.set_cons_succ]
        have hcap := hcut.cap
        have hlen := hcut.len
        refine held_take 4 23 (.int .i64 ((l.cut x).length : Int)) rfl rfl (by kernel_rfl) (by kernel_rfl) (by kernel_rfl) (fun _ _ _ h => h) (Or.inl ⟨by rfl, fun w _ => by go_simp⟩) hHeldnn ?_
        try simp only [Act.put, List.setIfInBounds_toArray, List.set_cons_zero, List.set_cons_succ]
        refine wpAnyH_ready (rs := [5]) (by kernel_rfl) (by simp) ?_
        refine AllReadyH.cons rfl (fun K hK => ?_) AllReadyH.nil
        go_simp
        have hba := (Below.refl _ w4).alloc (Nat.le_refl _) (.cells #[.int .i64 ((l.cut x).length : Int)] 3)
        refine hK.out _ _ ⟨cell_below hba hHeldnn.1, cell_below hba hHeldnn.2.1, cell_below hba hHeldnn.2.2.1, cell_below hba hHeldnn.2.2.2.1, rangeAt_below hba hHeldnn.2.2.2.2⟩ (fun hHeldnnn => ?_)
        clear hK
        try simp only [Act.put, List.setIfInBounds_toArray, List.set_cons_zero, List.set_cons_succ]
        refine wpAnyH_ready (rs := [6]) (by kernel_rfl) (by simp) ?_
        refine AllReadyH.cons rfl (fun K hK => ?_) AllReadyH.nil
        go_simp
        refine (greatest_any _ _ (cell_new' rfl rfl)).mono ?_
        rintro e w6 ⟨rfl, rfl⟩
        dsimp only
        refine hK.out _ _ hHeldnnn (fun hHeldnnnn => ?_)
        clear hK
        try simp only [Act.put, List.setIfInBounds_toArray, List.set_cons_zero, List.set_cons_succ]
        refine wpAnyH_ready (rs := [7]) (by kernel_rfl) (by simp) ?_
        refine AllReadyH.cons rfl (fun K hK => ?_) AllReadyH.nil
        have c67 : (w4.alloc (.cells #[.int .i64 ((l.cut x).length : Int)] 3)).cell? ⟨w1.heap.size + 1, 0, none⟩ = some (.int .i64 (l.most ((l.truths l.knots none72).take i))) := cell_below hba (cell_below hb14 c6)
        have k67 := row_old (o' := .cells #[.int .i64 ((l.cut x).length : Int)] 3) (row_below hb14 k6 (Array.getElem?_eq_some_iff.1 k6).1)
        have f67 := frozen_of_row _ (w1.heap.size + 1) 0 _ _ k67
        go_simp
        refine hK.out _ _ ⟨cset_blk hHeldnnnn.1 (by (try dsimp only); omega), cset_blk hHeldnnnn.2.1 (by (try dsimp only); omega), cset_blk hHeldnnnn.2.2.1 (by (try dsimp only); omega), cset_blk hHeldnnnn.2.2.2.1 (by (try dsimp only); omega), fun j v hv => cset_blk (hHeldnnnn.2.2.2.2 j v hv) (by (try dsimp only); omega)⟩ (fun hHeldnnnnn => ?_)
        clear hK
        try simp only [Act.put, List.setIfInBounds_toArray, List.set_cons_zero, List.set_cons_succ]
        refine wpAnyH_done (by kernel_rfl) ?_ _
        exact HFIN.out w4 _ hb14
      · go_simp
        rw [rv_rl]
        refine (cut_any m (HL4.out.below (by exact (Below.refl _ _).drew)) x).mono ?_
        rintro e w4 ⟨ao, cv, rfl, hbc, hcut, hnil⟩
        dsimp only
        have hb14 : Below V1.heap.size V1 w4 := ((Below.refl _ V1).drew).trans hbc
        refine hK.out _ _ ⟨cell_below hbc hHeld.1, cell_below hbc hHeld.2.1, cell_below hbc hHeld.2.2.1, cell_below hbc hHeld.2.2.2.1, rangeAt_below hbc hHeld.2.2.2.2⟩ (fun hHeldn => ?_)
        clear hK
        try simp only [Act.put, List.setIfInBounds_toArray, List.set_cons_zero, List.set_cons_succ]
        have hcap := hcut.cap
        have hlen := hcut.len
        refine held_take 4 23 (.int .i64 ((l.cut x).length : Int)) rfl rfl (by kernel_rfl) (by kernel_rfl) (by kernel_rfl) (fun _ _ _ h => h) (Or.inl ⟨by rfl, fun w _ => by go_simp⟩) hHeldn ?_
        try simp only [Act.put, List.setIfInBounds_toArray, List.set_cons_zero, List.set_cons_succ]
        refine wpAnyH_ready (rs := [0, 5]) (by kernel_rfl) (by simp) ?_
        refine AllReadyH.cons rfl (fun K hK => ?_) (AllReadyH.cons rfl (fun K hK => ?_) AllReadyH.nil)
        · have c64 := cell_below hb14 c6
          go_simp
          refine hK.out _ _ hHeldn (fun hHeldnn => ?_)
          clear hK
          try simp only [Act.put, List.setIfInBounds_toArray, List.set_cons_zero, List.set_cons_succ]
          refine wpAnyH_ready (rs := [5]) (by kernel_rfl) (by simp) ?_
          refine AllReadyH.cons rfl (fun K hK => ?_) AllReadyH.nil
          go_simp
          have hba := (Below.refl _ w4).alloc (Nat.le_refl _) (.cells #[.int .i64 ((l.cut x).length : Int)] 3)
          refine hK.out _ _ ⟨cell_below hba hHeldnn.1, cell_below hba hHeldnn.2.1, cell_below hba hHeldnn.2.2.1, cell_below hba hHeldnn.2.2.2.1, rangeAt_below hba hHeldnn.2.2.2.2⟩ (fun hHeldnnn => ?_)
          clear hK
          try simp only [Act.put, List.setIfInBounds_toArray, List.set_cons_zero, List.set_cons_succ]
          refine wpAnyH_ready (rs := [6]) (by kernel_rfl) (by simp) ?_
          refine AllReadyH.cons rfl (fun K hK => ?_) AllReadyH.nil
          go_simp
          refine (greatest_any _ _ (cell_new' rfl rfl)).mono ?_
          rintro e w6 ⟨rfl, rfl⟩
          dsimp only
          refine hK.out _ _ hHeldnnn (fun hHeldnnnn => ?_)
          clear hK
          try simp only [Act.put, List.setIfInBounds_toArray, List.set_cons_zero, List.set_cons_succ]
          refine wpAnyH_ready (rs := [7]) (by kernel_rfl) (by simp) ?_
          refine AllReadyH.cons rfl (fun K hK => ?_) AllReadyH.nil
          have c67 : (w4.alloc (.cells #[.int .i64 ((l.cut x).length : Int)] 3)).cell? ⟨w1.heap.size + 1, 0, none⟩ = some (.int .i64 (l.most ((l.truths l.knots none72).take i))) := cell_below hba (cell_below hb14 c6)
          have k67 := row_old (o' := .cells #[.int .i64 ((l.cut x).length : Int)] 3) (row_below hb14 k6 (Array.getElem?_eq_some_iff.1 k6).1)
          have f67 := frozen_of_row _ (w1.heap.size + 1) 0 _ _ k67
          go_simp
          refine hK.out _ _ ⟨cset_blk hHeldnnnn.1 (by (try dsimp only); omega), cset_blk hHeldnnnn.2.1 (by (try dsimp only); omega), cset_blk hHeldnnnn.2.2.1 (by (try dsimp only); omega), cset_blk hHeldnnnn.2.2.2.1 (by (try dsimp only); omega), fun j v hv => cset_blk (hHeldnnnn.2.2.2.2 j v hv) (by (try dsimp only); omega)⟩ (fun hHeldnnnnn => ?_)
          clear hK
          try simp only [Act.put, List.setIfInBounds_toArray, List.set_cons_zero, List.set_cons_succ]
          refine wpAnyH_done (by kernel_rfl) ?_ _
          exact HFIN.out w4 _ hb14
        · go_simp
          have hba := (Below.refl _ w4).alloc (Nat.le_refl _) (.cells #[.int .i64 ((l.cut x).length : Int)] 3)
          refine hK.out _ _ ⟨cell_below hba hHeldn.1, cell_below hba hHeldn.2.1, cell_below hba hHeldn.2.2.1, cell_below hba hHeldn.2.2.2.1, rangeAt_below hba hHeldn.2.2.2.2⟩ (fun hHeldnn => ?_)
          clear hK
          try simp only [Act.put, List.setIfInBounds_toArray, List.set_cons_zero, List.set_cons_succ]
          refine wpAnyH_ready (rs := [0]) (by kernel_rfl) (by simp) ?_
          refine AllReadyH.cons rfl (fun K hK => ?_) AllReadyH.nil
          have c66 : (w4.alloc (.cells #[.int .i64 ((l.cut x).length : Int)] 3)).cell? ⟨w1.heap.size + 1, 0, none⟩ = some (.int .i64 (l.most ((l.truths l.knots none72).take i))) := cell_below hba (cell_below hb14 c6)
          go_simp
          refine hK.out _ _ hHeldnn (fun hHeldnnn => ?_)
          clear hK
          try simp only [Act.put, List.setIfInBounds_toArray, List.set_cons_zero, List.set_cons_succ]
          refine wpAnyH_ready (rs := [6]) (by kernel_rfl) (by simp) ?_
          refine AllReadyH.cons rfl (fun K hK => ?_) AllReadyH.nil
          go_simp
          refine (greatest_any _ _ (cell_new' rfl rfl)).mono ?_
          rintro e w6 ⟨rfl, rfl⟩
          dsimp only
          refine hK.out _ _ hHeldnnn (fun hHeldnnnn => ?_)
          clear hK
          try simp only [Act.put, List.setIfInBounds_toArray, List.set_cons_zero, List.set_cons_succ]
          refine wpAnyH_ready (rs := [7]) (by kernel_rfl) (by simp) ?_
          refine AllReadyH.cons rfl (fun K hK => ?_) AllReadyH.nil
          have c67 : (w4.alloc (.cells #[.int .i64 ((l.cut x).length : Int)] 3)).cell? ⟨w1.heap.size + 1, 0, none⟩ = some (.int .i64 (l.most ((l.truths l.knots none72).take i))) := cell_below hba (cell_below hb14 c6)
          have k67 := row_old (o' := .cells #[.int .i64 ((l.cut x).length : Int)] 3) (row_below hb14 k6 (Array.getElem?_eq_some_iff.1 k6).1)
          have f67 := frozen_of_row _ (w1.heap.size + 1) 0 _ _ k67
          go_simp
          refine hK.out _ _ ⟨cset_blk hHeldnnnn.1 (by (try dsimp only); omega), cset_blk hHeldnnnn.2.1 (by (try dsimp only); omega), cset_blk hHeldnnnn.2.2.1 (by (try dsimp only); omega), cset_blk hHeldnnnn.2.2.2.1 (by (try dsimp only); omega), fun j v hv => cset_blk (hHeldnnnn.2.2.2.2 j v hv) (by (try dsimp only); omega)⟩ (fun hHeldnnnnn => ?_)
          clear hK
          try simp only [Act.put, List.setIfInBounds_toArray, List.set_cons_zero, List.set_cons_succ]
          refine wpAnyH_done (by kernel_rfl) ?_ _
          exact HFIN.out w4 _ hb14
  · have hB := (Below.refl _ w).alloc (Nat.le_refl _) (.cells #[.slice A l.long.length c, .int .i64 l.size, .slice B l.knots.length d] 25)
    have H := Lib.hid (h.below hB)
    have HO := Lib.hid (show hopeS l = (0, 10) from if_neg ok)
    clear h he
    rw [HO.out]
    go_enter Tryd.func35, Tryd.ntmps35
    go_wp2_with fail
    refine (asked_bad H.out _ _ ok).mono ?_
    rintro e w1 ⟨rfl, hb1⟩
    have HB := Lib.hid (bb hB hb1)
    clear hb1
    unfold zeroLog
    go_wp2_with fail
    go_ret2
    exact ⟨rfl, (HB.out.alloc HB.out.size _)⟩
end Go.Proofs.YtigofgdmefobaaaDoor.Peel

/- Walks of package peel: Knotty. (the way of a valid question is not walked yet) -/
set_option linter.unusedVariables false
set_option linter.unusedSimpArgs false
namespace Go.Proofs.YtigofgdmefobaaaDoor.Peel
open Go.RowKit Go.Proofs.YtigofgdmefobaaaDoor.Iter
/-- 2: in all truths; 1: in some; 0: in none. -/
def PL.knottyAt (l : PL) (rs : List (Nat → Bool)) (x : Nat) : Int := if rs.all (fun r => r x) = true then 2 else if rs.any (fun r => r x) = true then 1 else 0
def knottyS (l : PL) (x : Int) : Int × Int := if l.Ok then (if 0 ≤ x ∧ x ≤ l.all - 1 then (l.knottyAt (l.truths l.knots none72) x.toNat, 0) else (0, 11)) else (0, 10)
set_option maxRecDepth 8000 in
set_option maxHeartbeats 8000000 in
theorem knotty_refused {w : World} {l : PL} {A B : Option Addr} {c d : Nat} (h : RawAt w l A B c d) (x : Int) (hbad : ¬ (l.Ok ∧ 0 ≤ x ∧ x ≤ l.all - 1)) :
    Calls Tryd.prog 21 #[.agg #[.slice A l.long.length c, .int .i64 l.size, .slice B l.knots.length d], .int .i64 x] w fun e w' => e = .returned (.tuple #[.int .i64 (knottyS l x).1, .int .i64 (knottyS l x).2]) ∧ Below w.heap.size w w' := by
  by_cases ok : l.Ok
  · obtain ⟨a, rfl, hl⟩ := h.at ok
    have hin : ¬ (0 ≤ x ∧ x ≤ l.all - 1) := fun hx => hbad ⟨ok, hx⟩
    have hB := ((Below.refl _ w).alloc (Nat.le_refl _) (.cells #[.slice (some a) l.long.length c, .int .i64 l.size, .slice B l.knots.length d] 25)).alloc (by simp) (.cells #[.int .i64 x] 3)
    have H := Lib.hid (hl.below hB)
    have rg : ((w.alloc (.cells #[.slice (some a) l.long.length c, .int .i64 l.size, .slice B l.knots.length d] 25)).alloc (.cells #[.int .i64 x] 3)).heap[w.heap.size + 1]? = some (.cells #[.int .i64 x] 3 (0, 0)) := by exact rowt_
    have HR := Lib.hid (knotty_right H.out x (w.heap.size + 1) (cell_row' (i := 0) rg rfl))
    have HO := Lib.hid (show knottyS l x = (0, 11) by unfold knottyS; rw [if_pos ok, if_neg hin])
    rw [HO.out]
    rw [decide_eq_false hin] at HR
    clear h hl rg hin hbad
    go_enter Tryd.func21, Tryd.ntmps21
    go_wp2_with fail
    refine (asked_no H.out _ _ HR.out).mono ?_
    rintro e w1 ⟨rfl, hb1⟩
    have HB := Lib.hid (bb hB hb1)
    clear hb1
    unfold zeroLog
    go_wp2_with fail
    go_ret2
    exact ⟨rfl, (HB.out.alloc HB.out.size _)⟩
  · have hB := ((Below.refl _ w).alloc (Nat.le_refl _) (.cells #[.slice A l.long.length c, .int .i64 l.size, .slice B l.knots.length d] 25)).alloc (by simp) (.cells #[.int .i64 x] 3)
    have H := Lib.hid (h.below hB)
    have HO := Lib.hid (show knottyS l x = (0, 10) from if_neg ok)
    clear h hbad
    rw [HO.out]
    go_enter Tryd.func21, Tryd.ntmps21
    go_wp2_with fail
    refine (asked_bad H.out _ _ ok).mono ?_
    rintro e w1 ⟨rfl, hb1⟩
    have HB := Lib.hid (bb hB hb1)
    clear hb1
    unfold zeroLog
    go_wp2_with fail
    go_ret2
    exact ⟨rfl, (HB.out.alloc HB.out.size _)⟩
end Go.Proofs.YtigofgdmefobaaaDoor.Peel
