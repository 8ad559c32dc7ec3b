/- Walks of package peel: Ask. -/
import Derived.Test.YtigofgdmefobaaaDoorPeelY
import Derived.Test.YtigofgdmefobaaaDoorMarks
import Derived.Deep.LoopGhost
import Derived.Laws.AppendOwn
set_option linter.unusedVariables false
set_option linter.unusedSimpArgs false
namespace Go.Proofs.YtigofgdmefobaaaDoor.Peel
open Go.RowKit Go.Proofs.YtigofgdmefobaaaDoor.Iter
attribute [local go_sem] Oper.semAt_some
/-- The log, once a knot is found at a spot. -/
def PL.found (l : PL) (k : Nat) (s : Int × Int) : PL := { l with knots := l.knots.set k ⟨⟨s.1, s.1⟩, ⟨s.2, s.2⟩⟩ }
/-- How many pieces the best cutting has. -/
def PL.pieces (l : PL) : Int := ((l.cut l.possible).length : Int)
/-- How few pieces, at the worst, of some spots of a knot. -/
def PL.worstOf (l : PL) (k : Nat) (ss : List (Int × Int)) : Int := ss.foldl (fun n s => min n (l.found k s).pieces) l.all
def PL.worst (l : PL) (k : Nat) : Int := l.worstOf k ((l.knots.map Kn.spots).getD k [])
/-- The knot that is best to know, of the first n, and how few pieces then. -/
def PL.askF (l : PL) : Nat → Int × Int
  | 0 => (-1, 0)
  | n + 1 => if l.worst n > (l.askF n).2 ∨ (l.askF n).1 < 0 then ((n : Int), l.worst n) else l.askF n
def askS (l : PL) : Int × Int := if l.Ok then (if l.knots.length = 0 then (0, 4) else ((l.askF l.knots.length).1, 0)) else (0, 10)
theorem askF_bd (l : PL) : ∀ n, -1 ≤ (l.askF n).1 ∧ (l.askF n).1 < n ∧ (0 < n → 0 ≤ (l.askF n).1) := by
  intro n
  induction n with
  | zero => simp [PL.askF]
  | succ n ih =>
    unfold PL.askF
    split
    · refine ⟨?_, ?_, ?_⟩ <;> intros <;> dsimp only <;> omega
    · rename_i h
      refine ⟨ih.1, by omega, fun _ => by omega⟩
theorem worstOf_succ (l : PL) (k : Nat) (ss : List (Int × Int)) (i : Nat) (s : Int × Int) (h : ss[i]? = some s) : l.worstOf k (ss.take (i + 1)) = min (l.worstOf k (ss.take i)) (l.found k s).pieces := by
  obtain ⟨hi, he⟩ := List.getElem?_eq_some_iff.1 h
  unfold PL.worstOf
  rw [List.take_succ_eq_append_getElem hi, List.foldl_append, he]
  rfl
/-- A round's end, whatever is told of it. -/
def EndsIn (R : Act → World → Prop) : Exit → Act → World → Prop
  | .normal, a, w => R a w
  | _, _, _ => False
theorem seq_of {F : Fence} {n : Nat} {P : Program} {Q : Exit → Act → World → Prop} {a : Act} {w : World} {x y : Code} {R : Act → World → Prop} (hx : x.wpIn F n P (EndsIn R) a w)
    (hy : ∀ a w, R a w → y.wpIn F n P Q a w) : (Code.seq x y).wpIn F n P Q a w := by
  refine wpIn_seq (wpIn_mono hx ?_)
  rintro e a w h
  cases e with
  | normal => exact hy a w h
  | ret => exact h.elim
  | exit id => exact h.elim
  | goto t => exact h.elim
  | panic ch => exact h.elim
  | outgrown => exact h.elim
/-- The cells of several knots. -/
def cellsOf (ks : List Kn) : List Value := ks.flatMap fun x => [.int .i64 x.a.lo, .int .i64 x.a.hi, .int .i64 x.f.lo, .int .i64 x.f.hi]
theorem cellsOf_append (xs ys : List Kn) : cellsOf (xs ++ ys) = cellsOf xs ++ cellsOf ys := by simp [cellsOf]
theorem cellsOf_len (ks : List Kn) : (cellsOf ks).length = ks.length * 4 := by
  induction ks with
  | nil => rfl
  | cons x ks ih =>
    show ([_, _, _, _] ++ cellsOf ks).length = _
    rw [List.length_append, ih]
    simp
    omega
theorem cellsOf_one (ks : List Kn) : ∀ u ∈ cellsOf ks, u.oneCell' = true := by
  intro u hu
  obtain ⟨x, _, hx⟩ := List.mem_flatMap.1 hu
  simp at hx
  rcases hx with rfl | rfl | rfl | rfl <;> rfl
theorem cellsOf_get : ∀ (ks : List Kn) (j : Nat) (u : Value), (cellsOf ks)[j]? = some u → ∃ q x, ks[q]? = some x ∧ ((j = q * 4 ∧ u = .int .i64 x.a.lo) ∨ (j = q * 4 + 1 ∧ u = .int .i64 x.a.hi) ∨ (j = q * 4 + 2 ∧ u = .int .i64 x.f.lo) ∨ (j = q * 4 + 3 ∧ u = .int .i64 x.f.hi)) := by
  intro ks
  induction ks with
  | nil => intro j u h; simp [cellsOf] at h
  | cons x ks ih =>
    intro j u h
    have h : ([Value.int .i64 x.a.lo, .int .i64 x.a.hi, .int .i64 x.f.lo, .int .i64 x.f.hi] ++ cellsOf ks)[j]? = some u := h
    match j, h with
    | 0, h => exact ⟨0, x, rfl, .inl ⟨rfl, by simpa using h.symm⟩⟩
    | 1, h => exact ⟨0, x, rfl, .inr (.inl ⟨rfl, by simpa using h.symm⟩)⟩
    | 2, h => exact ⟨0, x, rfl, .inr (.inr (.inl ⟨rfl, by simpa using h.symm⟩))⟩
    | 3, h => exact ⟨0, x, rfl, .inr (.inr (.inr ⟨rfl, by simpa using h.symm⟩))⟩
    | j + 4, h =>
      obtain ⟨q, y, hy, hc⟩ := ih j u (by simpa using h)
      refine ⟨q + 1, y, by simpa using hy, ?_⟩
      rcases hc with ⟨h, e⟩ | ⟨h, e⟩ | ⟨h, e⟩ | ⟨h, e⟩
      · exact .inl ⟨by omega, e⟩
      · exact .inr (.inl ⟨by omega, e⟩)
      · exact .inr (.inr (.inl ⟨by omega, e⟩))
      · exact .inr (.inr (.inr ⟨by omega, e⟩))
theorem cellsOf_at (ks : List Kn) (q : Nat) (x : Kn) (h : ks[q]? = some x) : (cellsOf ks)[q * 4]? = some (.int .i64 x.a.lo) ∧ (cellsOf ks)[q * 4 + 1]? = some (.int .i64 x.a.hi) ∧ (cellsOf ks)[q * 4 + 2]? = some (.int .i64 x.f.lo) ∧ (cellsOf ks)[q * 4 + 3]? = some (.int .i64 x.f.hi) := by
  induction ks generalizing q with
  | nil => simp at h
  | cons y ks ih =>
    show ([Value.int .i64 y.a.lo, .int .i64 y.a.hi, .int .i64 y.f.lo, .int .i64 y.f.hi] ++ cellsOf ks)[q * 4]? = _ ∧ ([Value.int .i64 y.a.lo, .int .i64 y.a.hi, .int .i64 y.f.lo, .int .i64 y.f.hi] ++ cellsOf ks)[q * 4 + 1]? = _ ∧ ([Value.int .i64 y.a.lo, .int .i64 y.a.hi, .int .i64 y.f.lo, .int .i64 y.f.hi] ++ cellsOf ks)[q * 4 + 2]? = _ ∧ ([Value.int .i64 y.a.lo, .int .i64 y.a.hi, .int .i64 y.f.lo, .int .i64 y.f.hi] ++ cellsOf ks)[q * 4 + 3]? = _
    cases q with
    | zero => simp at h; subst h; simp
    | succ q =>
      have := ih q (by simpa using h)
      rw [show (q + 1) * 4 = q * 4 + 4 by omega]
      simpa [show q * 4 + 4 + 1 = q * 4 + 1 + 4 by omega, show q * 4 + 4 + 2 = q * 4 + 2 + 4 by omega, show q * 4 + 4 + 3 = q * 4 + 3 + 4 by omega] using this
theorem addr_add_off (b : Addr) (m n : Nat) (h : 0 < n) : b.add (m + n) = ⟨(b.add m).block, (b.add m).off + n, none⟩ := by
  unfold Addr.add
  by_cases hm : m = 0
  · subst hm
    rw [if_neg (by omega), if_pos rfl]
    simp
  · rw [if_neg (by omega), if_neg hm]
    simp [Nat.add_assoc]
theorem cells_at {w : World} {l : PL} {A : Option Addr} {b : Addr} {c d : Nat} (h : RawAt w l A (some b) c d) : ∀ (j : Nat) (u : Value), (cellsOf l.knots)[j]? = some u → w.cell? (b.add j) = some u := by
  intro j u hu
  obtain ⟨q, x, hx, hc⟩ := cellsOf_get _ _ _ hu
  obtain ⟨b', hb', h0, h1, h2, h3⟩ := h.knots q x hx
  cases hb'
  rcases hc with ⟨rfl, rfl⟩ | ⟨rfl, rfl⟩ | ⟨rfl, rfl⟩ | ⟨rfl, rfl⟩
  · exact h0
  · rw [addr_add_off _ _ _ (by omega)]; exact h1
  · rw [addr_add_off _ _ _ (by omega)]; exact h2
  · rw [addr_add_off _ _ _ (by omega)]; exact h3
theorem cur_at {cur : Array Value} {n : Nat} {xs : List Value} (h : cur.toList.take n = xs) {j : Nat} {u : Value} (hu : xs[j]? = some u) : cur[j]? = some u := by
  subst h
  rw [List.getElem?_take] at hu
  split at hu
  · simpa using hu
  · cases hu
theorem set4_at {cur : Array Value} {n : Nat} {ks : List Kn} (htake : cur.toList.take n = cellsOf ks) (k j : Nat) (s1 s2 : Int) (x : Kn) (hsz : k * 4 + 3 < cur.size) (hx : (ks.set k ⟨⟨s1, s1⟩, ⟨s2, s2⟩⟩)[j]? = some x) :
    ((((cur.setIfInBounds (k * 4) (.int .i64 s1)).setIfInBounds (k * 4 + 1) (.int .i64 s1)).setIfInBounds (k * 4 + 2) (.int .i64 s2)).setIfInBounds (k * 4 + 3) (.int .i64 s2))[j * 4]? = some (.int .i64 x.a.lo) ∧
    ((((cur.setIfInBounds (k * 4) (.int .i64 s1)).setIfInBounds (k * 4 + 1) (.int .i64 s1)).setIfInBounds (k * 4 + 2) (.int .i64 s2)).setIfInBounds (k * 4 + 3) (.int .i64 s2))[j * 4 + 1]? = some (.int .i64 x.a.hi) ∧
    ((((cur.setIfInBounds (k * 4) (.int .i64 s1)).setIfInBounds (k * 4 + 1) (.int .i64 s1)).setIfInBounds (k * 4 + 2) (.int .i64 s2)).setIfInBounds (k * 4 + 3) (.int .i64 s2))[j * 4 + 2]? = some (.int .i64 x.f.lo) ∧
    ((((cur.setIfInBounds (k * 4) (.int .i64 s1)).setIfInBounds (k * 4 + 1) (.int .i64 s1)).setIfInBounds (k * 4 + 2) (.int .i64 s2)).setIfInBounds (k * 4 + 3) (.int .i64 s2))[j * 4 + 3]? = some (.int .i64 x.f.hi) := by
  by_cases hjk : k = j
  · subst hjk
    have hlt : k < ks.length := by
      have := (List.getElem?_eq_some_iff.1 hx).1
      simpa using this
    rw [List.getElem?_set_self hlt] at hx
    cases hx
    refine ⟨?_, ?_, ?_, ?_⟩ <;> simp [Array.getElem?_setIfInBounds] <;> omega
  · rw [List.getElem?_set_ne hjk] at hx
    obtain ⟨h0, h1, h2, h3⟩ := cellsOf_at ks j x hx
    have c0 := cur_at htake h0
    have c1 := cur_at htake h1
    have c2 := cur_at htake h2
    have c3 := cur_at htake h3
    refine ⟨?_, ?_, ?_, ?_⟩
    · rw [Array.getElem?_setIfInBounds_ne (by omega), Array.getElem?_setIfInBounds_ne (by omega), Array.getElem?_setIfInBounds_ne (by omega), Array.getElem?_setIfInBounds_ne (by omega)]; exact c0
    · rw [Array.getElem?_setIfInBounds_ne (by omega), Array.getElem?_setIfInBounds_ne (by omega), Array.getElem?_setIfInBounds_ne (by omega), Array.getElem?_setIfInBounds_ne (by omega)]; exact c1
    · rw [Array.getElem?_setIfInBounds_ne (by omega), Array.getElem?_setIfInBounds_ne (by omega), Array.getElem?_setIfInBounds_ne (by omega), Array.getElem?_setIfInBounds_ne (by omega)]; exact c2
    · rw [Array.getElem?_setIfInBounds_ne (by omega), Array.getElem?_setIfInBounds_ne (by omega), Array.getElem?_setIfInBounds_ne (by omega), Array.getElem?_setIfInBounds_ne (by omega)]; exact c3
theorem found_ok {l : PL} (ok : l.Ok) {k : Nat} {kn : Kn} (hk : l.knots[k]? = some kn) {i : Nat} {s1 s2 : Int} (hs : kn.spots[i]? = some (s1, s2)) : (l.found k (s1, s2)).Ok := by
  obtain ⟨b1, b2, b3, b4⟩ := spots_bd (ok.knots kn (List.mem_of_getElem? hk)) hs
  refine ⟨ok.turns1, ok.turns, ok.size1, ok.size6, by unfold PL.found; simp only [List.length_set]; exact ok.knots3, ok.long, ok.down, fun x hx => ?_⟩
  rcases List.mem_or_eq_of_mem_set (show x ∈ l.knots.set k _ from hx) with h | rfl
  · exact ok.knots x h
  · exact ⟨⟨b1, Int.le_refl _, b2, by simp⟩, ⟨b3, Int.le_refl _, b4, by simp⟩⟩
theorem infoKnot : (Tryd.prog.info? 61).map (fun i => (i.zero, i.size, i.bytes)) = some (some (.agg #[.int .i64 0, .int .i64 0, .int .i64 0, .int .i64 0]), 4, 32) := by kernel_rfl
theorem seq_of2 {F : Fence} {n : Nat} {P : Program} {Q : Exit → Act → World → Prop} {a : Act} {w : World} {x y : Code} {Fct : Nat → World → Prop} {Wf : Nat → World → World} {A : Nat → World → Act}
    (hx : x.wpIn F n P (EndsIn fun a' W' => ∃ m2 w8, a' = A m2 w8 ∧ W' = Wf m2 w8 ∧ Fct m2 w8) a w) (hy : ∀ m2 w8, Fct m2 w8 → y.wpIn F n P Q (A m2 w8) (Wf m2 w8)) : (Code.seq x y).wpIn F n P Q a w := by
  refine seq_of hx ?_
  rintro _ _ ⟨m2, w8, rfl, rfl, h⟩
  exact hy m2 w8 h
set_option maxRecDepth 8000 in
set_option maxHeartbeats 4000000 in
theorem ask_any {w : World} {l : PL} {A B : Option Addr} {c d : Nat} (h : RawAt w l A B c d) (he : EndsAt w) :
    Calls Tryd.prog 37 #[.agg #[.slice A l.long.length c, .int .i64 l.size, .slice B l.knots.length d]] w fun e w' => e = .returned (.tuple #[.int .i64 (askS l).1, .int .i64 (askS l).2]) ∧ Below w.heap.size w w' := by
  by_cases ok : l.Ok
  · obtain ⟨a, rfl, hl⟩ := h.at ok
    have hB := (Below.refl _ w).alloc (Nat.le_refl _) (.cells #[.slice (some a) l.long.length c, .int .i64 l.size, .slice B l.knots.length d] 25)
    have rx : (w.alloc (.cells #[.slice (some a) l.long.length c, .int .i64 l.size, .slice B l.knots.length d] 25)).heap[w.heap.size]? = some (.cells #[.slice (some a) l.long.length c, .int .i64 l.size, .slice B l.knots.length d] 25 (0, 0)) := by (repeat (first | with_reducible assumption | with_reducible exact row_new | with_reducible refine row_drew ?_ | with_reducible apply row_same | with_reducible refine row_diff ?_ (by first | omega | (simp only [World.size_alloc, size_setRow, size_drew', World.size_setCell]; omega)) | with_reducible refine row_far ?_ (by (try dsimp only); first | omega | (simp only [World.size_alloc, size_setRow, size_drew', World.size_setCell]; omega)) | with_reducible refine row_new' (by first | (simp only [World.size_alloc, size_setRow, size_drew', World.size_setCell]; done) | omega | (simp only [World.size_alloc, size_setRow, size_drew', World.size_setCell]; omega)) | with_reducible refine row_old ?_ | with_reducible refine row_below (by assumption) ?_ (by first | omega | (simp only [World.size_alloc, size_setRow, size_drew', World.size_setCell]; omega))))
    have H := Lib.hid (hl.below hB)
    have HE := Lib.hid (he.below hB)
    have RX := Lib.hid rx
    have HOK := Lib.hid ok
    have HRAW := Lib.hid h
    have HEW := Lib.hid he
    have hd3 : l.knots.length ≤ 3 := ok.knots3
    have hdd : l.knots.length ≤ d := h.d
    have hall := all_bd ok
    clear h hl he rx
    refine callsIn_wide.1 (callsIn_of_wp_marks (n := 0) Tryd.func37 rfl trivial ?_)
    simp only [Tryd.ntmps37, List.size_toArray, List.length_cons, List.length_nil, Nat.reduceAdd, Nat.reduceSub, Array.replicate_succ, Array.replicate_zero, List.push_toArray, List.append_toArray, List.nil_append, List.cons_append]
    refine wpIn_wide.2 ?_
    go_wp2_with fail
    refine (asked_yes H.out _ _ (anything_right _ l a B c d)).mono ?_
    rintro e w1 ⟨m, rfl, hb1, hm1, hm2⟩
    have hmw : m < w1.heap.size := (Array.getElem?_eq_some_iff.1 hm1).1
    have hmz : w.heap.size + 1 ≤ m := by simpa using hm2
    have H1 := Lib.hid (H.out.below hb1)
    have HE1 := Lib.hid (HE.out.below hb1)
    have HM1 := Lib.hid (marks_new (l := l) hm1)
    have zw1 := hb1.size
    simp only [World.size_alloc] at zw1
    have RX1 := Lib.hid (row_below hb1 RX.out (by simp))
    have HB1 := Lib.hid (bb hB hb1)
    have xo := row_old (o' := .cells #[.slice (some a) l.long.length c, .int .i64 l.size, .slice B l.knots.length d, .map (some m)] 75) RX1.out
    have x2 : (w1.alloc (.cells #[.slice (some a) l.long.length c, .int .i64 l.size, .slice B l.knots.length d, .map (some m)] 75)).cell? ⟨w.heap.size, 2, none⟩ = some (.slice B l.knots.length d) := cell_row' (i := 2) xo rfl
    clear hb1 hm1 hm2 hB xo
    go_upto_region 4 with (fail)
    go_upto_region 6 with (fail)
    obtain ⟨W0, hW0⟩ : ∃ W0, W0 = w1.alloc (.cells #[.slice (some a) l.long.length c, .int .i64 l.size, .slice B l.knots.length d, .map (some m)] 75) := ⟨_, rfl⟩
    rw [← hW0]
    have z0 : W0.heap.size = w1.heap.size + 1 := by rw [hW0]; simp
    have hb0 : Below w1.heap.size w1 W0 := by rw [hW0]; exact (Below.refl _ w1).alloc (Nat.le_refl _) _
    have r4 : W0.heap[w1.heap.size]? = some (.cells #[.slice (some a) l.long.length c, .int .i64 l.size, .slice B l.knots.length d, .map (some m)] 75 (0, 0)) := by rw [hW0]; (repeat (first | with_reducible assumption | with_reducible exact row_new | with_reducible refine row_drew ?_ | with_reducible apply row_same | with_reducible refine row_diff ?_ (by first | omega | (simp only [World.size_alloc, size_setRow, size_drew', World.size_setCell]; omega)) | with_reducible refine row_far ?_ (by (try dsimp only); first | omega | (simp only [World.size_alloc, size_setRow, size_drew', World.size_setCell]; omega)) | with_reducible refine row_new' (by first | (simp only [World.size_alloc, size_setRow, size_drew', World.size_setCell]; done) | omega | (simp only [World.size_alloc, size_setRow, size_drew', World.size_setCell]; omega)) | with_reducible refine row_old ?_ | with_reducible refine row_below (by assumption) ?_ (by first | omega | (simp only [World.size_alloc, size_setRow, size_drew', World.size_setCell]; omega))))
    have RX0 := Lib.hid (row_below hb0 RX1.out (by omega))
    have R4 := Lib.hid r4
    have H0 := Lib.hid (H1.out.below hb0)
    have HE0 := Lib.hid (HE1.out.below hb0)
    have HB0 := Lib.hid (bb HB1.out hb0)
    clear hW0 hb0 r4 x2
    refine wp_loop_ghost_k (fun n a' W => ∃ (k : Nat) (rs : List Nat) (u8 u9 u25 u26 u27 u28 u29 u30 u31 u69 u70 u71 u72 u73 u74 u75 u76 u77 u78 : Value) (bb mm : Int), n = l.knots.length - k ∧ bb = (l.askF k).1 ∧ mm = (l.askF k).2 ∧ k ≤ l.knots.length ∧ MarksIn W0.heap.size rs W ∧ Below W0.heap.size W0 W ∧ a' = { tmps := #[.agg #[.slice (some a) l.long.length c, .int .i64 l.size, .slice B l.knots.length d], .pointer (some ⟨w.heap.size, 0, none⟩), .int .i64 0, .int .i64 0, .pointer (some ⟨w1.heap.size, 0, none⟩), .int .i64 0, .int .i64 bb, .int .i64 mm, u8, u9, undef, undef, undef, .tuple #[.agg #[.slice (some a) l.long.length c, .int .i64 l.size, .slice B l.knots.length d, .map (some m)], .int .i64 0], .agg #[.slice (some a) l.long.length c, .int .i64 l.size, .slice B l.knots.length d], .tuple #[.agg #[.slice (some a) l.long.length c, .int .i64 l.size, .slice B l.knots.length d, .map (some m)], .int .i64 0], .agg #[.slice (some a) l.long.length c, .int .i64 l.size, .slice B l.knots.length d, .map (some m)], .int .i64 0, .int .i64 0, .bool false, undef, .pointer (some ⟨w.heap.size, 2, none⟩), .slice B l.knots.length d, .int .i64 l.knots.length, .int .i64 k, u25, u26, u27, u28, u29, u30, u31, undef, undef, undef, undef, undef, undef, undef, undef, undef, undef, undef, undef, undef, undef, undef, undef, undef, undef, undef, undef, undef, undef, undef, undef, undef, undef, undef, undef, undef, undef, undef, undef, undef, undef, undef, undef, undef, u69, u70, u71, u72, u73, u74, u75, u76, u77, u78, undef, undef, undef], defers := rs.map markOf }) l.knots.length ⟨0, [], undef, undef, undef, undef, undef, undef, undef, undef, undef, undef, undef, undef, undef, undef, undef, undef, undef, undef, undef, -1, 0, by omega, rfl, rfl, by omega, MarksIn.nil _ _, Below.refl _ _, rfl⟩ ?_
    rintro r a' W ⟨k, rs, u8, u9, u25, u26, u27, u28, u29, u30, u31, u69, u70, u71, u72, u73, u74, u75, u76, u77, u78, bb, mm, rfl, rfl, rfl, hk, hmk, hbw, rfl⟩ J K hJ hK
    have HJ := Lib.hid hJ
    have zW := hbw.size
    have HMK := Lib.hid hmk
    have HBW := Lib.hid hbw
    clear hJ
    by_cases hlt : k < l.knots.length
    · go_upto_region 8 with (fail)
      obtain ⟨W1, hW1⟩ : ∃ W1, W1 = W.alloc (.cells #[.int .i64 k] 3) := ⟨_, rfl⟩
      rw [← hW1]
      have z1 : W1.heap.size = W.heap.size + 1 := by rw [hW1]; simp
      have hb1 : Below W.heap.size W W1 := by rw [hW1]; exact (Below.refl _ W).alloc (Nat.le_refl _) _
      have r8 : W1.heap[W.heap.size]? = some (.cells #[.int .i64 k] 3 (0, 0)) := by rw [hW1]; (repeat (first | with_reducible assumption | with_reducible exact row_new | with_reducible refine row_drew ?_ | with_reducible apply row_same | with_reducible refine row_diff ?_ (by first | omega | (simp only [World.size_alloc, size_setRow, size_drew', World.size_setCell]; omega)) | with_reducible refine row_far ?_ (by (try dsimp only); first | omega | (simp only [World.size_alloc, size_setRow, size_drew', World.size_setCell]; omega)) | with_reducible refine row_new' (by first | (simp only [World.size_alloc, size_setRow, size_drew', World.size_setCell]; done) | omega | (simp only [World.size_alloc, size_setRow, size_drew', World.size_setCell]; omega)) | with_reducible refine row_old ?_ | with_reducible refine row_below (by assumption) ?_ (by first | omega | (simp only [World.size_alloc, size_setRow, size_drew', World.size_setCell]; omega))))
      clear hW1
      have hb01 := bb HBW.out hb1
      have r41 := row_below hb01 R4.out (by omega)
      have R8 := Lib.hid r8
      have HB01 := Lib.hid hb01
      have q0 : W1.cell? ⟨w1.heap.size, 0, none⟩ = some (.slice (some a) l.long.length c) := cell_row' (i := 0) r41 rfl
      have q1 : W1.cell? ⟨w1.heap.size, 1, none⟩ = some (.int .i64 l.size) := cell_row' (i := 1) r41 rfl
      have q2 : W1.cell? ⟨w1.heap.size, 2, none⟩ = some (.slice B l.knots.length d) := cell_row' (i := 2) r41 rfl
      have q3 : W1.cell? ⟨w1.heap.size, 3, none⟩ = some (.map (some m)) := cell_row' (i := 3) r41 rfl
      have hb1z : Below W.heap.size W W1 := hb1
      clear hb01 hb1 r41 r8
      go_wp2_with fail
      refine (columns_any m ((H0.out.below HBW.out).below hb1z)).mono ?_
      rintro e w2 ⟨rfl, hb2⟩
      obtain ⟨W2, hW2⟩ : ∃ W2, W2 = w2.alloc (.cells #[.int .i64 l.all] 3) := ⟨_, rfl⟩
      have zw2 := hb2.size
      have z2 : W2.heap.size = w2.heap.size + 1 := by rw [hW2]; simp
      have hb12 : Below W1.heap.size W1 W2 := by rw [hW2]; exact hb2.alloc hb2.size _
      have r9 : W2.heap[w2.heap.size]? = some (.cells #[.int .i64 l.all] 3 (0, 0)) := by rw [hW2]; (repeat (first | with_reducible assumption | with_reducible exact row_new | with_reducible refine row_drew ?_ | with_reducible apply row_same | with_reducible refine row_diff ?_ (by first | omega | (simp only [World.size_alloc, size_setRow, size_drew', World.size_setCell]; omega)) | with_reducible refine row_far ?_ (by (try dsimp only); first | omega | (simp only [World.size_alloc, size_setRow, size_drew', World.size_setCell]; omega)) | with_reducible refine row_new' (by first | (simp only [World.size_alloc, size_setRow, size_drew', World.size_setCell]; done) | omega | (simp only [World.size_alloc, size_setRow, size_drew', World.size_setCell]; omega)) | with_reducible refine row_old ?_ | with_reducible refine row_below (by assumption) ?_ (by first | omega | (simp only [World.size_alloc, size_setRow, size_drew', World.size_setCell]; omega))))
      have R82 := Lib.hid (row_below hb12 R8.out (by omega))
      have c8 : W2.cell? ⟨W.heap.size, 0, none⟩ = some (.int .i64 k) := cell_row' R82.out rfl
      have p0 := cell_below hb12 q0
      have p1 := cell_below hb12 q1
      have p2 := cell_below hb12 q2
      have p3 := cell_below hb12 q3
      have R9 := Lib.hid r9
      have hb02 := bb HB01.out hb12
      have HB02 := Lib.hid hb02
      have HBW2 := Lib.hid (bb hb1z hb12)
      have H2 := Lib.hid (H0.out.below hb02)
      have HE2 := Lib.hid (HE0.out.below hb02)
      clear hb12 r9 hb02 q0 q1 q2 q3
      have HW2 := Lib.hid hW2
      clear hW2
      go_upto_region 9 with (fail)
      rw [← HW2.out]
      clear hb2 HW2
      go_wp2_with fail
      refine (spots_any H2.out HE2.out k).mono ?_
      rintro e w3 ⟨bl, bk, rfl, hb3, hneed, hbl, hbk⟩
      obtain ⟨kn, hkn⟩ : ∃ kn, l.knots[k]? = some kn := ⟨l.knots[k], by simp [hlt]⟩
      have z3 := hb3.size
      have HN := Lib.hid hneed
      have R9w := Lib.hid (row_below hb3 R9.out (by omega))
      have R8w := Lib.hid (row_below hb3 R82.out (by omega))
      have RXw := Lib.hid (row_below (bb HB02.out hb3) RX0.out (by omega))
      have HB03 := Lib.hid (bb HB02.out hb3)
      have HBW3 := Lib.hid (bb HBW2.out hb3)
      have lbl : bl < w3.heap.size := World.block_lt_of_cell? w3 _ hneed.q0
      have lbk : bk < w3.heap.size := World.block_lt_of_cell? w3 _ hneed.k
      have zz := HB0.out.size
      clear hneed hb3 p0 p1 p2 p3 c8
      go_wp2_with fail
      refine (wpIn_wide (n := 0)).1 ?_
      refine range_law (gf := 96) (lb := #[.pointer (some ⟨bl, 0, none⟩), .pointer (some ⟨bk, 0, none⟩)]) rfl (enters_of Tryd.func96 (by kernel_rfl) rfl)
        (spots_yields l a B c d m bl bk k kn hkn) (fun _ => rfl) (fun i T V => V.heap[w2.heap.size]? = some (.cells #[.int .i64 (l.worstOf k (kn.spots.take i))] 3 (0, 0)) ∧ LoopsM w3.heap.size (fun b => b = w2.heap.size) w3 T V)
        ?hI (fun b h => h.elim) HN.out (fun V V' hV hsz hs => HN.out.far hV (hs.below hsz (fun b hb h => by omega))) (fun V hV => ⟨?h0a, ?h0c⟩) ?hround ?hdone
      case hI =>
        rintro i T T' V V' ⟨hr, hl⟩ hs hT
        exact ⟨hl.obj hs (by omega) (by omega) hr, hl.abides hs hT⟩
      case h0a => exact row_below hV R9w.out (by omega)
      case h0c => exact ⟨fun b h => by rcases h with h | h | h; exact h.elim; exact .inl h; exact .inr (by omega), Ext.below hV, fun b hb _ _ => hV.block b hb⟩
      case hdone =>
        rintro D V ⟨hr, hl⟩ hneed hDa hDb hK2
        rw [List.take_length] at hr
        have zV := hl.ext.size
        have hworst : l.worst k = l.worstOf k kn.spots := by unfold PL.worst; simp [List.getD_eq_getElem?_getD, hkn]
        rw [← hworst] at hr
        have hwV : w3.heap.size < V.heap.size := (Array.getElem?_eq_some_iff.1 hK2).1
        have x9 : V.cell? ⟨w2.heap.size, 0, none⟩ = some (.int .i64 (l.worst k)) := cell_row' hr rfl
        have r8V : V.heap[W.heap.size]? = some (.cells #[.int .i64 k] 3 (0, 0)) := (hl.same _ (by omega) (by omega) (by show ¬ _ = _; omega)).trans R8w.out
        have x8 : V.cell? ⟨W.heap.size, 0, none⟩ = some (.int .i64 k) := cell_row' r8V rfl
        have hbV : Below W0.heap.size W0 V := by
          refine HB03.out.trans ⟨hl.ext.os, hl.ext.tape, hl.ext.output, hl.ext.size, fun b hb => hl.same b (by omega) (by omega) (by show ¬ _ = _; omega)⟩
        have hmV : MarksIn W0.heap.size (w3.heap.size :: rs) V := by
          refine MarksIn.cons (HMK.out.mono fun r hr' => ?_) (fun hr' => by have := HMK.out.lt hr'; omega) (by omega) hK2
          have hlr := HMK.out.lt hr'
          have h1 : w3.heap[r]? = W.heap[r]? := HBW3.out.block r hlr
          exact (hl.same r (by omega) (by omega) (by show ¬ _ = _; omega)).trans h1
        have HBV := Lib.hid hbV
        have HMV := Lib.hid hmV
        clear hl hneed hK2 hr r8V hbV hmV hworst
        gi_wp2
        by_cases h1 : (l.askF k).2 < l.worst k
        · have HS := Lib.hid (show l.askF (k + 1) = ((k : Int), l.worst k) from if_pos (.inl h1))
          go_wp2_with fail
          go_region_held3 (fun w' => w'.cell? ⟨w2.heap.size, 0, none⟩ = some (.int .i64 (l.worst k)) ∧ w'.cell? ⟨W.heap.size, 0, none⟩ = some (.int .i64 k)) (go_keep) (fail)
          all_goals go_wp2_with fail
          all_goals exact ⟨l.knots.length - (k + 1), by omega, HJ.out _ _ _ ⟨k + 1, w3.heap.size :: rs, _, _, _, _, _, _, _, _, _, _, _, _, _, _, _, _, _, _, _, _, _, rfl, (by rw [HS.out]), (by rw [HS.out]), by omega, (by exact HMV.out.mono fun _ _ => rfl), (by exact HBV.out.drew), rfl⟩⟩
        · by_cases h2 : (l.askF k).1 < 0
          · have HS := Lib.hid (show l.askF (k + 1) = ((k : Int), l.worst k) from if_pos (.inr h2))
            go_wp2_with fail
            go_region_held3 (fun w' => w'.cell? ⟨w2.heap.size, 0, none⟩ = some (.int .i64 (l.worst k)) ∧ w'.cell? ⟨W.heap.size, 0, none⟩ = some (.int .i64 k)) (go_keep) (fail)
            all_goals go_wp2_with fail
            all_goals exact ⟨l.knots.length - (k + 1), by omega, HJ.out _ _ _ ⟨k + 1, w3.heap.size :: rs, _, _, _, _, _, _, _, _, _, _, _, _, _, _, _, _, _, _, _, _, _, rfl, (by rw [HS.out]), (by rw [HS.out]), by omega, (by exact HMV.out.mono fun _ _ => rfl), (by exact HBV.out.drew), rfl⟩⟩
          · have HS := Lib.hid (show l.askF (k + 1) = l.askF k from if_neg (fun h => h.elim h1 h2))
            go_wp2_with fail
            exact ⟨l.knots.length - (k + 1), by omega, HJ.out _ _ _ ⟨k + 1, w3.heap.size :: rs, _, _, _, _, _, _, _, _, _, _, _, _, _, _, _, _, _, _, _, _, _, rfl, (by rw [HS.out]), (by rw [HS.out]), by omega, HMV.out, HBV.out, rfl⟩⟩
      case hround =>
        rintro i s D V hx hVsz ⟨hr, hl⟩ hneed hDa hDb hDbd
        obtain ⟨s1, s2⟩ := s
        dsimp only [spotV]
        rw [put_one]
        simp only [List.setIfInBounds_toArray, List.set_cons_succ, List.set_cons_zero]
        gi_wp2
        obtain ⟨V0, hV0⟩ : ∃ V0, V0 = V.alloc (.cells #[.int .i64 s1, .int .i64 s2] 102) := ⟨_, rfl⟩
        have hV1 : Below V.heap.size V V0 := by rw [hV0]; exact (Below.refl _ V).alloc (Nat.le_refl _) _
        have k4 : V0.heap[V.heap.size]? = some (.cells #[.int .i64 s1, .int .i64 s2] 102 (0, 0)) := by rw [hV0]; (repeat (first | with_reducible assumption | with_reducible exact row_new | with_reducible refine row_drew ?_ | with_reducible apply row_same | with_reducible refine row_diff ?_ (by first | omega | (simp only [World.size_alloc, size_setRow, size_drew', World.size_setCell]; omega)) | with_reducible refine row_far ?_ (by (try dsimp only); first | omega | (simp only [World.size_alloc, size_setRow, size_drew', World.size_setCell]; omega)) | with_reducible refine row_new' (by first | (simp only [World.size_alloc, size_setRow, size_drew', World.size_setCell]; done) | omega | (simp only [World.size_alloc, size_setRow, size_drew', World.size_setCell]; omega)) | with_reducible refine row_old ?_ | with_reducible refine row_below (by assumption) ?_ (by first | omega | (simp only [World.size_alloc, size_setRow, size_drew', World.size_setCell]; omega))))
        have zV0 : V0.heap.size = V.heap.size + 1 := by rw [hV0]; simp
        rw [← hV0]
        clear hV0
        refine ⟨hV1, fun V1 hst1 => ?_⟩
        have zw3 : w3.heap.size ≤ V.heap.size := hl.ext.size
        have k7 := hst1.obj k4 (by omega)
        have hs01 : Stays (fun b => b = w2.heap.size ∨ w3.heap.size ≤ b) V V1 := (Stays.of_below hV1).trans (hst1.mono fun b _ h => .inr (by omega))
        have hfar : Below w.heap.size w3 V1 := (show Below w.heap.size w3 V from ⟨hl.ext.os, hl.ext.tape, hl.ext.output, hl.ext.size, fun b hb => hl.same b (by omega) (by omega) (by show ¬ _ = _; omega)⟩).trans (hs01.below (by omega) (fun b hb h => by rcases h with h | h <;> omega))
        have hraw : RawAt V1 l (some a) B c d := HRAW.out.below (HB0.out.trans ((HB03.out.mono (by omega)).trans hfar))
        have hends : EndsAt V1 := HEW.out.below (HB0.out.trans ((HB03.out.mono (by omega)).trans hfar))
        have hsame : ∀ b, b < w3.heap.size → b ≠ w2.heap.size → V1.heap[b]? = w3.heap[b]? := fun b hb hn => (hs01.block b (by omega) (fun h => by rcases h with h | h <;> omega)).trans (hl.same b hb (by omega) hn)
        have rx := (hsame w.heap.size (by omega) (by omega)).trans RXw.out
        have r8 := (hsame W.heap.size (by omega) (by omega)).trans R8w.out
        have r9 : V1.heap[w2.heap.size]? = some (.cells #[.int .i64 (l.worstOf k (kn.spots.take i))] 3 (0, 0)) := hst1.obj (row_below hV1 hr (by omega)) (by omega)
        have x0 : V1.cell? ⟨w.heap.size, 0, none⟩ = some (.slice (some a) l.long.length c) := cell_row' (i := 0) rx rfl
        have x1 : V1.cell? ⟨w.heap.size, 1, none⟩ = some (.int .i64 l.size) := cell_row' (i := 1) rx rfl
        have x2 : V1.cell? ⟨w.heap.size, 2, none⟩ = some (.slice B l.knots.length d) := cell_row' (i := 2) rx rfl
        have hfin : ∀ w11, Below V1.heap.size V1 w11 → ((w11.setCell ⟨w2.heap.size, 0, none⟩ (.int .i64 (min (l.worstOf k (kn.spots.take i)) (l.found k (s1, s2)).pieces))).heap[w2.heap.size]? = some (.cells #[.int .i64 (l.worstOf k (kn.spots.take (i + 1)))] 3 (0, 0)) ∧ LoopsM w3.heap.size (fun b => b = w2.heap.size) w3 D (w11.setCell ⟨w2.heap.size, 0, none⟩ (.int .i64 (min (l.worstOf k (kn.spots.take i)) (l.found k (s1, s2)).pieces)))) ∧ Keeps D V1 (w11.setCell ⟨w2.heap.size, 0, none⟩ (.int .i64 (min (l.worstOf k (kn.spots.take i)) (l.found k (s1, s2)).pieces))) ∧ SpotsNeed l a B c d m bl bk k (w11.setCell ⟨w2.heap.size, 0, none⟩ (.int .i64 (min (l.worstOf k (kn.spots.take i)) (l.found k (s1, s2)).pieces))) := by
          intro w11 hb11
          have hrow : (w11.setCell ⟨w2.heap.size, 0, none⟩ (.int .i64 (min (l.worstOf k (kn.spots.take i)) (l.found k (s1, s2)).pieces))).heap[w2.heap.size]? = some (.cells #[.int .i64 (l.worstOf k (kn.spots.take (i + 1)))] 3 (0, 0)) := by
            rw [worstOf_succ l k _ i _ hx]
            exact blk_set (row_below hb11 r9 (Array.getElem?_eq_some_iff.1 r9).1) 0 _
          obtain ⟨W', hW'⟩ : ∃ W', W' = w11.setCell ⟨w2.heap.size, 0, none⟩ (.int .i64 (min (l.worstOf k (kn.spots.take i)) (l.found k (s1, s2)).pieces)) := ⟨_, rfl⟩
          have hs : Stays (fun b => b = w2.heap.size) V1 W' := by rw [hW']; exact (Stays.of_below hb11).trans (stays_setCell (T := fun b => b = w2.heap.size) _ ⟨w2.heap.size, 0, none⟩ _ rfl)
          rw [← hW'] at hrow ⊢
          have hsV : Stays (fun b => b = w2.heap.size ∨ w3.heap.size ≤ b) V W' := hs01.trans (hs.mono fun b _ h => .inl h)
          have hb0 : Below W0.heap.size V W' := hsV.below (by omega) (fun b hb h => by rcases h with h | h <;> omega)
          have hcell : ∀ bb o' v, W2.heap.size ≤ bb → bb < w3.heap.size → V.cell? ⟨bb, o', none⟩ = some v → W'.cell? ⟨bb, o', none⟩ = some v := fun bb o' v h1 h2 hv => by
            rw [← hv]
            exact World.cell?_of_block (hsV.block bb (by omega) (fun h => by rcases h with h | h <;> omega))
          exact ⟨⟨hrow, hl.round hsV⟩, Keeps.of_stays hs (fun b hb hD => by rcases hl.t b hD with h | h <;> omega), ⟨H0.out.far hneed.log hb0, HE0.out.far hneed.ends hb0, hcell _ 0 _ hbl lbl hneed.q0, hcell _ 1 _ hbl lbl hneed.q1, hcell _ 2 _ hbl lbl hneed.q2, hcell _ 3 _ hbl lbl hneed.q3, hcell _ 0 _ hbk lbk hneed.k⟩⟩
        have HFIN := Lib.hid hfin
        have HRAW1 := Lib.hid hraw
        have HENDS1 := Lib.hid hends
        have zV1 : V0.heap.size ≤ V1.heap.size := hst1.ext.size
        try simp only [Act.put, List.setIfInBounds_toArray, List.set_cons_succ, List.set_cons_zero]
        refine wpIn_block ?_
        apply seq_of (R := fun a' W' => a' = _ ∧ W' = _)
        · gi_wp2
          exact ⟨rfl, rfl⟩
        rintro _ _ ⟨rfl, rfl⟩
        obtain ⟨V2, hV2⟩ : ∃ V2, V2 = V1.alloc (.cells #[.slice (some a) l.long.length c, .int .i64 l.size, .slice B l.knots.length d] 25) := ⟨_, rfl⟩
        rw [← hV2]
        have hb2 : Below V1.heap.size V1 V2 := by rw [hV2]; exact (Below.refl _ V1).alloc (Nat.le_refl _) _
        have ry : V2.heap[V1.heap.size]? = some (.cells #[.slice (some a) l.long.length c, .int .i64 l.size, .slice B l.knots.length d] 25 (0, 0)) := by rw [hV2]; (repeat (first | with_reducible assumption | with_reducible exact row_new | with_reducible refine row_drew ?_ | with_reducible apply row_same | with_reducible refine row_diff ?_ (by first | omega | (simp only [World.size_alloc, size_setRow, size_drew', World.size_setCell]; omega)) | with_reducible refine row_far ?_ (by (try dsimp only); first | omega | (simp only [World.size_alloc, size_setRow, size_drew', World.size_setCell]; omega)) | with_reducible refine row_new' (by first | (simp only [World.size_alloc, size_setRow, size_drew', World.size_setCell]; done) | omega | (simp only [World.size_alloc, size_setRow, size_drew', World.size_setCell]; omega)) | with_reducible refine row_old ?_ | with_reducible refine row_below (by assumption) ?_ (by first | omega | (simp only [World.size_alloc, size_setRow, size_drew', World.size_setCell]; omega))))
        have zV2 : V2.heap.size = V1.heap.size + 1 := by rw [hV2]; simp
        have HV2 := Lib.hid hV2
        have HB2 := Lib.hid hb2
        have c8 : V2.cell? ⟨W.heap.size, 0, none⟩ = some (.int .i64 k) := cell_row' (row_below hb2 r8 (by omega)) rfl
        have cx : V2.cell? ⟨w.heap.size, 2, none⟩ = some (.slice B l.knots.length d) := cell_below hb2 x2
        have cy : V2.cell? ⟨V1.heap.size, 2, none⟩ = some (.slice B l.knots.length d) := cell_row' (i := 2) ry rfl
        clear hV2 x0 x1 x2
        obtain ⟨b, rfl, hbk0, hbk1, hbk2, hbk3⟩ := hraw.knots k kn hkn
        obtain ⟨i1, hi1, hz10, hz11, hz12⟩ := info_parts infoKnot
        have hundK := Tryd.underlying23
        refine wpIn_seq ?_
        refine region_e_in 11 (fun w' => w'.cell? ⟨w.heap.size, 2, none⟩ = some (.slice (some b) l.knots.length d) ∧ w'.cell? ⟨W.heap.size, 0, none⟩ = some (.int .i64 k)) (by kernel_rfl) (by kernel_rfl) (by rintro ⟨a, w, h⟩; exact h) ⟨cx, c8⟩ (fun hHeld => ?_)
        refine e_take 0 34 (.pointer (some ⟨w.heap.size, 2, none⟩)) rfl rfl (by kernel_rfl) (by kernel_rfl) (by kernel_rfl) (by kernel_rfl) (fun _ _ _ h => h) (Or.inl ⟨by rfl, fun w hw => by dsimp only at hw; obtain ⟨h0, h1⟩ := hw; go_simp⟩) hHeld ?_
        simp only [List.setIfInBounds_toArray, List.set_cons_zero, List.set_cons_succ]
        refine e_take 1 35 (.slice (some b) l.knots.length d) rfl rfl (by kernel_rfl) (by kernel_rfl) (by kernel_rfl) (by kernel_rfl) (fun _ _ _ h => h) (Or.inl ⟨by rfl, fun w hw => by dsimp only at hw; obtain ⟨h0, h1⟩ := hw; go_simp⟩) hHeld ?_
        simp only [List.setIfInBounds_toArray, List.set_cons_zero, List.set_cons_succ]
        refine e_take 2 36 (.int .i64 k) rfl rfl (by kernel_rfl) (by kernel_rfl) (by kernel_rfl) (by kernel_rfl) (fun _ _ _ h => h) (Or.inl ⟨by rfl, fun w hw => by dsimp only at hw; obtain ⟨h0, h1⟩ := hw; go_simp⟩) hHeld ?_
        simp only [List.setIfInBounds_toArray, List.set_cons_zero, List.set_cons_succ]
        refine e_take 5 39 (.pointer (some ⟨w.heap.size, 2, none⟩)) rfl rfl (by kernel_rfl) (by kernel_rfl) (by kernel_rfl) (by kernel_rfl) (fun _ _ _ h => h) (Or.inl ⟨by rfl, fun w hw => by dsimp only at hw; obtain ⟨h0, h1⟩ := hw; go_simp⟩) hHeld ?_
        simp only [List.setIfInBounds_toArray, List.set_cons_zero, List.set_cons_succ]
        refine e_take 6 40 (.slice (some b) l.knots.length d) rfl rfl (by kernel_rfl) (by kernel_rfl) (by kernel_rfl) (by kernel_rfl) (fun _ _ _ h => h) (Or.inl ⟨by rfl, fun w hw => by dsimp only at hw; obtain ⟨h0, h1⟩ := hw; go_simp⟩) hHeld ?_
        simp only [List.setIfInBounds_toArray, List.set_cons_zero, List.set_cons_succ]
        refine e_take 7 41 (.int .i64 k) rfl rfl (by kernel_rfl) (by kernel_rfl) (by kernel_rfl) (by kernel_rfl) (fun _ _ _ h => h) (Or.inl ⟨by rfl, fun w hw => by dsimp only at hw; obtain ⟨h0, h1⟩ := hw; go_simp⟩) hHeld ?_
        simp only [List.setIfInBounds_toArray, List.set_cons_zero, List.set_cons_succ]
        refine e_take 3 37 (.slice (some b) k d) rfl rfl (by kernel_rfl) (by kernel_rfl) (by kernel_rfl) (by kernel_rfl) (fun _ _ _ h => h) (Or.inl ⟨by rfl, fun w hw => by dsimp only at hw; obtain ⟨h0, h1⟩ := hw; go_simp; exact fun h => absurd h (by omega)⟩) hHeld ?_
        simp only [List.setIfInBounds_toArray, List.set_cons_zero, List.set_cons_succ]
        refine e_take 8 42 (.slice (some (b.add (k * 4))) (l.knots.length - k) (d - k)) rfl rfl (by kernel_rfl) (by kernel_rfl) (by kernel_rfl) (by kernel_rfl) (fun _ _ _ h => h) (Or.inl ⟨by rfl, fun w hw => by dsimp only at hw; obtain ⟨h0, h1⟩ := hw; go_simp; exact fun h => absurd h (by omega)⟩) hHeld ?_
        simp only [List.setIfInBounds_toArray, List.set_cons_zero, List.set_cons_succ]
        refine wpAnyE_ready (rs := [4]) (by kernel_rfl) (by simp) ?_
        refine AllReadyE.cons rfl (fun K hK => ?_) AllReadyE.nil
        rw [if_pos (by rfl)]
        refine wp_append_own _ (.const (.slice none 0 0)) (.tmp 37) 23 rfl V2.heap.size 61 i1 _ 4 32 hundK hi1 hz10 hz11 hz12 rfl (by decide) _ 0 [] rfl (World.ownsRow_nil _ _ _ _) b k d (cellsOf (l.knots.take k)) rfl (by rw [cellsOf_len]; simp; omega) (fun j u hu => cells_at (hraw.below (by exact hb2.drew)) j u (by rw [← List.take_append_drop k l.knots, cellsOf_append, List.getElem?_append_left (by obtain ⟨h', _⟩ := List.getElem?_eq_some_iff.1 hu; exact h')]; exact hu)) (cellsOf_one _) (by simp [maxLen]; omega) (by omega) (Nat.le_refl _) ?_
        intro v1 w4 hown1 hgr1 hnil1
        change K { tmps := Array.setIfInBounds _ 38 v1, defers := [] } w4
        have hb4 : Below V2.heap.size V2 w4 := ⟨hgr1.os, hgr1.tape, hgr1.output, hgr1.size, fun j hj => hgr1.block j hj (by show some j ≠ none; simp)⟩
        refine hK.out _ _ (fun _ => ⟨cell_below hb4 cx, cell_below hb4 c8⟩) (fun hHeld4 => ?_)
        have hHeld4 := hHeld4 (by decide)
        clear hK hnil1
        simp only [List.setIfInBounds_toArray, List.set_cons_zero, List.set_cons_succ]
        refine wpAnyE_ready (rs := [9]) (by kernel_rfl) (by simp) ?_
        refine AllReadyE.cons rfl (fun K hK => ?_) AllReadyE.nil
        rw [if_pos (by rfl)]
        refine wp_append_own _ (.tmp 38) (.tmp 42) 23 rfl V2.heap.size 61 i1 _ 4 32 hundK hi1 hz10 hz11 hz12 rfl (by decide) _ (0 + k) _ rfl hown1 (b.add (k * 4)) (l.knots.length - k) (d - k) (cellsOf (l.knots.drop k)) rfl (by rw [cellsOf_len]; simp) (fun j u hu => by
          rw [Addr.add_add]
          refine cells_at ((hraw.below hb2).below hb4) _ u ?_
          rw [← List.take_append_drop k l.knots, cellsOf_append, List.getElem?_append_right (by rw [cellsOf_len]; simp; omega), cellsOf_len, ← hu]
          congr 1
          simp
          omega) (cellsOf_one _) (by simp [maxLen]; omega) (by omega) hb4.size ?_
        intro v2 w5 hown2 hgr2 hnil2
        change K { tmps := Array.setIfInBounds _ 43 v2, defers := [] } w5
        have hb5 : Below V2.heap.size V2 w5 := hb4.trans ⟨hgr2.os, hgr2.tape, hgr2.output, hgr2.size, fun j hj => hgr2.block j (Nat.lt_of_lt_of_le hj hb4.size) (fun e => by have := hown1.lt j e.symm; omega)⟩
        have hlen' : (l.found k (s1, s2)).knots.length = l.knots.length := by unfold PL.found; simp
        obtain ⟨g, cap, cur, rfl, hg0, hgrow, hncap, hcapm, hcursz, htake⟩ : ∃ g cap cur, v2 = .slice (some ⟨g, 0, none⟩) (l.found k (s1, s2)).knots.length cap ∧ V2.heap.size ≤ g ∧ w5.heap[g]? = some (.cells cur 61 (0, 0)) ∧ l.knots.length ≤ cap ∧ cap ≤ maxLen ∧ cur.size = cap * 4 ∧ cur.toList.take (l.knots.length * 4) = cellsOf l.knots := by
          rcases hown2.2 with ⟨_, h0⟩ | ⟨g, cap, cur, e, h0, h1, h2, h3, h4, h5⟩
          · omega
          · refine ⟨g, cap, cur, by rw [e, hlen']; congr 1; omega, h0, h1, by omega, h3, h4, ?_⟩
            rw [show l.knots.length * 4 = (0 + k + (l.knots.length - k)) * 4 by omega, h5, List.nil_append, ← cellsOf_append, List.take_append_drop]
        refine hK.out _ _ (fun _ => ⟨cell_below hb5 cx, cell_below hb5 c8⟩) (fun hHeld5 => ?_)
        have hHeld5 := hHeld5 (by decide)
        clear hK hnil2 hHeld hHeld4 hown1 hgr1 hown2 hgr2
        simp only [List.setIfInBounds_toArray, List.set_cons_zero, List.set_cons_succ]
        refine e_take 10 44 (.pointer (some ⟨V1.heap.size, 2, none⟩)) rfl rfl (by kernel_rfl) (by kernel_rfl) (by kernel_rfl) (by kernel_rfl) (fun _ _ _ h => h) (Or.inl ⟨by rfl, fun w hw => by dsimp only at hw; obtain ⟨h0, h1⟩ := hw; go_simp⟩) hHeld5 ?_
        simp only [List.setIfInBounds_toArray, List.set_cons_zero, List.set_cons_succ]
        refine wpAnyE_ready (rs := [11]) (by kernel_rfl) (by simp) ?_
        refine AllReadyE.cons rfl (fun K hK => ?_) AllReadyE.nil
        have ry5 := row_below hb5 ry (by omega)
        have cy5 : w5.cell? ⟨V1.heap.size, 2, none⟩ = some (.slice (some b) l.knots.length d) := cell_row' (i := 2) ry5 rfl
        have fy5 : w5.frozen? ⟨V1.heap.size, 2, none⟩ = false := frozen_of_row _ _ 2 _ _ ry5
        go_simp
        refine hK.out _ _ (fun h => absurd rfl h) (fun _ => ?_)
        clear hK
        try simp only [Act.put, List.setIfInBounds_toArray, List.set_cons_zero, List.set_cons_succ]
        refine wpAnyE_done (by kernel_rfl) ?_ _
        obtain ⟨w6, hw6⟩ : ∃ w6, w6 = w5.setCell ⟨V1.heap.size, 2, none⟩ (.slice (some ⟨g, 0, none⟩) l.knots.length cap) := ⟨_, rfl⟩
        have ry6 : w6.heap[V1.heap.size]? = some (.cells #[.slice (some a) l.long.length c, .int .i64 l.size, .slice (some ⟨g, 0, none⟩) l.knots.length cap] 25 (0, 0)) := by rw [hw6]; exact blk_set ry5 2 _
        have hg6 : w6.heap[g]? = some (.cells cur 61 (0, 0)) := by rw [hw6]; exact (heap_put (by dsimp only; omega)).trans hgrow
        have hb6 : Below V1.heap.size V1 w6 := by rw [hw6]; exact (bb hb2 hb5).setCell (Nat.le_refl _) _
        rw [← hw6]
        have hkc := cellsOf_at l.knots k kn hkn
        have g0 : w6.cell? ⟨g, k * 4, none⟩ = some (.int .i64 kn.a.lo) := cell_row' hg6 (cur_at htake hkc.1)
        have g1 : w6.cell? ⟨g, k * 4 + 1, none⟩ = some (.int .i64 kn.a.hi) := cell_row' hg6 (cur_at htake hkc.2.1)
        have g2 : w6.cell? ⟨g, k * 4 + 2, none⟩ = some (.int .i64 kn.f.lo) := cell_row' hg6 (cur_at htake hkc.2.2.1)
        have g3 : w6.cell? ⟨g, k * 4 + 3, none⟩ = some (.int .i64 kn.f.hi) := cell_row' hg6 (cur_at htake hkc.2.2.2)
        have fg : ∀ j, w6.frozen? ⟨g, j, none⟩ = false := fun j => frozen_of_row _ _ j _ _ hg6
        have y2 : w6.cell? ⟨V1.heap.size, 2, none⟩ = some (.slice (some ⟨g, 0, none⟩) l.knots.length cap) := cell_row' (i := 2) ry6 rfl
        have c86 : w6.cell? ⟨W.heap.size, 0, none⟩ = some (.int .i64 k) := cell_row' (row_below hb6 r8 (by omega)) rfl
        have t0 : w6.cell? ⟨V.heap.size, 0, none⟩ = some (.int .i64 s1) := cell_row' (i := 0) (row_below hb6 k7 (by omega)) rfl
        have t1 : w6.cell? ⟨V.heap.size, 1, none⟩ = some (.int .i64 s2) := cell_row' (i := 1) (row_below hb6 k7 (by omega)) rfl
        clear hw6 hkc hHeld5 cx cy c8 hgrow ry5 cy5 fy5 hb5 hb4 hraw hends hsame hfar hst1 hs01 hbk0 hbk1 hbk2 hbk3 hi1 hz10 hz11 hz12 hundK
        show Code.wpIn _ _ _ _ _ _ _
        apply seq_of (R := fun a' W' => a' = _ ∧ W' = _)
        · gi_wp2
          exact ⟨rfl, rfl⟩
        rintro _ _ ⟨rfl, rfl⟩
        obtain ⟨w7, hw7⟩ : ∃ w7, w7 = (((w6.setCell ⟨g, k * 4, none⟩ (.int .i64 s1)).setCell ⟨g, k * 4 + 1, none⟩ (.int .i64 s1)).setCell ⟨g, k * 4 + 2, none⟩ (.int .i64 s2)).setCell ⟨g, k * 4 + 3, none⟩ (.int .i64 s2) := ⟨_, rfl⟩
        have hg7 : w7.heap[g]? = some (.cells ((((cur.setIfInBounds (k * 4) (.int .i64 s1)).setIfInBounds (k * 4 + 1) (.int .i64 s1)).setIfInBounds (k * 4 + 2) (.int .i64 s2)).setIfInBounds (k * 4 + 3) (.int .i64 s2)) 61 (0, 0)) := by
          rw [hw7]; exact blk_set (blk_set (blk_set (blk_set hg6 _ _) _ _) _ _) _ _
        have hb7 : Below V1.heap.size V1 w7 := by
          rw [hw7]
          exact (((hb6.setCell (p := ⟨g, k * 4, none⟩) (by dsimp only; omega) _).setCell (p := ⟨g, k * 4 + 1, none⟩) (by dsimp only; omega) _).setCell (p := ⟨g, k * 4 + 2, none⟩) (by dsimp only; omega) _).setCell (p := ⟨g, k * 4 + 3, none⟩) (by dsimp only; omega) _
        have ry7 : w7.heap[V1.heap.size]? = some (.cells #[.slice (some a) l.long.length c, .int .i64 l.size, .slice (some ⟨g, 0, none⟩) l.knots.length cap] 25 (0, 0)) := by
          rw [hw7, heap_put (by dsimp only; omega), heap_put (by dsimp only; omega), heap_put (by dsimp only; omega), heap_put (by dsimp only; omega)]
          exact ry6
        rw [← hw7]
        have hraw7 : RawAt w7 (l.found k (s1, s2)) (some a) (some ⟨g, 0, none⟩) c cap := by
          have h7 := HRAW1.out.below hb7
          refine ⟨h7.long, fun j x hx' => ⟨_, rfl, ?_⟩, h7.c, by rw [hlen']; exact hncap, h7.n, by rw [hlen']; exact h7.m⟩
          obtain ⟨e0, e1, e2, e3⟩ := set4_at htake k j s1 s2 x (by rw [hcursz]; omega) hx'
          simp only [Addr.add_lit, Nat.zero_add]
          exact ⟨cell_row' hg7 e0, cell_row' hg7 e1, cell_row' hg7 e2, cell_row' hg7 e3⟩
        have ok' := found_ok HOK.out hkn hx
        obtain ⟨a', ea, hlog7⟩ := hraw7.at ok'
        cases ea
        have hends7 := HENDS1.out.below hb7
        have y0 : w7.cell? ⟨V1.heap.size, 0, none⟩ = some (.slice (some a) l.long.length c) := cell_row' (i := 0) ry7 rfl
        have y1 : w7.cell? ⟨V1.heap.size, 1, none⟩ = some (.int .i64 l.size) := cell_row' (i := 1) ry7 rfl
        have y2 : w7.cell? ⟨V1.heap.size, 2, none⟩ = some (.slice (some ⟨g, 0, none⟩) l.knots.length cap) := cell_row' (i := 2) ry7 rfl
        clear g0 g1 g2 g3 fg c86 t0 t1 hg6 hw7 hg7 ry6 hraw7 htake
        apply seq_of2 (Wf := fun m2 w8 => w8.alloc (.cells #[.slice (some a) l.long.length c, .int .i64 l.size, .slice (some ⟨g, 0, none⟩) l.knots.length cap, .map (some m2)] 75)) (Fct := fun m2 w8 => Below w7.heap.size w7 w8 ∧ w8.heap[m2]? = some (.map #[] 0) ∧ w7.heap.size ≤ m2)
        · gi_wp2
          refine ⟨trivial, rfl, ?_⟩
          refine (CallsIn.inRound _ (callsIn_wide.2 (opened_any _ _ _ _ _ _ _ _))).mono ?_
          rintro e w8 ⟨m2, rfl, hb8, hm8, hms⟩
          gi_wp2
          exact ⟨m2, w8, rfl, rfl, hb8, hm8, hms⟩
        rintro m2 w8 ⟨hb8, hm8, hms⟩
        obtain ⟨w9, hw9⟩ : ∃ w9, w9 = w8.alloc (.cells #[.slice (some a) l.long.length c, .int .i64 l.size, .slice (some ⟨g, 0, none⟩) l.knots.length cap, .map (some m2)] 75) := ⟨_, rfl⟩
        have hb89 : Below w8.heap.size w8 w9 := by rw [hw9]; exact (Below.refl _ w8).alloc (Nat.le_refl _) _
        have r12 : w9.heap[w8.heap.size]? = some (.cells #[.slice (some a) l.long.length c, .int .i64 l.size, .slice (some ⟨g, 0, none⟩) l.knots.length cap, .map (some m2)] 75 (0, 0)) := by rw [hw9]; (repeat (first | with_reducible assumption | with_reducible exact row_new | with_reducible refine row_drew ?_ | with_reducible apply row_same | with_reducible refine row_diff ?_ (by first | omega | (simp only [World.size_alloc, size_setRow, size_drew', World.size_setCell]; omega)) | with_reducible refine row_far ?_ (by (try dsimp only); first | omega | (simp only [World.size_alloc, size_setRow, size_drew', World.size_setCell]; omega)) | with_reducible refine row_new' (by first | (simp only [World.size_alloc, size_setRow, size_drew', World.size_setCell]; done) | omega | (simp only [World.size_alloc, size_setRow, size_drew', World.size_setCell]; omega)) | with_reducible refine row_old ?_ | with_reducible refine row_below (by assumption) ?_ (by first | omega | (simp only [World.size_alloc, size_setRow, size_drew', World.size_setCell]; omega))))
        have hm9 : w9.heap[m2]? = some (.map #[] 0) := row_below hb89 hm8 (Array.getElem?_eq_some_iff.1 hm8).1
        rw [← hw9]
        have hb79 := bb hb8 hb89
        have hb19 := bb hb7 hb79
        have hlog9 := hlog7.below hb79
        have hends9 := hends7.below hb79
        have hm9' : MarksAt (l.found k (s1, s2)) m2 w9 := marks_new hm9
        have z9 := hb19.size
        have zm : V1.heap.size ≤ m2 := Nat.le_trans hb7.size hms
        have q0 : w9.cell? ⟨w8.heap.size, 0, none⟩ = some (.slice (some a) l.long.length c) := cell_row' (i := 0) r12 rfl
        have q1 : w9.cell? ⟨w8.heap.size, 1, none⟩ = some (.int .i64 l.size) := cell_row' (i := 1) r12 rfl
        have q2 : w9.cell? ⟨w8.heap.size, 2, none⟩ = some (.slice (some ⟨g, 0, none⟩) l.knots.length cap) := cell_row' (i := 2) r12 rfl
        have q3 : w9.cell? ⟨w8.heap.size, 3, none⟩ = some (.map (some m2)) := cell_row' (i := 3) r12 rfl
        have lt9 : w2.heap.size < V1.heap.size := (Array.getElem?_eq_some_iff.1 r9).1
        have c9 : w9.cell? ⟨w2.heap.size, 0, none⟩ = some (.int .i64 (l.worstOf k (kn.spots.take i))) := cell_row' (row_below hb19 r9 lt9) rfl
        have HR9 := Lib.hid r9
        clear hw9 hb8 hb89 hb79 r12 hm8 hm9 hlog7 hends7 y0 y1 y2 ry r8 r9 rx hb7 hb6 hb2
        obtain ⟨wi, hwi⟩ : ∃ wi, wi = l.worstOf k (kn.spots.take i) := ⟨_, rfl⟩
        rw [← hwi] at c9
        have HWI := Lib.hid hwi
        clear hwi
        refine region_e_in 7 (fun w' => w'.cell? ⟨w8.heap.size, 0, none⟩ = some (.slice (some a) l.long.length c) ∧ w'.cell? ⟨w8.heap.size, 1, none⟩ = some (.int .i64 l.size) ∧ w'.cell? ⟨w8.heap.size, 2, none⟩ = some (.slice (some ⟨g, 0, none⟩) l.knots.length cap) ∧ w'.cell? ⟨w8.heap.size, 3, none⟩ = some (.map (some m2)) ∧ w'.cell? ⟨w2.heap.size, 0, none⟩ = some (.int .i64 wi)) (by kernel_rfl) (by kernel_rfl) (by rintro ⟨a, w, h⟩; exact h) ⟨q0, q1, q2, q3, c9⟩ (fun hHeld => ?_)
        refine e_take 0 62 (.int .i64 wi) rfl rfl (by kernel_rfl) (by kernel_rfl) (by kernel_rfl) (by kernel_rfl) (fun _ _ _ h => h) (Or.inl ⟨by rfl, fun w hw => by dsimp only at hw; obtain ⟨h0, h1, h2, h3, h4⟩ := hw; go_simp⟩) hHeld ?_
        simp only [List.setIfInBounds_toArray, List.set_cons_zero, List.set_cons_succ]
        refine e_take 1 63 (.agg #[.slice (some a) l.long.length c, .int .i64 l.size, .slice (some ⟨g, 0, none⟩) l.knots.length cap, .map (some m2)]) rfl rfl (by kernel_rfl) (by kernel_rfl) (by kernel_rfl) (by kernel_rfl) (fun _ _ _ h => h) (Or.inl ⟨by rfl, fun w hw => by dsimp only at hw; obtain ⟨h0, h1, h2, h3, h4⟩ := hw; go_simp⟩) hHeld ?_
        simp only [List.setIfInBounds_toArray, List.set_cons_zero, List.set_cons_succ]
        refine e_take 2 64 (.agg #[.slice (some a) l.long.length c, .int .i64 l.size, .slice (some ⟨g, 0, none⟩) l.knots.length cap, .map (some m2)]) rfl rfl (by kernel_rfl) (by kernel_rfl) (by kernel_rfl) (by kernel_rfl) (fun _ _ _ h => h) (Or.inl ⟨by rfl, fun w hw => by dsimp only at hw; obtain ⟨h0, h1, h2, h3, h4⟩ := hw; go_simp⟩) hHeld ?_
        simp only [List.setIfInBounds_toArray, List.set_cons_zero, List.set_cons_succ]
        refine wpAnyE_ready (rs := [3]) (by kernel_rfl) (by simp) ?_
        refine AllReadyE.cons rfl (fun K hK => ?_) AllReadyE.nil
        go_simp
        have hp := possible_any (hlog9.below (by exact (Below.refl _ w9).drew)) (hends9.below (by exact (Below.refl _ w9).drew)) (hm9'.below (by exact (Below.refl _ w9).drew))
        rw [hlen'] at hp
        refine hp.mono ?_
        clear hp
        rintro e w10 ⟨rfl, htu, hmk2⟩
        dsimp only
        have hkept := cellsKept_turned (hm9'.below (by exact (Below.refl _ w9).drew)) htu
        have hb110 : Below V1.heap.size V1 w10 := (turned_new (hb19.drew) htu zm)
        refine hK.out _ _ (fun _ => ⟨hkept _ _ hHeld.1, hkept _ _ hHeld.2.1, hkept _ _ hHeld.2.2.1, hkept _ _ hHeld.2.2.2.1, hkept _ _ hHeld.2.2.2.2⟩) (fun hHeld2 => ?_)
        have hHeld2 := hHeld2 (by decide)
        clear hK
        try simp only [Act.put, List.setIfInBounds_toArray, List.set_cons_zero, List.set_cons_succ]
        refine wpAnyE_ready (rs := [4]) (by kernel_rfl) (by simp) ?_
        refine AllReadyE.cons rfl (fun K hK => ?_) AllReadyE.nil
        go_simp
        have hp := cut_any m2 ((hlog9.below (by exact (Below.refl _ w9).drew)).kept hkept) (l.found k (s1, s2)).possible
        rw [hlen'] at hp
        refine hp.mono ?_
        clear hp
        rintro e w11 ⟨ao, cv, rfl, hbc, hcut, hnil⟩
        dsimp only
        have hb111 : Below V1.heap.size V1 w11 := bb hb110 hbc
        refine hK.out _ _ (fun _ => ⟨cell_below hbc hHeld2.1, cell_below hbc hHeld2.2.1, cell_below hbc hHeld2.2.2.1, cell_below hbc hHeld2.2.2.2.1, cell_below hbc hHeld2.2.2.2.2⟩) (fun hHeld3 => ?_)
        have hHeld3 := hHeld3 (by decide)
        clear hK
        try simp only [Act.put, List.setIfInBounds_toArray, List.set_cons_zero, List.set_cons_succ]
        refine e_take 5 67 (.int .i64 (l.found k (s1, s2)).pieces) rfl rfl (by kernel_rfl) (by kernel_rfl) (by kernel_rfl) (by kernel_rfl) (fun _ _ _ h => h) (Or.inl ⟨by rfl, fun w hw => by go_simp; rfl⟩) hHeld3 ?_
        simp only [List.setIfInBounds_toArray, List.set_cons_zero, List.set_cons_succ]
        refine e_take 6 68 (.int .i64 (min wi (l.found k (s1, s2)).pieces)) rfl rfl (by kernel_rfl) (by kernel_rfl) (by kernel_rfl) (by kernel_rfl) (fun _ _ _ h => h) (Or.inl ⟨by rfl, fun w hw => by go_simp; split <;> omega⟩) hHeld3 ?_
        simp only [List.setIfInBounds_toArray, List.set_cons_zero, List.set_cons_succ]
        refine wpAnyE_ready (rs := [7]) (by kernel_rfl) (by simp) ?_
        refine AllReadyE.cons rfl (fun K hK => ?_) AllReadyE.nil
        have r11 := row_below hb111 HR9.out lt9
        have c11 := hHeld3.2.2.2.2
        have f11 : w11.frozen? ⟨w2.heap.size, 0, none⟩ = false := frozen_of_row _ _ 0 _ _ r11
        go_simp
        refine hK.out _ _ (fun h => absurd rfl h) (fun _ => ?_)
        clear hK
        try simp only [Act.put, List.setIfInBounds_toArray, List.set_cons_zero, List.set_cons_succ]
        refine wpAnyE_done (by kernel_rfl) ?_ _
        rw [HWI.out]
        exact HFIN.out w11 hb111
    · have hke : k = l.knots.length := by omega
      have bd := askF_bd l k
      subst hke
      by_cases h0 : l.knots.length = 0
      · have hneg : (l.askF l.knots.length).1 < 0 := by rw [h0]; simp [PL.askF]
        have HO := Lib.hid (show askS l = (0, 4) by unfold askS; rw [if_pos HOK.out, if_pos h0])
        go_wp2_with fail
        refine leaves_marks (B := W0.heap.size) (v := .tuple #[.int .i64 0, .int .i64 4]) (fun w => by simp [results, Tryd.results37, go_sem]) rs W HMK.out (fun W' hW' => ⟨by rw [HO.out], HB0.out.trans ((HBW.out.trans hW').mono HB0.out.size)⟩)
      · have hneg : ¬ (l.askF l.knots.length).1 < 0 := by have := bd.2.2 (by omega); omega
        have HO := Lib.hid (show askS l = ((l.askF l.knots.length).1, 0) by unfold askS; rw [if_pos HOK.out, if_neg h0])
        go_wp2_with fail
        refine leaves_marks (B := W0.heap.size) (v := .tuple #[.int .i64 (l.askF l.knots.length).1, .int .i64 0]) (fun w => by simp [results, Tryd.results37, go_sem]) rs W HMK.out (fun W' hW' => ⟨by rw [HO.out], HB0.out.trans ((HBW.out.trans hW').mono HB0.out.size)⟩)
  · have hB := (Below.refl _ w).alloc (Nat.le_refl _) (.cells #[.slice A l.long.length c, .int .i64 l.size, .slice B l.knots.length d] 25)
    have H := Lib.hid (h.below hB)
    have HO := Lib.hid (show askS l = (0, 10) from if_neg ok)
    clear h he
    rw [HO.out]
    go_enter Tryd.func37, Tryd.ntmps37
    go_wp2_with fail
    refine (asked_bad H.out _ _ ok).mono ?_
    rintro e w1 ⟨rfl, hb1⟩
    have HB := Lib.hid (bb hB hb1)
    clear hb1
    unfold zeroLog
    go_wp2_with fail
    go_ret2
    exact ⟨rfl, (HB.out.alloc HB.out.size _)⟩
end Go.Proofs.YtigofgdmefobaaaDoor.Peel
