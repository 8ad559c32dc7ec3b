/- Walks of package peel: a log is checked. -/
import Derived.Test.YtigofgdmefobaaaDoorPeelD
import Derived.BigGuardPart
import Derived.Deep.DeepCutAuto
import Derived.Deep.CutBlock
set_option linter.unusedVariables false
set_option linter.unusedSimpArgs false
namespace Go.Proofs.YtigofgdmefobaaaDoor.Peel
open Go.RowKit

theorem in_yes (n a b : Int) (w : World) (h : a ≤ n ∧ n ≤ b) :
    Calls Tryd.prog 59 #[.int .i64 n, .int .i64 a, .int .i64 b] w fun e w' => e = .returned (.bool true) ∧ w = w' := by
  refine (in_any n a b w).mono ?_
  rintro e w' ⟨rfl, rfl⟩
  exact ⟨by simp [h], rfl⟩
theorem in_no (n a b : Int) (w : World) (h : ¬ (a ≤ n ∧ n ≤ b)) :
    Calls Tryd.prog 59 #[.int .i64 n, .int .i64 a, .int .i64 b] w fun e w' => e = .returned (.bool false) ∧ w = w' := by
  refine (in_any n a b w).mono ?_
  rintro e w' ⟨rfl, rfl⟩
  exact ⟨by simp [h], rfl⟩
theorem spans_yes (s : Sp) (n m : Int) (w : World) (h : s.Ok 0 n m) (hn : n ≤ 4611686018427387904) :
    Calls Tryd.prog 60 #[.agg #[.int .i64 s.lo, .int .i64 s.hi], .int .i64 0, .int .i64 n, .int .i64 m] w fun e w' => e = .returned (.bool true) ∧ Below w.heap.size w w' := by
  obtain ⟨h1, h2, h3, h4⟩ := h
  go_enter Tryd.func60, Tryd.ntmps60
  go_wp2_with fail
  refine (in_yes _ _ _ _ ⟨h1, h2⟩).mono ?_
  rintro e w' ⟨rfl, rfl⟩
  go_wp2_with fail
  go_ret
  exact ⟨rfl, (Below.refl _ _).alloc (Nat.le_refl _) _⟩
theorem spans_no (s : Sp) (n m : Int) (w : World) (h : ¬ s.Ok 0 n m) (hn : n ≤ 4611686018427387904) :
    Calls Tryd.prog 60 #[.agg #[.int .i64 s.lo, .int .i64 s.hi], .int .i64 0, .int .i64 n, .int .i64 m] w fun e w' => e = .returned (.bool false) ∧ Below w.heap.size w w' := by
  by_cases h12 : 0 ≤ s.lo ∧ s.lo ≤ s.hi
  · by_cases h3 : s.hi ≤ n
    · by_cases h4 : s.hi - s.lo ≤ m
      · exact absurd ⟨h12.1, h12.2, h3, h4⟩ h
      · go_enter Tryd.func60, Tryd.ntmps60
        go_wp2_with fail
        refine (in_yes _ _ _ _ h12).mono ?_
        rintro e w' ⟨rfl, rfl⟩
        obtain ⟨h1, h2⟩ := h12
        go_wp2_with fail
        go_ret
        exact ⟨by simp [h4], (Below.refl _ _).alloc (Nat.le_refl _) _⟩
    · go_enter Tryd.func60, Tryd.ntmps60
      go_wp2_with fail
      refine (in_yes _ _ _ _ h12).mono ?_
      rintro e w' ⟨rfl, rfl⟩
      go_wp2_with fail
      go_ret
      exact ⟨rfl, (Below.refl _ _).alloc (Nat.le_refl _) _⟩
  · go_enter Tryd.func60, Tryd.ntmps60
    go_wp2_with fail
    refine (in_no _ _ _ _ h12).mono ?_
    rintro e w' ⟨rfl, rfl⟩
    go_wp2_with fail
    go_ret
    exact ⟨rfl, (Below.refl _ _).alloc (Nat.le_refl _) _⟩

theorem add_succ (a : Addr) (j : Nat) : a.add (j + 1) = ⟨a.block, a.off + (j + 1), none⟩ := by simp [Addr.add]
theorem add_zero (a : Addr) : a.add 0 = a := by simp [Addr.add]
theorem bcell {B : Nat} {W w1 : World} (hb : Below B W w1) : (∀ b o, b < B → w1.cell? ⟨b, o, none⟩ = W.cell? ⟨b, o, none⟩) ∧ (∀ b o, b < B → w1.frozen? ⟨b, o, none⟩ = W.frozen? ⟨b, o, none⟩) :=
  ⟨fun b o h => hb.cell (p := ⟨b, o, none⟩) h, fun b o h => hb.frozen (p := ⟨b, o, none⟩) h⟩
theorem heap_box {w wr : World} {o : Obj} (h : Below (w.heap.size + 1) (w.alloc o) wr) : wr.heap[w.heap.size]? = some o := (h.block _ (by omega)).trans (heap_alloc_new w o)
theorem box_cell {w wr : World} {cs : Array Value} {t : TypeId} {fr : Nat × Nat} (h : Below (w.heap.size + 1) (w.alloc (.cells cs t fr)) wr) (i : Nat) : wr.cell? ⟨w.heap.size, i, none⟩ = cs[i]? := cell_of_row wr _ i cs t fr (heap_box h)
/-- A log lies in memory, valid or not. -/
structure RawAt (w : World) (l : PL) (A B : Option Addr) (c d : Nat) : Prop where
  long : ∀ k, k < l.long.length → ∃ a, A = some a ∧ w.cell? (a.add k) = some (.int .i64 (l.long.getD k 0))
  knots : ∀ k x, l.knots[k]? = some x → ∃ b, B = some b ∧ w.cell? (b.add (k * 4)) = some (.int .i64 x.a.lo) ∧ w.cell? ⟨(b.add (k * 4)).block, (b.add (k * 4)).off + 1, none⟩ = some (.int .i64 x.a.hi) ∧ w.cell? ⟨(b.add (k * 4)).block, (b.add (k * 4)).off + 2, none⟩ = some (.int .i64 x.f.lo) ∧ w.cell? ⟨(b.add (k * 4)).block, (b.add (k * 4)).off + 3, none⟩ = some (.int .i64 x.f.hi)
  c : l.long.length ≤ c
  d : l.knots.length ≤ d
  n : l.long.length ≤ 4611686018427387904
  m : l.knots.length ≤ 4611686018427387904
theorem RawAt.below {w w1 : World} {l : PL} {A B : Option Addr} {c d : Nat} (h : RawAt w l A B c d) (hb : Below w.heap.size w w1) : RawAt w1 l A B c d where
  long := fun k hk => by
    obtain ⟨a, e, h0⟩ := h.long k hk
    exact ⟨a, e, cell_below hb h0⟩
  knots := fun k x hx => by
    obtain ⟨b, e, h0, h1, h2, h3⟩ := h.knots k x hx
    exact ⟨b, e, cell_below hb h0, cell_below hb h1, cell_below hb h2, cell_below hb h3⟩
  c := h.c
  d := h.d
  n := h.n
  m := h.m
theorem RawAt.at {w : World} {l : PL} {A B : Option Addr} {c d : Nat} (h : RawAt w l A B c d) (ok : l.Ok) : ∃ a, A = some a ∧ LogAt w l a B c d := by
  obtain ⟨a, rfl, _⟩ := h.long 0 ok.turns1
  refine ⟨a, rfl, ok, fun k hk => ?_, h.knots, h.c, h.d⟩
  obtain ⟨a', e, h0⟩ := h.long k hk
  injection e with e
  rw [e]; exact h0
theorem LogAt.raw {w : World} {l : PL} {a : Addr} {B : Option Addr} {c d : Nat} (h : LogAt w l a B c d) : RawAt w l (some a) B c d where
  long := fun k hk => ⟨a, rfl, h.long k hk⟩
  knots := h.knots
  c := h.c
  d := h.d
  n := by have := h.ok.turns; omega
  m := by have := h.ok.knots3; omega

/-- What a number of a turn must be. -/
def LongOk (xs : List Int) (k : Nat) : Prop := (1 ≤ xs.getD k 0 ∧ xs.getD k 0 ≤ 12) ∧ (k = 0 ∨ xs.getD k 0 ≤ xs.getD (k - 1) 0)
def HeadOk (l : PL) : Prop := (1 ≤ (l.long.length : Int) ∧ (l.long.length : Int) ≤ 6) ∧ (1 ≤ l.size ∧ l.size ≤ 6) ∧ l.knots.length ≤ 3
def KnotOk (l : PL) (k : Nat) : Prop := ∀ x, l.knots[k]? = some x → x.Ok l.long.length
theorem ok_iff (l : PL) : l.Ok ↔ HeadOk l ∧ (∀ k, k < l.long.length → LongOk l.long k) ∧ ∀ k, k < l.knots.length → KnotOk l k := by
  constructor
  · intro h
    refine ⟨⟨⟨by have := h.turns1; omega, by have := h.turns; omega⟩, ⟨h.size1, h.size6⟩, h.knots3⟩, fun k hk => ⟨h.long k hk, ?_⟩, fun k hk x hx => h.knots x (List.mem_of_getElem? hx)⟩
    rcases Nat.eq_zero_or_pos k with h0 | h0
    · exact .inl h0
    · exact .inr (h.down k h0 hk)
  · rintro ⟨⟨⟨h1, h2⟩, ⟨h3, h4⟩, h5⟩, h6, h7⟩
    refine ⟨by omega, by omega, h3, h4, h5, fun k hk => (h6 k hk).1, fun k h0 hk => ?_, fun x hx => ?_⟩
    · rcases (h6 k hk).2 with h | h
      · omega
      · exact h
    · obtain ⟨k, hk, rfl⟩ := List.mem_iff_getElem.1 hx
      exact h7 k hk _ (List.getElem?_eq_getElem hk)
/-- What Check answers. -/
def CheckPost (l : PL) (w : World) (e : Ending) (w' : World) : Prop := (l.Ok ∧ e = .returned (.int .i64 0) ∨ ¬ l.Ok ∧ e = .returned (.int .i64 10)) ∧ Below w.heap.size w w'
def Upto (b0 : Prop) (P : Nat → Prop) (k : Nat) (b : Bool) : Prop := b = true ↔ b0 ∧ ∀ j, j < k → P j
theorem Upto.zero {b0 : Prop} {P : Nat → Prop} {b : Bool} (h : b = true ↔ b0) : Upto b0 P 0 b := by
  unfold Upto; rw [h]; simp
theorem Upto.yes {b0 : Prop} {P : Nat → Prop} {k : Nat} {b : Bool} (h : Upto b0 P k b) (hp : P k) : Upto b0 P (k + 1) b := by
  unfold Upto at *
  rw [h]
  constructor
  · rintro ⟨h0, h1⟩
    exact ⟨h0, fun j hj => by rcases Nat.lt_or_ge j k with h | h; exact h1 j h; (have : j = k := by omega); subst this; exact hp⟩
  · rintro ⟨h0, h1⟩
    exact ⟨h0, fun j hj => h1 j (by omega)⟩
theorem Upto.no {b0 : Prop} {P : Nat → Prop} {k : Nat} (hp : ¬ P k) : Upto b0 P (k + 1) false := by
  unfold Upto
  constructor
  · intro h; cases h
  · rintro ⟨_, h⟩
    exact absurd (h k (by omega)) hp
theorem Upto.keep {b0 : Prop} {P : Nat → Prop} {k : Nat} (h : Upto b0 P k false) : Upto b0 P (k + 1) false := by
  unfold Upto at *
  constructor
  · intro h; cases h
  · rintro ⟨h0, h1⟩
    exact h.2 ⟨h0, fun j hj => h1 j (by omega)⟩
end Go.Proofs.YtigofgdmefobaaaDoor.Peel
