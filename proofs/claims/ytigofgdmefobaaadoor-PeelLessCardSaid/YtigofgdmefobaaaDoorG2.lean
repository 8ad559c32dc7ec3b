/- Package peel: ends, spots, marks, cuttings. -/
import Derived.Test.YtigofgdmefobaaaDoorG1
import Derived.Deep.LoopGhost
import Derived.LoopIn
import Derived.Shelf.RegionOpen
import Derived.Sort.CutIn
import Derived.OwnWalkIn
import Derived.Laws.EntriesVeiled
import Derived.Laws.AppendOwn
import Derived.Scope
/- What lies in a block behind allocs, stores and draws: one tactic. -/
set_option linter.unusedVariables false
namespace Go.Proofs.YtigofgdmefobaaaDoor.Peel
open Go.RowKit
theorem row_new {w : World} {o : Obj} : (w.alloc o).heap[w.heap.size]? = some o := heap_alloc_new w o
theorem row_old {w : World} {o o' : Obj} {g : Nat} (h : w.heap[g]? = some o) : (w.alloc o').heap[g]? = some o := ((Below.refl _ w).alloc (Nat.le_refl _) o').block g (Array.getElem?_eq_some_iff.1 h).1 |>.trans h
theorem row_drew {w : World} {o : Obj} {g : Nat} (h : w.heap[g]? = some o) : w.drew.heap[g]? = some o := h
theorem row_same {w : World} {g : Nat} {old cs : Array Value} {t : TypeId} (h : w.heap[g]? = some (.cells old t (0, 0))) : (w.setRow g cs).heap[g]? = some (.cells cs t (0, 0)) := setRow_heap w g old cs t (0, 0) h
theorem row_diff {w : World} {g i : Nat} {cs : Array Value} {o : Obj} (h : w.heap[i]? = some o) (hne : i ≠ g) : (w.setRow g cs).heap[i]? = some o := (setRow_other w g i cs hne).trans h
theorem row_far {w : World} {p : Addr} {i : Nat} {v : Value} {o : Obj} (h : w.heap[i]? = some o) (hne : i ≠ p.block) : (w.setCell p v).heap[i]? = some o := (Below.heap_setCell w p v i hne).trans h
theorem row_below {w w1 : World} {B g : Nat} {o : Obj} (hb : Below B w w1) (h : w.heap[g]? = some o) (hg : g < B) : w1.heap[g]? = some o := (hb.block g hg).trans h
theorem row_new' {w : World} {o : Obj} {g : Nat} (h : g = w.heap.size) : (w.alloc o).heap[g]? = some o := by subst h; exact row_new
@[simp] theorem size_drew' (w : World) : w.drew.heap.size = w.heap.size := rfl
theorem cset_same {w : World} {b o : Nat} {v : Value} (h : (w.cell? ⟨b, o, none⟩).isSome = true) : (w.setCell ⟨b, o, none⟩ v).cell? ⟨b, o, none⟩ = some v := by
  obtain ⟨v0, h⟩ := Option.isSome_iff_exists.1 h
  simp only [World.cell?] at *
  revert h
  cases hb : w.heap[b]? with
  | none => simp
  | some ob =>
    cases ob <;> simp
    rename_i cs t fr
    intro h
    have hlt : o < cs.size := (Array.getElem?_eq_some_iff.1 h).1
    simp [World.setCell, Array.getElem?_modify, hb, hlt]
theorem cset_blk {w : World} {p : Addr} {b o : Nat} {v u : Value} (h : w.cell? ⟨b, o, none⟩ = some v) (hne : b ≠ p.block) : (w.setCell p u).cell? ⟨b, o, none⟩ = some v := by
  have := Below.heap_setCell w p u b hne
  simp only [World.cell?, this] at *
  exact h
theorem cset_off {w : World} {b o o' : Nat} {v u : Value} (h : w.cell? ⟨b, o, none⟩ = some v) (hne : o ≠ o') : (w.setCell ⟨b, o', none⟩ u).cell? ⟨b, o, none⟩ = some v := by
  simp only [World.cell?] at *
  revert h
  cases hb : w.heap[b]? with
  | none => simp
  | some ob =>
    cases ob <;> simp
    rename_i cs t fr
    intro h
    simp [World.setCell, Array.getElem?_modify, hb, Ne.symm hne, h]
theorem cell_old {w : World} {p : Addr} {v : Value} {o : Obj} (h : w.cell? p = some v) : (w.alloc o).cell? p = some v := (((Below.refl _ w).alloc (Nat.le_refl _) o).cell (World.block_lt_of_cell? w p h)).trans h
theorem cell_drew' {w : World} {p : Addr} {v : Value} (h : w.cell? p = some v) : w.drew.cell? p = some v := h
theorem cell_row' {w : World} {g i : Nat} {cs : Array Value} {t : TypeId} {v : Value} (h : w.heap[g]? = some (.cells cs t (0, 0))) (hv : cs[i]? = some v) : w.cell? ⟨g, i, none⟩ = some v := (cell_of_row w g i cs t (0, 0) h).trans hv
theorem cell_belowB {w w1 : World} {B b o : Nat} {v : Value} (hb : Below B w w1) (h : w.cell? ⟨b, o, none⟩ = some v) (hlt : b < B) : w1.cell? ⟨b, o, none⟩ = some v := (hb.cell (p := ⟨b, o, none⟩) hlt).trans h
theorem some_drew {w : World} {p : Addr} (h : (w.cell? p).isSome = true) : (w.drew.cell? p).isSome = true := h
theorem some_old {w : World} {p : Addr} {o : Obj} (h : (w.cell? p).isSome = true) : ((w.alloc o).cell? p).isSome = true := by
  obtain ⟨v0, h⟩ := Option.isSome_iff_exists.1 h
  rw [cell_old h]; rfl
theorem some_set {w : World} {b o : Nat} {p : Addr} {u : Value} (h : (w.cell? ⟨b, o, none⟩).isSome = true) (hp : p.spot = none) : ((w.setCell p u).cell? ⟨b, o, none⟩).isSome = true := by
  obtain ⟨v0, h'⟩ := Option.isSome_iff_exists.1 h
  obtain ⟨pb, po, pp⟩ := p
  obtain rfl : pp = none := hp
  by_cases hb : b = pb
  · subst hb
    by_cases ho : o = po
    · subst ho; rw [cset_same h]; rfl
    · rw [cset_off h' ho]; rfl
  · rw [cset_blk h' hb]; rfl
theorem some_below {w w1 : World} {B b o : Nat} (hb : Below B w w1) (h : (w.cell? ⟨b, o, none⟩).isSome = true) (hlt : b < B) : (w1.cell? ⟨b, o, none⟩).isSome = true := by
  rw [hb.cell (p := ⟨b, o, none⟩) hlt]; exact h
theorem some_new {w : World} {b o : Nat} {cs : Array Value} {t : TypeId} (hb : b = w.heap.size) (ho : o < cs.size) : ((w.alloc (.cells cs t)).cell? ⟨b, o, none⟩).isSome = true := by
  subst hb
  rw [cell_row' row_new (Array.getElem?_eq_getElem ho)]; rfl
theorem some_of {w : World} {p : Addr} {v : Value} (h : w.cell? p = some v) : (w.cell? p).isSome = true := by rw [h]; rfl
theorem cell_new' {w : World} {b o : Nat} {cs : Array Value} {t : TypeId} {v : Value} (hb : b = w.heap.size) (hv : cs[o]? = some v) : (w.alloc (.cells cs t)).cell? ⟨b, o, none⟩ = some v := by
  subst hb
  exact cell_row' row_new hv
/-- Where a row lies now. -/
theorem rowt_ {P : Prop} (h : P := by (repeat (first | with_reducible assumption | with_reducible exact row_new | with_reducible refine row_drew ?_ | with_reducible apply row_same | with_reducible refine row_diff ?_ (by first | omega | (simp only [World.size_alloc, size_setRow, size_drew', World.size_setCell]; omega)) | with_reducible refine row_far ?_ (by (try dsimp only); first | omega | (simp only [World.size_alloc, size_setRow, size_drew', World.size_setCell]; omega)) | with_reducible refine row_new' (by first | (simp only [World.size_alloc, size_setRow, size_drew', World.size_setCell]; done) | omega | (simp only [World.size_alloc, size_setRow, size_drew', World.size_setCell]; omega)) | with_reducible refine row_old ?_ | with_reducible refine row_below (by assumption) ?_ (by first | omega | (simp only [World.size_alloc, size_setRow, size_drew', World.size_setCell]; omega))))) : P := h
end Go.Proofs.YtigofgdmefobaaaDoor.Peel

/- Walks of package peel: the spots of a knot. -/
set_option linter.unusedVariables false
set_option linter.unusedSimpArgs false
namespace Go.Proofs.YtigofgdmefobaaaDoor.Peel
open Go.RowKit Go.Proofs.YtigofgdmefobaaaDoor.Iter

def Sp.n (s : Sp) : Int := s.hi - s.lo + 1
/-- The spots at which a knot can be: angle by angle, for each first turn. -/
def Kn.many (x : Kn) : Nat := (x.a.n * x.f.n).toNat
def Kn.spot (x : Kn) (i : Nat) : Int × Int := (x.a.lo + (i : Int) % x.a.n, x.f.lo + (i : Int) / x.a.n)
def Kn.spots (x : Kn) : List (Int × Int) := (List.range x.many).map x.spot
theorem Kn.spots_get (x : Kn) (i : Nat) (h : i < x.many) : x.spots[i]? = some (x.spot i) := by
  simp [Kn.spots, h]
theorem Kn.spots_len (x : Kn) : x.spots.length = x.many := by simp [Kn.spots]

/-- Where the iterator stands. -/
structure Stands (x : Kn) (i : Nat) (A F : Int) : Prop where
  a0 : x.a.lo ≤ A
  a1 : A ≤ x.a.hi + 1
  f0 : x.f.lo ≤ F
  f1 : F ≤ x.f.hi
  at_ : (i : Int) = (F - x.f.lo) * x.a.n + (A - x.a.lo)
  n : i < x.many
theorem Kn.Ok.cases {x : Kn} {n : Int} (h : x.Ok n) : (x.a.n = 1 ∨ x.a.n = 2 ∨ x.a.n = 3 ∨ x.a.n = 4) ∧ (x.f.n = 1 ∨ x.f.n = 2) := by
  obtain ⟨⟨a1, a2, a3, a4⟩, ⟨b1, b2, b3, b4⟩⟩ := h
  unfold Sp.n
  omega
theorem Stands.first {x : Kn} {n : Int} (h : x.Ok n) : Stands x 0 x.a.lo x.f.lo := by
  have hc := h.cases
  obtain ⟨⟨a1, a2, a3, a4⟩, ⟨b1, b2, b3, b4⟩⟩ := h
  refine ⟨by omega, by omega, by omega, by omega, by simp, ?_⟩
  unfold Kn.many
  obtain ⟨h1 | h1 | h1 | h1, h2 | h2⟩ := hc <;> rw [h1, h2] <;> decide
theorem Stands.over {x : Kn} {n : Int} (h : x.Ok n) {i : Nat} {A F : Int} (s : Stands x i A F) (hA : x.a.hi < A) : Stands x i x.a.lo (F + 1) := by
  have hc := h.cases
  obtain ⟨⟨a1, a2, a3, a4⟩, ⟨b1, b2, b3, b4⟩⟩ := h
  obtain ⟨s1, s2, s3, s4, s5, s6⟩ := s
  unfold Kn.many at s6
  have e1 : x.a.n = x.a.hi - x.a.lo + 1 := rfl
  have e2 : x.f.n = x.f.hi - x.f.lo + 1 := rfl
  refine ⟨by omega, by omega, by omega, ?_, ?_, s6⟩ <;> obtain ⟨h1 | h1 | h1 | h1, h2 | h2⟩ := hc <;> rw [h1] at s5 e1 s6 <;> rw [h2] at e2 s6 <;> (try rw [h1]) <;> simp at s6 <;> omega
theorem Stands.spot {x : Kn} {n : Int} (h : x.Ok n) {i : Nat} {A F : Int} (s : Stands x i A F) (hA : A ≤ x.a.hi) : x.spot i = (A, F) := by
  have hc := h.cases
  obtain ⟨⟨a1, a2, a3, a4⟩, ⟨b1, b2, b3, b4⟩⟩ := h
  obtain ⟨s1, s2, s3, s4, s5, s6⟩ := s
  have e1 : x.a.n = x.a.hi - x.a.lo + 1 := rfl
  unfold Kn.spot
  rw [Prod.mk.injEq]
  constructor <;> obtain ⟨h1 | h1 | h1 | h1, h2 | h2⟩ := hc <;> rw [h1] at s5 e1 <;> rw [h1] <;> omega
theorem Stands.next {x : Kn} {n : Int} (h : x.Ok n) {i : Nat} {A F : Int} (s : Stands x i A F) (hA : A ≤ x.a.hi) (hl : ¬ (A = x.a.hi ∧ F = x.f.hi)) : Stands x (i + 1) (A + 1) F := by
  have hc := h.cases
  obtain ⟨⟨a1, a2, a3, a4⟩, ⟨b1, b2, b3, b4⟩⟩ := h
  obtain ⟨s1, s2, s3, s4, s5, s6⟩ := s
  unfold Kn.many at s6
  have e1 : x.a.n = x.a.hi - x.a.lo + 1 := rfl
  have e2 : x.f.n = x.f.hi - x.f.lo + 1 := rfl
  refine ⟨by omega, by omega, by omega, by omega, ?_, ?_⟩
  · omega
  · unfold Kn.many
    obtain ⟨h1 | h1 | h1 | h1, h2 | h2⟩ := hc <;> rw [h1] at s5 e1 <;> rw [h2] at e2 <;> rw [h1, h2] <;> simp <;> omega
theorem Stands.last {x : Kn} {n : Int} (h : x.Ok n) {i : Nat} {A F : Int} (s : Stands x i A F) (hl : A = x.a.hi ∧ F = x.f.hi) : i + 1 = x.many := by
  have hc := h.cases
  obtain ⟨⟨a1, a2, a3, a4⟩, ⟨b1, b2, b3, b4⟩⟩ := h
  obtain ⟨s1, s2, s3, s4, s5, s6⟩ := s
  obtain ⟨rfl, rfl⟩ := hl
  have e1 : x.a.n = x.a.hi - x.a.lo + 1 := rfl
  have e2 : x.f.n = x.f.hi - x.f.lo + 1 := rfl
  unfold Kn.many
  obtain ⟨h1 | h1 | h1 | h1, h2 | h2⟩ := hc <;> rw [h1] at s5 e1 <;> rw [h2] at e2 <;> rw [h1, h2] <;> simp <;> omega

/-- The package's variable 'ends' lies in memory. -/
structure EndsAt (w : World) : Prop where
  e0 : w.cell? ⟨0, 0, none⟩ = some (.func (.func 113) #[] #[])
  e1 : w.cell? ⟨0, 1, none⟩ = some (.func (.func 114) #[] #[])
theorem EndsAt.below {w w1 : World} (h : EndsAt w) (hb : Below w.heap.size w w1) : EndsAt w1 := ⟨cell_below hb h.e0, cell_below hb h.e1⟩
/-- What the iterator of spots reads. -/
structure SpotsNeed (l : PL) (a : Addr) (B : Option Addr) (c d m bl bk k : Nat) (w : World) : Prop where
  log : LogAt w l a B c d
  ends : EndsAt w
  q0 : w.cell? ⟨bl, 0, none⟩ = some (.slice (some a) l.long.length c)
  q1 : w.cell? ⟨bl, 1, none⟩ = some (.int .i64 l.size)
  q2 : w.cell? ⟨bl, 2, none⟩ = some (.slice B l.knots.length d)
  q3 : w.cell? ⟨bl, 3, none⟩ = some (.map (some m))
  k : w.cell? ⟨bk, 0, none⟩ = some (.int .i64 k)
theorem SpotsNeed.below {l : PL} {a : Addr} {B : Option Addr} {c d m bl bk k : Nat} {w w1 : World} (h : SpotsNeed l a B c d m bl bk k w) (hb : Below w.heap.size w w1) : SpotsNeed l a B c d m bl bk k w1 :=
  ⟨h.log.below hb, h.ends.below hb, cell_below hb h.q0, cell_below hb h.q1, cell_below hb h.q2, cell_below hb h.q3, cell_below hb h.k⟩
theorem cell_far {w0 w1 w2 : World} {p : Addr} {v v0 : Value} (h0 : w0.cell? p = some v0) (h1 : w1.cell? p = some v) (hb : Below w0.heap.size w1 w2) : w2.cell? p = some v :=
  (hb.cell (World.block_lt_of_cell? w0 p h0)).trans h1
theorem LogAt.far {w0 w1 w2 : World} {l : PL} {a : Addr} {B : Option Addr} {c d : Nat} (h0 : LogAt w0 l a B c d) (h : LogAt w1 l a B c d) (hb : Below w0.heap.size w1 w2) : LogAt w2 l a B c d where
  ok := h.ok
  long := fun k hk => cell_far (h0.long k hk) (h.long k hk) hb
  knots := fun k x hx => by
    obtain ⟨b, e, h1, h2, h3, h4⟩ := h.knots k x hx
    obtain ⟨b', e', g1, g2, g3, g4⟩ := h0.knots k x hx
    rw [e] at e'
    injection e' with e'
    subst e'
    exact ⟨b, e, cell_far g1 h1 hb, cell_far g2 h2 hb, cell_far g3 h3 hb, cell_far g4 h4 hb⟩
  c := h.c
  d := h.d
theorem EndsAt.far {w0 w1 w2 : World} (h0 : EndsAt w0) (h : EndsAt w1) (hb : Below w0.heap.size w1 w2) : EndsAt w2 := ⟨cell_far h0.e0 h.e0 hb, cell_far h0.e1 h.e1 hb⟩
theorem SpotsNeed.far {l : PL} {a : Addr} {B : Option Addr} {c d m bl bk k : Nat} {w0 w1 w2 : World} (h0 : SpotsNeed l a B c d m bl bk k w0) (h : SpotsNeed l a B c d m bl bk k w1) (hb : Below w0.heap.size w1 w2) : SpotsNeed l a B c d m bl bk k w2 :=
  ⟨h0.log.far h.log hb, h0.ends.far h.ends hb, cell_far h0.q0 h.q0 hb, cell_far h0.q1 h.q1 hb, cell_far h0.q2 h.q2 hb, cell_far h0.q3 h.q3 hb, cell_far h0.k h.k hb⟩
end Go.Proofs.YtigofgdmefobaaaDoor.Peel

/- Walks of package peel: the iterator of spots. -/
set_option linter.unusedVariables false
set_option linter.unusedSimpArgs false
namespace Go.Proofs.YtigofgdmefobaaaDoor.Peel
open Go.RowKit Go.Proofs.YtigofgdmefobaaaDoor.Iter
attribute [local go_sem] Oper.semAt_some

theorem heap_put {w : World} {p : Addr} {v : Value} {i : Nat} (h : p.block ≠ i) : (w.setCell p v).heap[i]? = w.heap[i]? := Below.heap_setCell w p v i (Ne.symm h)
theorem stays_setCell {T : Nat → Prop} (w : World) (p : Addr) (v : Value) (hp : T p.block) : Stays T w (w.setCell p v) :=
  ⟨Ext.below (Below.setCell (Below.refl 0 w) (Nat.zero_le _) v), fun b _ hb => heap_put (fun e => hb (e ▸ hp))⟩
theorem stays_alloc {T : Nat → Prop} (w : World) (o : Obj) : Stays T w (w.alloc o) := Stays.of_below ((Below.refl _ w).alloc (Nat.le_refl _) o)
theorem size_drew_own (w : World) : w.drew.heap.size = w.heap.size := rfl
theorem bdrew {w w1 : World} (h : Below w.heap.size w w1) : Below w.heap.size w w1.drew := h.drew
theorem balloc {w w1 : World} (h : Below w.heap.size w w1) (o : Obj) : Below w.heap.size w (w1.alloc o) := h.alloc h.size o
theorem bset {w w1 : World} (h : Below w.heap.size w w1) (p : Addr) (v : Value) (hp : w.heap.size ≤ p.block) : Below w.heap.size w (w1.setCell p v) := h.setCell hp v
theorem keeps_cell {T : Nat → Prop} {w w1 : World} (h : Keeps T w w1) {b o : Nat} {v : Value} (hT : T b) (hc : w.cell? ⟨b, o, none⟩ = some v) : w1.cell? ⟨b, o, none⟩ = some v := by
  have := h.block b (World.block_lt_of_cell? w _ hc) hT
  rw [← hc]
  simp only [World.cell?, this]
theorem below_of_keeps {T : Nat → Prop} {w w1 : World} (h : Keeps T w w1) : Ext w w1 := h.ext
theorem blk_set {w : World} {g : Nat} {t : TypeId} {cs : Array Value} (h : w.heap[g]? = some (.cells cs t (0, 0))) (i : Nat) (u : Value) : (w.setCell ⟨g, i, none⟩ u).heap[g]? = some (.cells (cs.setIfInBounds i u) t (0, 0)) := by
  simp [World.setCell, Array.getElem?_modify, h]
def SpotsS (l : PL) (a : Addr) (B : Option Addr) (c d m bl bk k : Nat) (w' : World) : Prop := w'.cell? ⟨bl, 0, none⟩ = some (.slice (some a) l.long.length c) ∧ w'.cell? ⟨bl, 1, none⟩ = some (.int .i64 l.size) ∧ w'.cell? ⟨bl, 2, none⟩ = some (.slice B l.knots.length d) ∧ w'.cell? ⟨bl, 3, none⟩ = some (.map (some m)) ∧ w'.cell? ⟨bk, 0, none⟩ = some (.int .i64 k) ∧ w'.cell? ⟨0, 0, none⟩ = some (.func (.func 113) #[] #[]) ∧ w'.cell? ⟨0, 1, none⟩ = some (.func (.func 114) #[] #[])
theorem spots_S {l : PL} {a : Addr} {B : Option Addr} {c d m bl bk k : Nat} {w w' : World} (h : SpotsS l a B c d m bl bk k w) (hb : Below w.heap.size w w') : SpotsS l a B c d m bl bk k w' :=
  ⟨cell_below hb h.1, cell_below hb h.2.1, cell_below hb h.2.2.1, cell_below hb h.2.2.2.1, cell_below hb h.2.2.2.2.1, cell_below hb h.2.2.2.2.2.1, cell_below hb h.2.2.2.2.2.2⟩
/-- How many rounds are left. -/
def spotLeft (x : Kn) (wr : World) : Value → Nat
  | .pointer (some p) => match wr.cell? ⟨p.block, 0, none⟩, wr.cell? ⟨p.block, 1, none⟩ with
    | some (.int _ A), some (.int _ F) => x.many - ((F - x.f.lo) * x.a.n + (A - x.a.lo)).toNat
    | _, _ => 0
  | _ => 0
theorem spotLeft_eq {x : Kn} {wr : World} {b i : Nat} {A F : Int} (h0 : wr.cell? ⟨b, 0, none⟩ = some (.int .i64 A)) (h1 : wr.cell? ⟨b, 1, none⟩ = some (.int .i64 F)) (hs : Stands x i A F) : spotLeft x wr (.pointer (some ⟨b, 0, none⟩)) = x.many - i := by
  unfold spotLeft
  simp only [h0, h1]
  rw [← hs.at_]; simp
abbrev spotV (s : Int × Int) : Array Value := #[.agg #[.int .i64 s.1, .int .i64 s.2]]
set_option maxHeartbeats 2000000 in
theorem spots_yields (l : PL) (a : Addr) (B : Option Addr) (c d m bl bk k : Nat) (x : Kn) (hx : l.knots[k]? = some x) :
    Iter.Yields Tryd.prog 96 #[.pointer (some ⟨bl, 0, none⟩), .pointer (some ⟨bk, 0, none⟩)] spotV x.spots (fun _ => False) (SpotsNeed l a B c d m bl bk k) := by
  intro L J W hN hJ hY h0
  have HN := Lib.hid hN
  have HY := Lib.hid hY
  have H0 := Lib.hid h0
  have HJ := Lib.hid hJ
  have hxk := Lib.hid (hN.log.ok.knots x (List.mem_of_getElem? hx))
  have HX := Lib.hid hx
  have q0 := hN.q0
  have q1 := hN.q1
  have q2 := hN.q2
  have q3 := hN.q3
  have qk := hN.k
  have e0 := hN.ends.e0
  have e1 := hN.ends.e1
  have lt1 : bl < W.heap.size := World.block_lt_of_cell? W _ q0
  have lt2 : bk < W.heap.size := World.block_lt_of_cell? W _ qk
  have lt3 : 0 < W.heap.size := World.block_lt_of_cell? W _ e0
  clear hN hY h0 hJ hx
  simp only [List.push_toArray, List.append_toArray, List.cons_append, List.nil_append]
  refine callsIn_wide.2 ?_
  go_enter Tryd.func96, Tryd.ntmps96
  go_upto_region 0 with (fail)
  go_cut [4, 5] (fun p4 p5 wc => ∃ b4 b5 : Nat, p4 = .pointer (some ⟨b4, 0, none⟩) ∧ p5 = .pointer (some ⟨b5, 0, none⟩) ∧ W.heap.size ≤ b4 ∧ W.heap.size ≤ b5 ∧ Below W.heap.size W wc ∧
    wc.cell? ⟨b4, 0, none⟩ = some (.int .i64 x.a.lo) ∧ wc.cell? ⟨b4, 1, none⟩ = some (.int .i64 x.f.lo) ∧ wc.cell? ⟨b5, 0, none⟩ = some (.int .i64 x.a.hi) ∧ wc.cell? ⟨b5, 1, none⟩ = some (.int .i64 x.f.hi))
  case first =>
    have hS7 := Lib.hid (show SpotsS l a B c d m bl bk k W from ⟨q0, q1, q2, q3, qk, e0, e1⟩)
    go_wp2_with fail
    go_region_held3 (fun w' => w'.cell? ⟨bl, 0, none⟩ = some (.slice (some a) l.long.length c) ∧ w'.cell? ⟨bl, 1, none⟩ = some (.int .i64 l.size) ∧ w'.cell? ⟨bl, 2, none⟩ = some (.slice B l.knots.length d) ∧ w'.cell? ⟨bl, 3, none⟩ = some (.map (some m)) ∧ w'.cell? ⟨bk, 0, none⟩ = some (.int .i64 k) ∧ w'.cell? ⟨0, 0, none⟩ = some (.func (.func 113) #[] #[]) ∧ w'.cell? ⟨0, 1, none⟩ = some (.func (.func 114) #[] #[]))
      (exact (spots_S hS7.out (by (repeat' (first | exact Below.refl _ _ | assumption | with_reducible refine bdrew ?_ | with_reducible refine balloc ?_ _ | with_reducible refine bset ?_ _ _ (by first | omega | (simp; done) | (simp; omega) | (dsimp only; omega)) | with_reducible refine bb ?_ (by assumption))))))
      (first | (go_at_call 113; refine (first_any m (HN.out.log.below (by (repeat' (first | exact Below.refl _ _ | assumption | with_reducible refine bdrew ?_ | with_reducible refine balloc ?_ _ | with_reducible refine bset ?_ _ _ (by first | omega | (simp; done) | (simp; omega) | (dsimp only; omega)) | with_reducible refine bb ?_ (by assumption))))) k x HX.out).mono ?_; rintro e w' ⟨rfl, hb'⟩; (obtain ⟨hc', hf'⟩ := bcell hb'; have hz' := (hb').size; (try simp only [World.size_alloc, size_drew_own] at hz'); (try (have hz3 := Nat.lt_of_succ_le hz'; try (have hz4 := Nat.lt_of_succ_lt hz3))); (try (have hz1 : (W).heap.size < (w').heap.size := by omega)); (try (have hz2 : (W).heap.size + 1 < (w').heap.size := by omega)))) | (go_at_call 114; refine (last_any m (HN.out.log.below (by (repeat' (first | exact Below.refl _ _ | assumption | with_reducible refine bdrew ?_ | with_reducible refine balloc ?_ _ | with_reducible refine bset ?_ _ _ (by first | omega | (simp; done) | (simp; omega) | (dsimp only; omega)) | with_reducible refine bb ?_ (by assumption))))) k x HX.out).mono ?_; rintro e w' ⟨rfl, hb'⟩; (obtain ⟨hc', hf'⟩ := bcell hb'; have hz' := (hb').size; (try simp only [World.size_alloc, size_drew_own] at hz'); (try (have hz3 := Nat.lt_of_succ_le hz'; try (have hz4 := Nat.lt_of_succ_lt hz3))); (try (have hz1 : (W).heap.size < (w').heap.size := by omega)); (try (have hz2 : (W).heap.size + 1 < (w').heap.size := by omega)))))
    all_goals (go_wp2_with fail; go_meet; case rel => (refine ⟨_, _, rfl, rfl, ?_, ?_, by (repeat' (first | exact Below.refl _ _ | assumption | with_reducible refine bdrew ?_ | with_reducible refine balloc ?_ _ | with_reducible refine bset ?_ _ _ (by first | omega | (simp; done) | (simp; omega) | (dsimp only; omega)) | with_reducible refine bb ?_ (by assumption))), ?_, ?_, ?_, ?_⟩ <;> first | omega | (repeat (first | with_reducible assumption | with_reducible refine cell_drew' ?_ | with_reducible refine cset_same ?_ | with_reducible refine cset_off ?_ (by decide) | with_reducible refine cset_blk ?_ (by (try dsimp only); first | omega | (simp only [World.size_alloc, size_setRow, size_drew', World.size_setCell]; omega)) | with_reducible refine cell_new' (by first | rfl | (simp only [World.size_alloc, size_setRow, size_drew', World.size_setCell]; done) | omega | (simp only [World.size_alloc, size_setRow, size_drew', World.size_setCell]; omega)) ?_ | with_reducible refine cell_old ?_ | with_reducible refine cell_belowB (by assumption) ?_ (by first | omega | (simp only [World.size_alloc, size_setRow, size_drew', World.size_setCell]; omega)) | with_reducible exact some_of (by assumption) | with_reducible refine some_drew ?_ | with_reducible refine some_set ?_ rfl | with_reducible exact some_new (by first | rfl | (simp only [World.size_alloc, size_setRow, size_drew', World.size_setCell]; done) | omega | (simp only [World.size_alloc, size_setRow, size_drew', World.size_setCell]; omega)) (by simp; done) | with_reducible refine some_old ?_ | with_reducible refine some_below (by assumption) ?_ (by first | omega | (simp only [World.size_alloc, size_setRow, size_drew', World.size_setCell]; omega)) | rfl)) | (simp; done) | (simp; omega) | (go_simp; done)))
  case rest =>
  obtain ⟨b4, b5, rfl, rfl, hb4, hb5, hB, f0, f1, t0, t1⟩ := hcut
  have z4 : b4 < wc.heap.size := World.block_lt_of_cell? wc _ f0
  have z5 : b5 < wc.heap.size := World.block_lt_of_cell? wc _ t0
  go_upto_region 1 with (fail)
  go_wp2_with fail
  refine (wpIn_wide (n := 0)).1 ?_
  gi_loopw [6] (fun p wr => ∃ (i bs : Nat) (T : Nat → Prop) (A F : Int), p = .pointer (some ⟨bs, 0, none⟩) ∧ W.heap.size ≤ bs ∧ Stands x i A F ∧ T bs ∧ T b4 ∧ T b5 ∧ bs ≠ b4 ∧ bs ≠ b5 ∧ (∀ b, T b → b < wr.heap.size) ∧ J i T wr ∧ SpotsNeed l a B c d m bl bk k wr ∧
      wr.heap[bs]? = some (.cells #[.int .i64 A, .int .i64 F] 102 (0, 0)) ∧ wr.cell? ⟨b4, 0, none⟩ = some (.int .i64 x.a.lo) ∧ wr.cell? ⟨b4, 1, none⟩ = some (.int .i64 x.f.lo) ∧ wr.cell? ⟨b5, 0, none⟩ = some (.int .i64 x.a.hi) ∧ wr.cell? ⟨b5, 1, none⟩ = some (.int .i64 x.f.hi))
    (fun p wr => spotLeft x wr p)
  case atStart =>
    have hst : Below W.heap.size W (wc.alloc (.cells #[.int .i64 x.a.lo, .int .i64 x.f.lo] 102)) := hB.alloc hB.size _
    exact ⟨0, wc.heap.size, (fun b => b = wc.heap.size ∨ b = b4 ∨ b = b5), x.a.lo, x.f.lo, rfl, hB.size, Stands.first hxk.out, .inl rfl, .inr (.inl rfl), .inr (.inr rfl), by omega, by omega, (fun b hb => by rcases hb with h | h | h <;> simp <;> omega),
      HJ.out 0 _ _ W _ H0.out (Stays.of_below hst) (fun b hb _ h => by omega), HN.out.below hst, heap_alloc_new _ _, cell_below ((Below.refl _ wc).alloc (Nat.le_refl _) _) f0, cell_below ((Below.refl _ wc).alloc (Nat.le_refl _) _) f1, cell_below ((Below.refl _ wc).alloc (Nat.le_refl _) _) t0, cell_below ((Below.refl _ wc).alloc (Nat.le_refl _) _) t1⟩
  case round =>
    clear f0 f1 t0 t1 z4 z5 hB
    obtain ⟨i, bs, T, A, F, rfl, hbs, hst, Tbs, Tb4, Tb5, nbs4, nbs5, hbd, hJ, hN, hrow, f0, f1, t0, t1⟩ := hrel
    have s0 : wr.cell? ⟨bs, 0, none⟩ = some (.int .i64 A) := cell_of_row wr bs 0 _ _ _ hrow
    have s1 : wr.cell? ⟨bs, 1, none⟩ = some (.int .i64 F) := cell_of_row wr bs 1 _ _ _ hrow
    have g0 : wr.frozen? ⟨bs, 0, none⟩ = false := frozen_of_row wr bs 0 _ _ hrow
    have g1 : wr.frozen? ⟨bs, 1, none⟩ = false := frozen_of_row wr bs 1 _ _ hrow
    have HR := Lib.hid hrow
    have HBD := Lib.hid hbd
    clear hbd
    have HM := Lib.hid (spotLeft_eq s0 s1 hst)
    have HNr := Lib.hid hN
    have HJr := Lib.hid hJ
    have zs : bs < wr.heap.size := World.block_lt_of_cell? wr _ s0
    have z4 : b4 < wr.heap.size := World.block_lt_of_cell? wr _ f0
    have z5 : b5 < wr.heap.size := World.block_lt_of_cell? wr _ t0
    have A0 : 0 ≤ A := by have := hxk.out.a.low; have := hst.a0; omega
    have A1 : A ≤ 24 := by have := hxk.out.a.high; have := hst.a1; omega
    have F0 : 0 ≤ F := by have := hxk.out.f.low; have := hst.f0; omega
    have F1 : F ≤ 6 := by have := hxk.out.f.high; have := HN.out.log.ok.turns; have := hst.f1; omega
    clear hrow hN hJ
    gi_upto_if 26 with (fail)
    gi_cut [6] from 18 (fun p wd => ∃ A F : Int, p = .pointer (some ⟨bs, 0, none⟩) ∧ A ≤ x.a.hi ∧ Stands x i A F ∧ (∀ b, T b → b < wd.heap.size) ∧ J i T wd ∧ SpotsNeed l a B c d m bl bk k wd ∧ wd.heap[bs]? = some (.cells #[.int .i64 A, .int .i64 F] 102 (0, 0)) ∧
      wd.cell? ⟨b4, 0, none⟩ = some (.int .i64 x.a.lo) ∧ wd.cell? ⟨b4, 1, none⟩ = some (.int .i64 x.f.lo) ∧ wd.cell? ⟨b5, 0, none⟩ = some (.int .i64 x.a.hi) ∧ wd.cell? ⟨b5, 1, none⟩ = some (.int .i64 x.f.hi))
    case first =>
      by_cases hA : x.a.hi < A
      · gi_wp2
        gi_meet
        case rel =>
          have hs2 : Stays T wr ((wr.setCell ⟨bs, 0, none⟩ (.int .i64 x.a.lo)).setCell ⟨bs, 1, none⟩ (.int .i64 (F + 1))) := (stays_setCell wr _ _ Tbs).trans (stays_setCell _ _ _ Tbs)
          have hb2 : Below W.heap.size wr ((wr.setCell ⟨bs, 0, none⟩ (.int .i64 x.a.lo)).setCell ⟨bs, 1, none⟩ (.int .i64 (F + 1))) := ((Below.refl _ wr).setCell hbs _).setCell hbs _
          have hf : ∀ b o v, b ≠ bs → wr.cell? ⟨b, o, none⟩ = some v → ((wr.setCell ⟨bs, 0, none⟩ (.int .i64 x.a.lo)).setCell ⟨bs, 1, none⟩ (.int .i64 (F + 1))).cell? ⟨b, o, none⟩ = some v := by
            intro b o v hne hv
            have : ((wr.setCell ⟨bs, 0, none⟩ (.int .i64 x.a.lo)).setCell ⟨bs, 1, none⟩ (.int .i64 (F + 1))).heap[b]? = wr.heap[b]? := (heap_put (Ne.symm hne)).trans (heap_put (Ne.symm hne))
            rw [← hv]; simp only [World.cell?, this]
          exact ⟨x.a.lo, F + 1, rfl, by have := hxk.out.a.ends; omega, hst.over hxk.out hA, (fun b hb => Nat.lt_of_lt_of_le (HBD.out b hb) hs2.ext.size), HJ.out i T T wr _ HJr.out hs2 (fun b _ h => h), HN.out.far HNr.out hb2, blk_set (blk_set HR.out 0 _) 1 _, hf _ _ _ (Ne.symm nbs4) f0, hf _ _ _ (Ne.symm nbs4) f1, hf _ _ _ (Ne.symm nbs5) t0, hf _ _ _ (Ne.symm nbs5) t1⟩
      · gi_wp2
        gi_meet
        case rel => exact ⟨A, F, rfl, by omega, hst, HBD.out, HJr.out, HNr.out, HR.out, f0, f1, t0, t1⟩
    case rest =>
      clear f0 f1 t0 t1 s0 s1 g0 g1 zs z4 z5 A0 A1 F0 F1 hst HR HNr HJr HBD
      obtain ⟨A, F, rfl, hA, hst, hbd, hJ, hN, hrow, f0, f1, t0, t1⟩ := hcut
      have s0 : wc.cell? ⟨bs, 0, none⟩ = some (.int .i64 A) := cell_of_row wc bs 0 _ _ _ hrow
      have s1 : wc.cell? ⟨bs, 1, none⟩ = some (.int .i64 F) := cell_of_row wc bs 1 _ _ _ hrow
      have zs : bs < wc.heap.size := World.block_lt_of_cell? wc _ s0
      have A0 : 0 ≤ A := by have := hxk.out.a.low; have := hst.a0; omega
      have A1 : A ≤ 24 := by have := hxk.out.a.high; have := hst.a1; omega
      have hq : x.spots[i]? = some (A, F) := by rw [x.spots_get i hst.n, hst.spot hxk.out hA]
      obtain ⟨fn, tmps, assign, body, hy, hR⟩ := HY.out i (A, F) T wc hq hJ hN hbd
      have HBD := Lib.hid hbd
      clear hJ hN hrow hq hbd
      by_cases hl : A = x.a.hi ∧ F = x.f.hi
      · have HZ := Lib.hid (hst.last hxk.out hl)
        obtain ⟨rfl, rfl⟩ := hl
        dsimp only [spotV] at hy
        gi_wp2
        refine ⟨rfl, hR.mono ?_⟩
        rintro e W2 ⟨rfl, hJ2, hk2, hN2⟩
        have hsz := hk2.ext.size
        have f0' := keeps_cell hk2 Tb4 f0
        have f1' := keeps_cell hk2 Tb4 f1
        have t0' := keeps_cell hk2 Tb5 t0
        have t1' := keeps_cell hk2 Tb5 t1
        have s0' := keeps_cell hk2 Tbs s0
        have s1' := keeps_cell hk2 Tbs s1
        gi_wp2
        refine bodyPost_ret (results_none rfl _ _ _) rfl ?_
        exact ⟨⟨_, rfl⟩, hN2, T, by rw [x.spots_len, ← HZ.out]; exact hJ2⟩
      · have hnx := hst.next hxk.out hA hl
        dsimp only [spotV] at hy
        gi_wp2
        refine ⟨rfl, hR.mono ?_⟩
        rintro e W2 ⟨rfl, hJ2, hk2, hN2⟩
        have hsz := hk2.ext.size
        have f0' := keeps_cell hk2 Tb4 f0
        have f1' := keeps_cell hk2 Tb4 f1
        have t0' := keeps_cell hk2 Tb5 t0
        have t1' := keeps_cell hk2 Tb5 t1
        have s0' := keeps_cell hk2 Tbs s0
        have s1' := keeps_cell hk2 Tbs s1
        by_cases hA' : A = x.a.hi
        · subst hA'
          have hF : F ≠ x.f.hi := fun e => hl ⟨rfl, e⟩
          clear hl
          gi_wp2
          go_roundw
          case rel =>
            have z4 : b4 < W2.heap.size := World.block_lt_of_cell? W2 _ f0'
            have z5 : b5 < W2.heap.size := World.block_lt_of_cell? W2 _ t0'
            have hal := fun o => (Below.refl _ W2).alloc (Nat.le_refl _) o
            exact ⟨i + 1, W2.heap.size, fun b => T b ∨ b = W2.heap.size, _, F, rfl, by omega, hnx, .inr rfl, .inl Tb4, .inl Tb5, by omega, by omega, (fun b hb => by rcases hb with h | h; (have := HBD.out b h; simp; omega); (subst h; simp)),
              HJ.out (i + 1) T _ W2 _ hJ2 (stays_alloc W2 _) (fun b hb hn h => by rcases h with h | h; exact hn h; omega), hN2.below (hal _), heap_alloc_new _ _, cell_below (hal _) f0', cell_below (hal _) f1', cell_below (hal _) t0', cell_below (hal _) t1'⟩
          case measure =>
            have hrow := heap_alloc_new W2 (.cells #[.int .i64 (x.a.hi + 1), .int .i64 F] 102)
            have e1 := spotLeft_eq (x := x) (cell_of_row _ _ 0 _ _ _ hrow) (cell_of_row _ _ 1 _ _ _ hrow) hnx
            have hn := hnx.n
            show spotLeft x _ (.pointer (some ⟨W2.heap.size, 0, none⟩)) < spotLeft x wr (.pointer (some ⟨bs, 0, none⟩))
            rw [e1, HM.out]
            omega
        · clear hl
          gi_wp2
          go_roundw
          case rel =>
            have z4 : b4 < W2.heap.size := World.block_lt_of_cell? W2 _ f0'
            have z5 : b5 < W2.heap.size := World.block_lt_of_cell? W2 _ t0'
            have hal := fun o => (Below.refl _ W2).alloc (Nat.le_refl _) o
            exact ⟨i + 1, W2.heap.size, fun b => T b ∨ b = W2.heap.size, _, F, rfl, by omega, hnx, .inr rfl, .inl Tb4, .inl Tb5, by omega, by omega, (fun b hb => by rcases hb with h | h; (have := HBD.out b h; simp; omega); (subst h; simp)),
              HJ.out (i + 1) T _ W2 _ hJ2 (stays_alloc W2 _) (fun b hb hn h => by rcases h with h | h; exact hn h; omega), hN2.below (hal _), heap_alloc_new _ _, cell_below (hal _) f0', cell_below (hal _) f1', cell_below (hal _) t0', cell_below (hal _) t1'⟩
          case measure =>
            have hrow := heap_alloc_new W2 (.cells #[.int .i64 (A + 1), .int .i64 F] 102)
            have e1 := spotLeft_eq (x := x) (cell_of_row _ _ 0 _ _ _ hrow) (cell_of_row _ _ 1 _ _ _ hrow) hnx
            have hn := hnx.n
            show spotLeft x _ (.pointer (some ⟨W2.heap.size, 0, none⟩)) < spotLeft x wr (.pointer (some ⟨bs, 0, none⟩))
            rw [e1, HM.out]
            omega
end Go.Proofs.YtigofgdmefobaaaDoor.Peel

/- The map of marks: its keys are spots, its values ribbons. A look-up and an update, as laws on the operations. -/
set_option linter.unusedVariables false
set_option linter.unusedSimpArgs false
namespace Go.Proofs.YtigofgdmefobaaaDoor.Peel
open Go.RowKit

abbrev keyV (s : Int × Int) : Value := .agg #[.int .i64 s.1, .int .i64 s.2]
/-- Every entry holds what it must. -/
def Cached (M : Int × Int → Nat → Bool) (es : Array MapEntry) : Prop := ∀ e ∈ es.toList, ∃ s : Int × Int, e.key = keyV s ∧ e.val = .agg (rv (M s))
theorem undMarks : Tryd.prog.underlying 73 = some (.map 102 86) := by kernel_rfl
theorem equal_spot {w : World} (s t : Int × Int) : (Op.equal 102 (keyV s) (keyV t)).run Tryd.prog w = .ok (s.1 == t.1 && s.2 == t.2) w := by
  have hf : ∃ f g : Field, (Tryd.prog.fieldsOf 102).toList = [f, g] ∧ f.name = "angle" ∧ f.type = 3 ∧ f.offset = 0 ∧ g.name = "turn" ∧ g.type = 3 ∧ g.offset = 1 :=
    ⟨(Tryd.prog.fieldsOf 102).toList.getD 0 default, (Tryd.prog.fieldsOf 102).toList.getD 1 default, by kernel_rfl, by kernel_rfl, by kernel_rfl, by kernel_rfl, by kernel_rfl, by kernel_rfl, by kernel_rfl⟩
  obtain ⟨f, g, hl, h1, h2, h3, h4, h5, h6⟩ := hf
  have hi : Tryd.prog.underlying 3 = some (.int .i64) := by kernel_rfl
  have p1 : ∀ (w : World) (a b : Int), (part 3 #[.int .i64 a, .int .i64 b] 0).run Tryd.prog w = .ok (.int .i64 a) w := fun w a b => by kernel_rfl
  have p2 : ∀ (w : World) (a b : Int), (part 3 #[.int .i64 a, .int .i64 b] 1).run Tryd.prog w = .ok (.int .i64 b) w := fun w a b => by kernel_rfl
  unfold Op.equal Op.maxDepth
  rw [run_equalIn_struct w 9999 _ _ _ (by kernel_rfl) (by kernel_rfl), hl]
  simp only [Op.eqFields, h1, h2, h3, h4, h5, h6, Sem.run_bind, Sem.run_ite, p1, p2, Result.andThen_ok, Sem.run_pure]
  have e1 := fun a b => run_equalIn_int (P := Tryd.prog) w 9998 3 .i64 .i64 a b hi
  simp only [e1, Result.andThen_ok]
  cases (s.1 == t.1) <;> cases (s.2 == t.2) <;> simp
theorem check_spot {w : World} (b : Bool) (s : Int × Int) : (Instr.checkKey b 10000 102 (keyV s)).run Tryd.prog w = .ok () w := by kernel_rfl
theorem find_spot {M : Int × Int → Nat → Bool} (s : Int × Int) : ∀ (es : List MapEntry) (i : Nat), (∀ e ∈ es, ∃ s : Int × Int, e.key = keyV s ∧ e.val = .agg (rv (M s))) →
    ∃ r, (∀ w : World, (Instr.findAsking 102 (keyV s) es i).run Tryd.prog w = .ok r w) ∧ (r = none ∨ ∃ j, r = some (j, .agg (rv (M s))) ∧ i ≤ j ∧ j - i < es.length ∧ es[j - i]?.map (·.key) = some (keyV s)) := by
  intro es
  induction es with
  | nil => intro i _; exact ⟨none, fun w => rfl, .inl rfl⟩
  | cons e es ih =>
    intro i h
    obtain ⟨t, hk, hv⟩ := h e (by simp)
    unfold Instr.findAsking
    simp only [hk, Sem.run_bind, equal_spot, Result.andThen_ok, Sem.run_ite, Sem.run_pure]
    by_cases he : (s.1 == t.1 && s.2 == t.2) = true
    · simp only [if_pos he]
      have : s = t := by
        simp at he
        exact Prod.ext he.1 he.2
      subst this
      exact ⟨_, fun w => rfl, .inr ⟨i, by rw [hv], Nat.le_refl _, by simp, by simp [hk]⟩⟩
    · simp only [if_neg he]
      obtain ⟨r, hr, hp⟩ := ih (i + 1) (fun e he => h e (by simp [he]))
      refine ⟨r, hr, ?_⟩
      rcases hp with hp | ⟨j, hj, h1, h2, h3⟩
      · exact .inl hp
      · refine .inr ⟨j, hj, by omega, by simp; omega, ?_⟩
        rw [show j - i = (j - (i + 1)) + 1 by omega]
        simpa using h3
/-- No entry has this key. -/
def Missing (s : Int × Int) (es : Array MapEntry) : Prop := ∀ w : World, (Instr.findKey 102 (keyV s) es.toList).run Tryd.prog w = .ok none w
theorem findKey_spot {M : Int × Int → Nat → Bool} (s : Int × Int) (es : Array MapEntry) (h : Cached M es) :
    Missing s es ∨ ∃ j, ∀ w : World, (Instr.findKey 102 (keyV s) es.toList).run Tryd.prog w = .ok (some (j, .agg (rv (M s)))) w := by
  have hu : Tryd.prog.underlying 102 = some (.struct (Tryd.prog.fieldsOf 102)) := by kernel_rfl
  obtain ⟨es⟩ := es
  cases es with
  | nil => exact .inl fun w => by simp [Instr.findKey, Sem.run_bind, run_underlying hu, Instr.findNow]
  | cons e es =>
    obtain ⟨r, hr, hp⟩ := find_spot s (e :: es) 0 h
    have hall : ∀ w : World, (Instr.findKey 102 (keyV s) (e :: es)).run Tryd.prog w = .ok r w := fun w => by
      simp only [Instr.findKey, Sem.run_bind, run_underlying hu, Result.andThen_ok, Instr.findNow, Instr.sameNow]
      exact hr w
    rcases hp with rfl | ⟨j, rfl, _⟩
    · exact .inl hall
    · exact .inr ⟨j, hall⟩
theorem lookup_missing {w : World} {m clock : Nat} {es : Array MapEntry} (s : Int × Int) (hm : w.heap[m]? = some (.map es clock)) (hs : Missing s es) :
    (Instr.lookup 73 (.map (some m)) (keyV s) true).run Tryd.prog w = .ok (.tuple #[.agg (rv none72), .bool false]) w := by
  simp [Instr.lookup, Sem.run_bind, run_underlying undMarks, MapKept.run_getObj_map hm, check_spot, hs w, zeroRib, zeroCells]
theorem lookup_found {w : World} {m clock : Nat} {es : Array MapEntry} {v : Value} (s : Int × Int) (hm : w.heap[m]? = some (.map es clock)) {j : Nat} (hs : ∀ w : World, (Instr.findKey 102 (keyV s) es.toList).run Tryd.prog w = .ok (some (j, v)) w) :
    (Instr.lookup 73 (.map (some m)) (keyV s) true).run Tryd.prog w = .ok (.tuple #[v, .bool true]) w := by
  simp [Instr.lookup, Sem.run_bind, run_underlying undMarks, MapKept.run_getObj_map hm, check_spot, hs w]
theorem update_marks {w : World} {m clock : Nat} {es : Array MapEntry} (s : Int × Int) (v : Value) (hm : w.heap[m]? = some (.map es clock)) (h : Missing s es) :
    (Instr.mapUpdate 73 (.map (some m)) (keyV s) v).run Tryd.prog w = .ok () { w with heap := w.heap.setIfInBounds m (.map (es.push { key := keyV s, val := v, born := clock }) (clock + 1)) } := by
  simp [Instr.mapUpdate, Sem.run_bind, run_underlying undMarks, MapKept.run_getObj_map hm, check_spot, h w, MapKept.run_setObj_map _ hm]
theorem Cached.push {M : Int × Int → Nat → Bool} {es : Array MapEntry} (h : Cached M es) (s : Int × Int) (n : Nat) : Cached M (es.push { key := keyV s, val := .agg (rv (M s)), born := n }) := by
  intro e he
  simp only [Array.toList_push, List.mem_append, List.mem_singleton] at he
  rcases he with he | rfl
  · exact h e he
  · exact ⟨s, rfl, rfl⟩
/-- The columns that a knot at a spot has in the turns before one. -/
def PL.markTo (l : PL) (s : Int × Int) (k : Nat) : Nat → Bool := fun i => (List.range k).any fun t => decide (s.2 ≤ t) && decide (l.col t s.1 = i)
def PL.mark (l : PL) (s : Int × Int) : Nat → Bool := l.markTo s l.long.length
theorem markTo_first (l : PL) (s : Int × Int) (k : Nat) (hk : (k : Int) ≤ s.2) : l.markTo s k = none72 := by
  funext i
  unfold PL.markTo none72
  rw [List.any_eq_false]
  intro t ht
  simp at ht
  simp
  omega
theorem markTo_succ (l : PL) (s : Int × Int) (k : Nat) (hk : s.2 ≤ k) (i : Nat) : l.markTo s (k + 1) i = if l.col k s.1 = i then true else l.markTo s k i := by
  unfold PL.markTo
  rw [List.range_succ, List.any_append]
  by_cases h : l.col k s.1 = i <;> simp [h, hk]
/-- The marks that are kept lie in memory. -/
def MarksAt (l : PL) (m : Nat) (w : World) : Prop := ∃ es clock, w.heap[m]? = some (.map es clock) ∧ Cached l.mark es
theorem MarksAt.below {l : PL} {m : Nat} {w w1 : World} (h : MarksAt l m w) (hb : Below w.heap.size w w1) : MarksAt l m w1 := by
  obtain ⟨es, clock, h1, h2⟩ := h
  exact ⟨es, clock, (hb.block m (Array.getElem?_eq_some_iff.1 h1).1).trans h1, h2⟩
end Go.Proofs.YtigofgdmefobaaaDoor.Peel

/- Walks of package peel: mark. -/
set_option linter.unusedVariables false
set_option linter.unusedSimpArgs false
namespace Go.Proofs.YtigofgdmefobaaaDoor.Peel
open Go.RowKit Go.Proofs.YtigofgdmefobaaaDoor.Iter

theorem blk_set' {w : World} {g : Nat} {t : TypeId} {cs : Array Value} (h : w.heap[g]? = some (.cells cs t (0, 0))) (i : Nat) (u : Value) : (w.setCell ⟨g, i, none⟩ u).heap[g]? = some (.cells (cs.setIfInBounds i u) t (0, 0)) := by
  simp [World.setCell, Array.getElem?_modify, h]
/-- Only what lies in block m, of what lay before, has been turned. -/
abbrev Turned (m : Nat) (w w1 : World) : Prop := Stays (fun b => b = m) w w1
theorem turned_below {m : Nat} {w w1 w2 : World} (h : Below w.heap.size w w1) (k : Turned m w1 w2) : Turned m w w2 := (Stays.of_below h).trans k
set_option maxHeartbeats 2000000 in
theorem mark_any {w : World} {l : PL} {a : Addr} {B : Option Addr} {c d m : Nat} (h : LogAt w l a B c d) (s1 s2 : Int) (h1 : 0 ≤ s1) (h2 : s1 ≤ 23) (h3 : 0 ≤ s2) (h4 : s2 ≤ l.long.length) (hm : MarksAt l m w) :
    Calls Tryd.prog 89 #[.agg #[.slice (some a) l.long.length c, .int .i64 l.size, .slice B l.knots.length d, .map (some m)], .agg #[.int .i64 s1, .int .i64 s2]] w fun e w' => e = .returned (.agg (rv (l.mark (s1, s2)))) ∧ Turned m w w' ∧ MarksAt l m w' := by
  obtain ⟨es, clock, hm0, hc⟩ := hm
  have hm00 := hm0
  have hmlt : m < w.heap.size := (Array.getElem?_eq_some_iff.1 hm0).1
  have hB := (((Below.refl _ w).alloc (Nat.le_refl _) (.cells #[.slice (some a) l.long.length c, .int .i64 l.size, .slice B l.knots.length d, .map (some m)] 75)).alloc (by simp) (.cells #[.int .i64 s1, .int .i64 s2] 102)).alloc (by simp; omega) (.cells (rv none72) 86)
  have hm1 := (hB.block m hmlt).trans hm0
  rcases findKey_spot (s1, s2) es hc with hs | ⟨j, hs⟩
  · have hr := lookup_missing (s1, s2) hm1 hs
    dsimp only [keyV] at hr
    have HC := Lib.hid hc
    have HS := Lib.hid hs
    have HM := Lib.hid hm00
    have H := Lib.hid h
    have hlen := h.ok.turns
    clear h hs hB hc hm1 hm0 hm00
    go_enter Tryd.func89, Tryd.ntmps89
    go_upto_region 4 with (first | ((with_reducible refine gate_alloc 86 rfl ?_); refine ev_alloc_rib rfl rfl ?_) | ((with_reducible refine gate_load 86 rfl ?_); refine ev_load_rib rfl _ rfl _ rfl none72 (by exact rowt_) ?_) | ((with_reducible refine gate_store 86 rfl ?_); refine ev_store_rib rfl rfl _ _ rfl _ rfl none72 none72 rfl (by exact rowt_) ?_))
    clear hr
    -- the world behind the look-up
    generalize hW5 : ((((w.alloc (.cells #[.slice (some a) l.long.length c, .int .i64 l.size, .slice B l.knots.length d, .map (some m)] 75)).alloc (.cells #[.int .i64 s1, .int .i64 s2] 102)).alloc (.cells (rv none72) 86)).alloc (.cells (rv none72) 86)).setRow (w.heap.size + 1 + 1 + 1) (rv none72) = W5
    have hb5 : Below w.heap.size w W5 := by rw [← hW5]; exact ((((Below.refl _ w).alloc (Nat.le_refl _) _).alloc (by simp) _).alloc (by simp; omega) _).alloc (by simp; omega) _ |>.trans ((only_setRow _ _ _).below (by omega))
    have z5 : W5.heap.size = w.heap.size + 4 := by rw [← hW5]; simp
    have r0 : W5.heap[w.heap.size]? = some (.cells #[.slice (some a) l.long.length c, .int .i64 l.size, .slice B l.knots.length d, .map (some m)] 75 (0, 0)) := by rw [← hW5]; exact rowt_
    have r1 : W5.heap[w.heap.size + 1]? = some (.cells #[.int .i64 s1, .int .i64 s2] 102 (0, 0)) := by rw [← hW5]; exact rowt_
    have r2 : W5.heap[w.heap.size + 1 + 1]? = some (.cells (rv none72) 86 (0, 0)) := by rw [← hW5]; exact rowt_
    have H5 := Lib.hid hb5
    clear hW5 hb5
    go_wp2_with fail
    refine (clean_any W5).mono ?_
    rintro e w6 ⟨rfl, hb6⟩
    have z6 := hb6.size
    have p0 := row_below hb6 r0 (by omega)
    have p1 := row_below hb6 r1 (by omega)
    have p2 := row_below hb6 r2 (by omega)
    have H6 := Lib.hid (bb H5.out hb6)
    clear hb6 r0 r1 r2
    go_upto_region 5 with (first | ((with_reducible refine gate_alloc 86 rfl ?_); refine ev_alloc_rib rfl rfl ?_) | ((with_reducible refine gate_store 86 rfl ?_); refine ev_store_rib rfl rfl _ _ rfl _ rfl none72 none72 rfl (by exact rowt_) ?_))
    have hal : Below w6.heap.size w6 ((w6.alloc (.cells (rv none72) 86)).setRow w6.heap.size (rv none72)) := ((Below.refl _ w6).alloc (Nat.le_refl _) _).trans ((only_setRow _ _ _).below (Nat.le_refl _))
    have s0 := cell_row' (i := 1) (row_below hal p1 (by omega)) rfl
    have g0 : ((w6.alloc (.cells (rv none72) 86)).setRow w6.heap.size (rv none72)).heap[w6.heap.size]? = some (.cells (rv none72) 86 (0, 0)) := by exact rowt_
    obtain ⟨u, rfl⟩ := Int.eq_ofNat_of_zero_le h3
    have G0 := Lib.hid g0
    have HAL := Lib.hid hal
    clear g0 hal
    go_wp2_with fail
    go_loopw [8] (fun p wr => ∃ k : Nat, p = .int .i64 k ∧ u ≤ k ∧ k ≤ l.long.length ∧ wr.heap[w6.heap.size]? = some (.cells (rv (l.markTo (s1, u) k)) 86 (0, 0)) ∧ Below w6.heap.size w6 wr)
      (fun p _ => l.long.length - (intOf p).toNat)
    case atStart => exact ⟨u, rfl, Nat.le_refl _, by omega, by rw [markTo_first l (s1, (u : Int)) u (Int.le_refl _)]; exact G0.out, HAL.out⟩
    case round =>
      obtain ⟨k, rfl, hk1, hk2, hrow, hbr⟩ := hrel
      have q0 := row_below hbr p0 (by omega)
      have q1 := row_below hbr p1 (by omega)
      have q2 := row_below hbr p2 (by omega)
      have c0 := cell_row' (i := 0) q0 rfl
      have c1 := cell_row' (i := 1) q0 rfl
      have c2 := cell_row' (i := 2) q0 rfl
      have c3 := cell_row' (i := 3) q0 rfl
      have d0 := cell_row' (i := 0) q1 rfl
      have d1 := cell_row' (i := 1) q1 rfl
      have HQ := Lib.hid q0
      have HROW := Lib.hid hrow
      have HBR := Lib.hid hbr
      have zr := hbr.size
      clear hrow hbr
      by_cases hlt : k < l.long.length
      · have hcol := col_all (H.out.ok) k s1 hlt h1 h2
        have hall := all_bd (H.out.ok)
        have HSU := Lib.hid (markTo_succ l (s1, (u : Int)) k (by simpa using hk1))
        clear q0 q1
        go_wp2_with fail
        refine (column_any m (H.out.below (bb H6.out HBR.out)) (k : Int) s1 (by omega) (by omega) h1 h2).mono ?_
        rintro e w7 ⟨rfl, hb7⟩
        simp only [Int.toNat_natCast]
        have hw7 := Lib.hid (row_below hb7 HROW.out (Array.getElem?_eq_some_iff.1 HROW.out).1)
        have HB7 := Lib.hid hb7
        have z7 := hb7.size
        clear hb7
        obtain ⟨cc, hcc⟩ := Int.eq_ofNat_of_zero_le hcol.1
        simp only [hcc] at hcol HSU ⊢
        have hlt7 : cc < 72 := by omega
        have x0 : w7.cell? ⟨w6.heap.size, cc, none⟩ = some (.bool (l.markTo (s1, (u : Int)) k cc)) := cell_row' hw7.out (rv_get _ cc hlt7)
        have x1 : w7.frozen? ⟨w6.heap.size, cc, none⟩ = false := frozen_of_row w7 w6.heap.size cc _ _ hw7.out
        have hc72 : (cc : Int) < 72 := by omega
        have hc0 : (0 : Int) ≤ (cc : Int) := by omega
        clear c0 c1 c2 c3 d0 d1
        go_wp2_with fail
        refine ⟨⟨k + 1, by go_num, by omega, by omega, ?_, ((HBR.out.trans (HB7.out.mono zr)).setCell (Nat.le_refl _) _)⟩, by simp [intOf]; omega⟩
        rw [blk_set' hw7.out cc (.bool true), rv_set]
        congr 2
        refine rv_congr fun i hi => ?_
        rw [HSU.out i]
        by_cases hic : i = cc
        · subst hic; simp
        · have : ¬ (cc : Int) = (i : Int) := by omega
          simp [hic, this]
      · obtain rfl : k = l.long.length := by omega
        have hmw : wr.heap[m]? = some (.map es clock) := row_below HBR.out (row_below H6.out HM.out hmlt) (by have := H6.out.size; omega)
        have hup := update_marks (s1, (u : Int)) (.agg (rv (l.markTo (s1, (u : Int)) l.long.length))) hmw HS.out
        dsimp only [keyV] at hup
        have hrow := HROW.out
        obtain ⟨W8, hW8⟩ : ∃ W8 : World, W8 = wr.putObj m (.map (es.push { key := keyV (s1, (u : Int)), val := .agg (rv (l.markTo (s1, (u : Int)) l.long.length)), born := clock }) (clock + 1)) := ⟨_, rfl⟩
        have hup' : (Instr.mapUpdate 73 (.map (some m)) (.agg #[.int .i64 s1, .int .i64 u]) (.agg (rv (l.markTo (s1, (u : Int)) l.long.length)))).run Tryd.prog wr = .ok () W8 := by rw [hW8]; exact hup
        have o7 : W8.heap[w6.heap.size]? = some (.cells (rv (l.markTo (s1, (u : Int)) l.long.length)) 86 (0, 0)) := by rw [hW8]; exact (World.putObj_heap_other (by have := H6.out.size; omega)).trans hrow
        have o2 : W8.heap[w.heap.size + 1 + 1]? = some (.cells (rv none72) 86 (0, 0)) := by rw [hW8]; exact (World.putObj_heap_other (by omega)).trans q2
        have om : W8.heap[m]? = some (.map (es.push { key := keyV (s1, (u : Int)), val := .agg (rv (l.markTo (s1, (u : Int)) l.long.length)), born := clock }) (clock + 1)) := by rw [hW8]; exact World.putObj_heap_same (by have := H6.out.size; omega)
        have hst : Turned m w W8 := by
          rw [hW8]
          exact (turned_below (H6.out.trans (HBR.out.mono (H6.out.size))) (stays_putObj _ _ _ rfl))
        have HST := Lib.hid hst
        have HOM := Lib.hid om
        have HWR := Lib.hid hW8
        clear hW8 hup hmw q0 q1 q2 hst om
        go_wp2_with (first | ((with_reducible refine gate_load 86 rfl ?_); refine ev_load_rib rfl _ rfl _ rfl (l.markTo (s1, (u : Int)) l.long.length) (by exact rowt_) ?_) | ((with_reducible refine gate_store 86 rfl ?_); refine ev_store_rib rfl rfl _ _ rfl _ rfl none72 (l.markTo (s1, (u : Int)) l.long.length) rfl (by exact rowt_) ?_))
        have hg : (W8.setRow (w.heap.size + 1 + 1) (rv (l.markTo (s1, (u : Int)) l.long.length))).heap[w.heap.size + 1 + 1]? = some (.cells (rv (l.markTo (s1, (u : Int)) l.long.length)) 86 (0, 0)) := by exact rowt_
        have hmz : m < W8.heap.size := (Array.getElem?_eq_some_iff.1 HOM.out).1
        refine bodyPost_ret (results_cell_row rfl _ _ _ _ _ _ _ rfl hg undRib rfl (by rw [rv_size]; exact sizeRib)) rfl ⟨rfl, ?_, ?_⟩
        · have := HST.out.ext.size
          refine ⟨HST.out.ext.trans (Ext.below ((only_setRow _ _ _).below (Nat.zero_le _))), fun b hb hne => ?_⟩
          exact (setRow_other _ _ _ _ (by omega)).trans (HST.out.block b hb hne)
        · exact ⟨_, _, row_diff HOM.out (by omega), HC.out.push (s1, (u : Int)) clock⟩
  · have hr := lookup_found (s1, s2) hm1 hs
    dsimp only [keyV] at hr
    have HC := Lib.hid hc
    have HB := Lib.hid hB
    have HM := Lib.hid hm00
    clear h hs hB hc hm1 hm0 hmlt hm00
    go_enter Tryd.func89, Tryd.ntmps89
    go_upto_region 1 with (first | ((with_reducible refine gate_alloc 86 rfl ?_); refine ev_alloc_rib rfl rfl ?_))
    go_wp2_with (first | ((with_reducible refine gate_alloc 86 rfl ?_); refine ev_alloc_rib rfl rfl ?_) | ((with_reducible refine gate_load 86 rfl ?_); refine ev_load_rib rfl _ rfl _ rfl (l.mark (s1, s2)) (by exact rowt_) ?_) | ((with_reducible refine gate_store 86 rfl ?_); refine ev_store_rib rfl rfl _ _ rfl _ rfl none72 (l.mark (s1, s2)) rfl (by exact rowt_) ?_))
    have hb5 : Below w.heap.size w (((((((w.alloc (.cells #[.slice (some a) l.long.length c, .int .i64 l.size, .slice B l.knots.length d, .map (some m)] 75)).alloc (.cells #[.int .i64 s1, .int .i64 s2] 102)).alloc (.cells (rv none72) 86)).alloc (.cells (rv none72) 86)).setRow (w.heap.size + 1 + 1 + 1) (rv (l.mark (s1, s2)))).setRow (w.heap.size + 1 + 1) (rv (l.mark (s1, s2))))) :=
      (((HB.out.alloc (HB.out.size) _).trans ((only_setRow _ _ _).below (by omega))).trans ((only_setRow _ _ _).below (by omega)))
    exact bodyPost_ret (results_cell_row rfl _ _ _ _ _ _ _ rfl (by exact rowt_) undRib rfl (by rw [rv_size]; exact sizeRib)) rfl ⟨rfl, Stays.of_below hb5, (MarksAt.below ⟨es, clock, HM.out, HC.out⟩ hb5)⟩
end Go.Proofs.YtigofgdmefobaaaDoor.Peel

/- The arms of ribbons within a fence (the body of a loop over a function). -/
set_option linter.unusedVariables false
set_option linter.unusedSimpArgs false
namespace Go.Proofs.YtigofgdmefobaaaDoor.Peel
open Go.RowKit
section
variable {F : Fence} {n : Nat} {ops : Array Oper} {rest : List Oper} {o : Oper} {a : Act} {Q : Exit → Act → World → Prop} {W : World}
theorem gate_load_in (T : TypeId) {x : Operand} (_ho : o.op = .load T x) (h : wpListIn F n Tryd.prog ops Q (o :: rest) a W) : wpListIn F n Tryd.prog ops Q (o :: rest) a W := h
theorem gate_store_in (T : TypeId) {p x : Operand} (_ho : o.op = .store T p x) (h : wpListIn F n Tryd.prog ops Q (o :: rest) a W) : wpListIn F n Tryd.prog ops Q (o :: rest) a W := h
theorem gate_alloc_in (T : TypeId) (_ho : o.op = .alloc T) (h : wpListIn F n Tryd.prog ops Q (o :: rest) a W) : wpListIn F n Tryd.prog ops Q (o :: rest) a W := h
/-- An array of a ribbon is made. -/
theorem ev_alloc_rib_in (hgd : o.guard = none) (ho : o.op = .alloc 86)
    (h : wpListIn F n Tryd.prog ops Q rest (a.put o.dst (.pointer (some ⟨W.heap.size, 0, none⟩))) (W.alloc (.cells (rv none72) 86))) : wpListIn F n Tryd.prog ops Q (o :: rest) a W := by
  refine wpListIn_plain hgd fun K hK => ?_
  have hr : (Instr.alloc 86 true (.tuple #[])).run Tryd.prog W = .ok (.pointer (some ⟨W.heap.size, 0, none⟩)) (W.alloc (.cells (rv none72) 86)) := by
    simp [Instr.alloc, Sem.run_bind, zeroRib, newVar, newRow, Value.cells, run_newObj_alloc, zeroCells]
  unfold Oper.wpIn
  refine ⟨by simp [Oper.about, ho], ?_⟩
  rw [Oper.semAt_plain F _ _ (by rw [ho]; intro c hc'; cases hc')]
  unfold execOp
  simp only [ho, Sem.run_bind, Sem.run_pure, Result.andThen_ok, hr]
  exact hK _ _ h
theorem ev_load_rib_in (hgd : o.guard = none) (x : Operand) (ho : o.op = .load 86 x) (g : Nat) (hx : a.eval x = .pointer (some ⟨g, 0, none⟩)) (r : Nat → Bool)
    (hg : W.heap[g]? = some (.cells (rv r) 86 (0, 0)))
    (h : wpListIn F n Tryd.prog ops Q rest (a.put o.dst (.agg (rv r))) W) : wpListIn F n Tryd.prog ops Q (o :: rest) a W := by
  refine wpListIn_plain hgd fun K hK => ?_
  unfold Oper.wpIn
  refine ⟨by simp [Oper.about, ho], ?_⟩
  rw [Oper.semAt_plain F _ _ (by rw [ho]; intro c hc'; cases hc')]
  unfold execOp
  simp only [ho, hx, Sem.run_bind, Sem.run_pure, Result.andThen_ok, load_rib hg]
  exact hK _ _ h
theorem ev_store_rib_in (hgd : o.guard = none) (hd : o.dst = none) (p x : Operand) (ho : o.op = .store 86 p x) (g : Nat) (hp : a.eval p = .pointer (some ⟨g, 0, none⟩)) (r s : Nat → Bool)
    (hx : a.eval x = .agg (rv s)) (hg : W.heap[g]? = some (.cells (rv r) 86 (0, 0)))
    (h : wpListIn F n Tryd.prog ops Q rest a (W.setRow g (rv s))) : wpListIn F n Tryd.prog ops Q (o :: rest) a W := by
  refine wpListIn_plain hgd fun K hK => ?_
  unfold Oper.wpIn
  refine ⟨by simp [Oper.about, ho], ?_⟩
  rw [Oper.semAt_plain F _ _ (by rw [ho]; intro c hc'; cases hc')]
  unfold execOp
  simp only [ho, hp, hx, Sem.run_bind, Sem.run_pure, Result.andThen_ok, store_rib (s := s) hg]
  show K (a.put o.dst undef) _
  rw [hd]
  exact hK _ _ h
end
end Go.Proofs.YtigofgdmefobaaaDoor.Peel

/- Walks of package peel: whole pieces, and the best cutting for known columns. -/
set_option linter.unusedVariables false
set_option linter.unusedSimpArgs false
namespace Go.Proofs.YtigofgdmefobaaaDoor.Peel
open Go.RowKit

/-- Is the piece from a column on whole? -/
def PL.free (l : PL) (r : Nat → Bool) (c : Nat) : Bool := (List.range l.size.toNat).all fun i => !r (c + i)
set_option maxHeartbeats 2000000 in
theorem isWhole_any {w : World} {l : PL} {a : Addr} {B : Option Addr} {c d : Nat} (m : Nat) (h1 : 1 ≤ l.size) (h6 : l.size ≤ 6) (r : Nat → Bool) (x : Nat) (hx : (x : Int) + l.size ≤ 72) :
    Calls Tryd.prog 92 #[.agg #[.slice (some a) l.long.length c, .int .i64 l.size, .slice B l.knots.length d, .map (some m)], .agg (rv r), .int .i64 x] w fun e w' => e = .returned (.bool (l.free r x)) ∧ Below w.heap.size w w' := by
  have hb := ((Below.refl _ w).alloc (Nat.le_refl _) (.cells #[.slice (some a) l.long.length c, .int .i64 l.size, .slice B l.knots.length d, .map (some m)] 75)).alloc (by simp) (.cells (rv r) 86)
  have HB := Lib.hid hb
  have hrow : ((w.alloc (.cells #[.slice (some a) l.long.length c, .int .i64 l.size, .slice B l.knots.length d, .map (some m)] 75)).alloc (.cells (rv r) 86)).heap[w.heap.size + 1]? = some (.cells (rv r) 86 (0, 0)) := by exact rowt_
  have HR := Lib.hid hrow
  clear hb hrow
  obtain ⟨n, hn⟩ := Int.eq_ofNat_of_zero_le (show 0 ≤ l.size by omega)
  have HN := Lib.hid (show l.free r x = (List.range n).all (fun i => !r (x + i)) by unfold PL.free; rw [hn]; rfl)
  rw [HN.out]
  rw [hn] at hx h1 h6 HB HR ⊢
  have hx' : x + n ≤ 72 := by omega
  have hx2 : (x : Int) + n ≤ 72 := hx
  have hx3 : (0 : Int) ≤ x := by omega
  have hx4 : (x : Int) ≤ x + n := by omega
  go_enter Tryd.func92, Tryd.ntmps92
  go_wp2_with (first | ((with_reducible refine gate_box 86 rfl ?_); refine ev_box_rib rfl _ rfl r rfl ?_))
  go_loop [17] (fun i => ∃ k : Nat, i = .int .i64 k ∧ k ≤ n ∧ (List.range k).all (fun j => !r (x + j)) = true) (fun i => n - (intOf i).toNat)
  case atStart => exact ⟨0, rfl, Nat.zero_le _, by simp⟩
  case round =>
    obtain ⟨k, rfl, hk, hall⟩ := hrel
    by_cases hlt : k < n
    · have e0 := (cell_of_row _ _ (x + k) _ _ (0, 0) HR.out).trans (rv_get r (x + k) (by omega))

      have HS := Lib.hid (show (List.range (k + 1)).all (fun j => !r (x + j)) = ((List.range k).all (fun j => !r (x + j)) && !r (x + k)) by rw [List.range_succ]; simp [List.all_append])
      cases hb : r (x + k)
      · rw [hb] at e0 HS
        go_wp2_with fail
        go_round
        case rel => exact ⟨k + 1, by go_num, by omega, by rw [HS.out, hall]; rfl⟩
        case measure => simp [intOf]; omega
      · rw [hb] at e0
        have hfa : (List.range n).all (fun j => !r (x + j)) = false := by
          rw [List.all_eq_false]
          exact ⟨k, by simp [hlt], by simp [hb]⟩
        have HF := Lib.hid hfa
        clear hfa hall
        go_wp2_with fail
        go_ret
        exact ⟨by rw [HF.out]; rfl, HB.out⟩
    · obtain rfl : k = n := by omega
      have HF := Lib.hid hall
      clear hall
      go_wp2_with fail
      go_ret
      exact ⟨by rw [HF.out]; rfl, HB.out⟩
end Go.Proofs.YtigofgdmefobaaaDoor.Peel

/- Walks of package peel: counting whole pieces; greatest. -/
set_option linter.unusedVariables false
set_option linter.unusedSimpArgs false
namespace Go.Proofs.YtigofgdmefobaaaDoor.Peel
open Go.RowKit

/-- A counter of whole pieces. -/
structure CounterAt (w : World) (l : PL) (a : Addr) (B : Option Addr) (c d m : Nat) (r : Nat → Bool) (bi br : Nat) : Prop where
  f : w.cell? ⟨bi, 0, none⟩ = some (.func (.func 92) #[.agg #[.slice (some a) l.long.length c, .int .i64 l.size, .slice B l.knots.length d, .map (some m)]] #[])
  r : w.heap[br]? = some (.cells (rv r) 86 (0, 0))
theorem CounterAt.below {w w1 : World} {l : PL} {a : Addr} {B : Option Addr} {c d m : Nat} {r : Nat → Bool} {bi br : Nat} (h : CounterAt w l a B c d m r bi br) (hb : Below w.heap.size w w1) : CounterAt w1 l a B c d m r bi br :=
  ⟨cell_below hb h.f, (hb.block br (Array.getElem?_eq_some_iff.1 h.r).1).trans h.r⟩
abbrev counterV (bi br : Nat) : Value := .agg #[.func (.func 93) #[] #[.pointer (some ⟨bi, 0, none⟩), .pointer (some ⟨br, 0, none⟩)]]
set_option maxHeartbeats 2000000 in
theorem whole_any {w : World} (l : PL) (a : Addr) (B : Option Addr) (c d : Nat) (m : Nat) (r : Nat → Bool) :
    Calls Tryd.prog 71 #[.agg #[.slice (some a) l.long.length c, .int .i64 l.size, .slice B l.knots.length d, .map (some m)], .agg (rv r)] w fun e w' => ∃ bi br, e = .returned (counterV bi br) ∧ Below w.heap.size w w' ∧ CounterAt w' l a B c d m r bi br := by
  go_enter Tryd.func71, Tryd.ntmps71
  go_wp2_with (first | ((with_reducible refine gate_box 86 rfl ?_); refine ev_box_rib rfl _ rfl r rfl ?_))
  refine bodyPost_ret (v := counterV (w.heap.size + 1 + 1 + 1) (w.heap.size + 1)) (by simp [results, Tryd.results71, go_sem]) rfl ?_
  exact ⟨_, _, rfl, (((((Below.refl _ w).alloc (Nat.le_refl _) _).alloc (by simp) _).alloc (by simp; omega) _).alloc (by simp; omega) _), cell_new' (by simp) rfl, by exact rowt_⟩
theorem whole1_any {w : World} {l : PL} {a : Addr} {B : Option Addr} {c d m : Nat} {r : Nat → Bool} {bi br : Nat} (h : CounterAt w l a B c d m r bi br) (h1 : 1 ≤ l.size) (h6 : l.size ≤ 6) (x : Nat) (hx : (x : Int) + l.size ≤ 72) :
    Calls Tryd.prog 93 #[.int .i64 x, .pointer (some ⟨bi, 0, none⟩), .pointer (some ⟨br, 0, none⟩)] w fun e w' => e = .returned (.bool (l.free r x)) ∧ Below w.heap.size w w' := by
  obtain ⟨hf, hr⟩ := h
  go_enter Tryd.func93, Tryd.ntmps93
  go_wp2_with (first | ((with_reducible refine gate_load 86 rfl ?_); refine ev_load_rib rfl _ rfl _ rfl r (by exact rowt_) ?_))
  refine (isWhole_any m h1 h6 r x hx).mono ?_
  rintro e w' ⟨rfl, hb'⟩
  go_wp2_with fail
  go_ret
  exact ⟨rfl, hb'⟩
/-- How many pieces of a cutting are whole. -/
def PL.count (l : PL) (r : Nat → Bool) (cs : List Int) : Int := ((cs.filter fun c => l.free r c.toNat).length : Nat)
theorem count_take (l : PL) (r : Nat → Bool) (cs : List Int) (k : Nat) (h : k < cs.length) : l.count r (cs.take (k + 1)) = l.count r (cs.take k) + if l.free r (cs.getD k 0).toNat then 1 else 0 := by
  unfold PL.count
  rw [List.take_succ_eq_append_getElem h, List.filter_append]
  have e : cs.getD k 0 = cs[k] := by simp [List.getD_eq_getElem?_getD, List.getElem?_eq_getElem h]
  rw [e]
  cases hf : l.free r (cs[k]).toNat <;> simp [hf]
theorem count_bd (l : PL) (r : Nat → Bool) (cs : List Int) : 0 ≤ l.count r cs ∧ l.count r cs ≤ cs.length := by
  unfold PL.count
  have := List.length_filter_le (fun c : Int => l.free r c.toNat) cs
  omega
theorem isCut_get (l : PL) (h1 : 1 ≤ l.size) : ∀ (cs : List Int) (b : Int), 0 ≤ b → l.isCut b cs = true → ∀ k, k < cs.length → b ≤ cs.getD k 0 ∧ cs.getD k 0 + l.size ≤ l.all := by
  intro cs
  induction cs with
  | nil => intro b _ _ k hk; simp at hk
  | cons c cs ih =>
    intro b hb h k hk
    simp [PL.isCut] at h
    obtain ⟨⟨h2, h3⟩, h4⟩ := h
    cases k with
    | zero => simp; omega
    | succ k =>
      have := ih (c + l.size) (by omega) h4 k (by simpa using hk)
      simp only [List.getD_cons_succ]
      omega
set_option maxHeartbeats 2000000 in
theorem count_any {w : World} {l : PL} {a : Addr} {B : Option Addr} {c d m : Nat} {r : Nat → Bool} {bi br : Nat} (h : CounterAt w l a B c d m r bi br) (h1 : 1 ≤ l.size) (h6 : l.size ≤ 6) {cs : List Int} {C : Option Addr} {n : Nat} (hC : CutAt w cs C n) (ha : l.all ≤ 72) (hcut : l.isCut 0 cs = true) :
    Calls Tryd.prog 73 #[counterV bi br, .slice C cs.length n] w fun e w' => e = .returned (.int .i64 (l.count r cs)) ∧ Below w.heap.size w w' := by
  have hn := hC.cap
  have hm := hC.len
  have HC := Lib.hid hC
  have HK := Lib.hid h
  have HCUT := Lib.hid hcut
  clear hC h hcut
  have hB := (Below.refl _ w).alloc (Nat.le_refl _) (.cells #[.func (.func 93) #[] #[.pointer (some ⟨bi, 0, none⟩), .pointer (some ⟨br, 0, none⟩)]] 92)
  go_enter Tryd.func73, Tryd.ntmps73
  go_wp2_with fail
  go_loopw [5, 10] (fun p q wr => ∃ k : Nat, q = .int .i64 k ∧ k ≤ cs.length ∧ p = .int .i64 (l.count r (cs.take k)) ∧ Below (w.heap.size + 1) (w.alloc (.cells #[.func (.func 93) #[] #[.pointer (some ⟨bi, 0, none⟩), .pointer (some ⟨br, 0, none⟩)]] 92)) wr)
    (fun _ q _ => cs.length - (intOf q).toNat)
  case atStart => exact ⟨0, rfl, Nat.zero_le _, by simp [PL.count], Below.refl _ _⟩
  case round =>
    obtain ⟨k, rfl, hk, rfl, hbr⟩ := hrel
    have hwr := hB.trans (hbr.mono (Nat.le_succ _))
    have hsz : w.heap.size ≤ wr.heap.size := hwr.size
    by_cases hlt : k < cs.length
    · obtain ⟨ca, rfl, hcell⟩ := (HC.out.below hwr).at_ k hlt
      have hx := isCut_get l h1 cs 0 (Int.le_refl _) HCUT.out k hlt
      have HT := Lib.hid (count_take l r cs k hlt)
      have hbd := count_bd l r (cs.take k)
      have hlen : (cs.take k).length = k := by simp; omega
      rw [hlen] at hbd
      have q0 : wr.cell? ⟨w.heap.size, 0, none⟩ = some (.func (.func 93) #[] #[.pointer (some ⟨bi, 0, none⟩), .pointer (some ⟨br, 0, none⟩)]) := (box_cell hbr 0).trans rfl
      have HBR := Lib.hid hbr
      have HWR := Lib.hid hwr
      clear hbr hwr
      generalize cs.getD k 0 = x at *
      obtain ⟨x, rfl⟩ := Int.eq_ofNat_of_zero_le hx.1
      go_wp2_with fail
      refine (whole1_any (HK.out.below HWR.out) h1 h6 x (by omega)).mono ?_
      rintro e w' ⟨rfl, hb'⟩
      have HB' := Lib.hid hb'
      clear hb'
      simp only [Int.toNat_natCast] at HT
      cases hf : l.free r x
      · simp only [hf] at HT
        go_wp2_with fail
        go_roundw
        case rel => exact ⟨k + 1, by go_num, by omega, by rw [HT.out]; simp, HBR.out.trans (HB'.out.mono (by have := HBR.out.size; simpa using this))⟩
        case measure => simp [intOf]; omega
      · simp only [hf] at HT
        go_wp2_with fail
        go_roundw
        case rel => exact ⟨k + 1, by go_num, by omega, by rw [HT.out]; simp, HBR.out.trans (HB'.out.mono (by have := HBR.out.size; simpa using this))⟩
        case measure => simp [intOf]; omega
    · obtain rfl : k = cs.length := by omega
      go_wp2_with fail
      go_ret
      exact ⟨by simp, hwr⟩
set_option maxHeartbeats 1000000 in
/-- 'greatest(x, y)'. -/
theorem greatest_any {w : World} (x y : Int) {g : Nat} (h : w.cell? ⟨g, 0, none⟩ = some (.int .i64 y)) :
    Calls Tryd.prog 78 #[.int .i64 x, .slice (some ⟨g, 0, none⟩) 1 1] w fun e w' => e = .returned (.int .i64 (max x y)) ∧ w' = w := by
  have hlt := World.block_lt_of_cell? w _ h
  go_enter Tryd.func78, Tryd.ntmps78
  go_wp2_with fail
  go_loop [0, 9] (fun p q => ∃ k : Nat, q = .int .i64 k ∧ k ≤ 1 ∧ p = .int .i64 (if k = 0 then x else max x y)) (fun _ q => 1 - (intOf q).toNat)
  case atStart => exact ⟨0, rfl, by omega, by simp⟩
  case round =>
    obtain ⟨k, rfl, hk, rfl⟩ := hrel
    rcases Nat.lt_or_ge k 1 with h1 | h1
    · obtain rfl : k = 0 := by omega
      simp only [if_pos]
      go_wp2_with fail
      go_round
      case rel => exact ⟨1, by go_num, by omega, by simp; omega⟩
      case measure => simp [intOf]
    · obtain rfl : k = 1 := by omega
      go_wp2_with fail
      go_ret
      exact ⟨by simp, rfl⟩
end Go.Proofs.YtigofgdmefobaaaDoor.Peel

/- Walks of package peel: the best cutting, if some columns have a knot. -/
set_option linter.unusedVariables false
set_option linter.unusedSimpArgs false
namespace Go.Proofs.YtigofgdmefobaaaDoor.Peel
open Go.RowKit

/-- Each piece as soon as it can be. -/
def PL.cutF (l : PL) (r : Nat → Bool) : Nat → Nat → List Int
  | 0, _ => []
  | f + 1, c => if (c : Int) + l.size ≤ l.all then
      match (List.range l.size.toNat).find? (fun k => r (c + k)) with
      | some k => l.cutF r f (c + k + 1)
      | none => (c : Int) :: l.cutF r f (c + l.size.toNat)
    else []
def PL.cut (l : PL) (r : Nat → Bool) : List Int := l.cutF r 73 0
theorem cutF_fuel (l : PL) (h1 : 1 ≤ l.size) (ha : l.all ≤ 72) (r : Nat → Bool) : ∀ (f g c : Nat), 73 ≤ f + c → 73 ≤ g + c → l.cutF r f c = l.cutF r g c := by
  intro f
  induction f with
  | zero =>
    intro g c hf hg
    cases g with
    | zero => rfl
    | succ g =>
      have : ¬ ((c : Int) + l.size ≤ l.all) := by omega
      simp [PL.cutF, this]
  | succ f ih =>
    intro g c hf hg
    cases g with
    | zero =>
      have : ¬ ((c : Int) + l.size ≤ l.all) := by omega
      simp [PL.cutF, this]
    | succ g =>
      unfold PL.cutF
      by_cases hc : (c : Int) + l.size ≤ l.all
      · rw [if_pos hc, if_pos hc]
        cases hfind : (List.range l.size.toNat).find? (fun k => r (c + k)) with
        | none => simp only [ih g (c + l.size.toNat) (by omega) (by omega)]
        | some k => simp only [ih g (c + k + 1) (by omega) (by omega)]
      · rw [if_neg hc, if_neg hc]
theorem cutF_stop (l : PL) (r : Nat → Bool) (c : Nat) (f : Nat) (h : ¬ ((c : Int) + l.size ≤ l.all)) : l.cutF r f c = [] := by
  cases f with
  | zero => rfl
  | succ f => simp [PL.cutF, h]
theorem cutF_knot (l : PL) (h1 : 1 ≤ l.size) (ha : l.all ≤ 72) (r : Nat → Bool) (c k : Nat) (h : (c : Int) + l.size ≤ l.all) (hk : (k : Int) < l.size) (hfree : ∀ j, j < k → r (c + j) = false) (hr : r (c + k) = true) :
    l.cutF r (73 - c) c = l.cutF r (73 - (c + k + 1)) (c + k + 1) := by
  have hf : (List.range l.size.toNat).find? (fun k => r (c + k)) = some k := by
    rw [List.find?_eq_some_iff_append]
    refine ⟨hr, List.range k, (List.range' (k + 1) (l.size.toNat - k - 1)), ?_, ?_⟩
    · rw [List.range_eq_range', List.range_eq_range', show l.size.toNat = k + (1 + (l.size.toNat - k - 1)) by omega, ← List.range'_append_1]
      congr 1
      rw [← List.range'_append_1]
      simp
    · intro j hj
      simp [hfree j (by simpa using hj)]
  rw [show 73 - c = (72 - c) + 1 by omega]
  conv => lhs; unfold PL.cutF
  rw [if_pos h, hf]
  exact cutF_fuel l h1 ha r _ _ _ (by omega) (by omega)
theorem cutF_free (l : PL) (h1 : 1 ≤ l.size) (ha : l.all ≤ 72) (r : Nat → Bool) (c : Nat) (h : (c : Int) + l.size ≤ l.all) (hfree : ∀ j : Nat, (j : Int) < l.size → r (c + j) = false) :
    l.cutF r (73 - c) c = (c : Int) :: l.cutF r (73 - (c + l.size.toNat)) (c + l.size.toNat) := by
  have hf : (List.range l.size.toNat).find? (fun k => r (c + k)) = none := by
    rw [List.find?_eq_none]
    intro j hj
    simp at hj
    simp [hfree j (by omega)]
  rw [show 73 - c = (72 - c) + 1 by omega]
  conv => lhs; unfold PL.cutF
  rw [if_pos h, hf]
  simp only
  rw [cutF_fuel l h1 ha r _ (73 - (c + l.size.toNat)) _ (by omega) (by omega)]

theorem rv_rl (r : Nat → Bool) : (rl r).toArray = rv r := by unfold rv; rfl
theorem rangeAt_below {w w1 : World} {b o : Nat} {cs : List Value} (hb : Below w.heap.size w w1) (h : w.rangeAt b o cs) : w1.rangeAt b o cs := fun j v hv => cell_below hb (h j v hv)
theorem rangeAt_rib {w : World} {g : Nat} {r : Nat → Bool} (h : w.heap[g]? = some (.cells (rv r) 86 (0, 0))) : w.rangeAt g 0 (rl r) := fun j v hv => by
  rw [Nat.zero_add]
  refine cell_row' h ?_
  rw [← rv_rl]
  simpa using hv
theorem cutAt_of_owns {w : World} {base : Nat} {ao : Option Addr} {cv : Nat} {cs : List Int} (h : w.ownsRow base 3 1 (.slice ao cs.length cv) cs.length (cs.map (Value.int .i64))) (hl : cs.length ≤ 100) : CutAt w cs ao cv := by
  refine ⟨fun k hk => ?_, ?_, by omega⟩
  · rcases h.2 with ⟨h1, h2⟩ | ⟨g, cap, cur, h1, _⟩
    · omega
    · injection h1 with e1 e2 e3
      subst e1
      refine ⟨_, rfl, ?_⟩
      refine h.cells (g := g) rfl k _ ?_
      simp [List.getD_eq_getElem?_getD, List.getElem?_eq_getElem hk]
  · rcases h.2 with ⟨h1, h2⟩ | ⟨g, cap, cur, h1, _, _, h4, _⟩
    · injection h1 with e1 e2 e3
      omega
    · injection h1 with e1 e2 e3
      omega
theorem grown_of_below {w w1 : World} (h : Below w.heap.size w w1) : w.grownBy w1 none := ⟨h.os, h.tape, h.output, h.size, fun k hk _ => h.block k hk⟩
theorem owns_below {w w1 : World} {base : Nat} {e : TypeId} {size n : Nat} {v : Value} {xs : List Value} (hb : Below w.heap.size w w1) (h : w.ownsRow base e size v n xs) : w1.ownsRow base e size v n xs :=
  h.kept (grown_of_below hb) (by cases v.ownBlock <;> simp)
theorem cell_one_here (w : World) (v : Value) (t : TypeId) : ∀ j u, [v][j]? = some u → (w.alloc (.cells #[v] t)).cell? ((⟨w.heap.size, 0, none⟩ : Addr).add j) = some u := by
  intro j u h
  cases j with
  | zero =>
    simp at h
    subst h
    rw [add_zero]
    exact cell_new' rfl rfl
  | succ j => simp at h
/-- An operation is taken first: its number, its temporary and its value are told. -/
theorem held_take {md : Region.Mode} {ops : Array Oper} {Q : Exit → Act → World → Prop} {S : World → Prop} {fuel : Nat} {listed : Array Bool} {tm : Array Value} {ds : List Deferred} {w : World} (i d : Nat) (v : Value) {oi : Oper} (hi : ops[i]? = some oi) (hd : oi.dst = some d)
    (hs : Region.noSelect ops = true) (hf : Region.free md ops listed i = true) (hr : (Region.ready md ops listed).contains i = true)
    (hQ : ∀ c a w, Q (.panic c) (a.put oi.dst v) w → Q (.panic c) a w) (hy : YieldsIf Tryd.prog ops S oi v { tmps := tm, defers := ds }) (hS : S w)
    (h : wpAnyH Tryd.prog md ops Q S fuel (listed.setIfInBounds i true) { tmps := tm.setIfInBounds d v, defers := ds } w) : wpAnyH Tryd.prog md ops Q S (fuel + 1) listed { tmps := tm, defers := ds } w := by
  refine wpAnyH_take hi hs hf hr hQ hy hS ?_
  rw [hd]
  exact h
theorem infoInt : (Tryd.prog.info? 3).map (fun i => (i.zero, i.size, i.bytes)) = some (some (.int .i64 0), 1, 8) := by kernel_rfl
set_option maxRecDepth 8000 in
set_option maxHeartbeats 4000000 in
theorem cut_any {w : World} {l : PL} {a : Addr} {B : Option Addr} {c d : Nat} (m : Nat) (h : LogAt w l a B c d) (r : Nat → Bool) :
    Calls Tryd.prog 79 #[.agg #[.slice (some a) l.long.length c, .int .i64 l.size, .slice B l.knots.length d, .map (some m)], .agg (rv r)] w fun e w' => ∃ ao cv, e = .returned (.slice ao (l.cut r).length cv) ∧ Below w.heap.size w w' ∧ CutAt w' (l.cut r) ao cv ∧ ∀ x, ao = some x → w.heap.size ≤ x.block := by
  have h1 := h.ok.size1
  have h6 := h.ok.size6
  have ha := all_bd h.ok
  obtain ⟨i0, hi, hz0, hz1, hz2⟩ := info_parts infoInt
  have hundI := Tryd.underlying22
  have hB := ((Below.refl _ w).alloc (Nat.le_refl _) (.cells #[.slice (some a) l.long.length c, .int .i64 l.size, .slice B l.knots.length d, .map (some m)] 75)).alloc (by simp) (.cells (rv r) 86)
  have H := Lib.hid (h.below hB)
  have HB := Lib.hid hB
  clear h hB
  go_enter Tryd.func79, Tryd.ntmps79
  go_wp2_with (first | ((with_reducible refine gate_box 86 rfl ?_); refine ev_box_rib rfl _ rfl r rfl ?_))
  refine wp_scope_straight ?_
  go_upto_region 2 with (fail)
  have q0 : ((w.alloc (.cells #[.slice (some a) l.long.length c, .int .i64 l.size, .slice B l.knots.length d, .map (some m)] 75)).alloc (.cells (rv r) 86)).cell? ⟨w.heap.size, 0, none⟩ = some (.slice (some a) l.long.length c) := cell_row' (i := 0) (by exact rowt_) rfl
  have q1 : ((w.alloc (.cells #[.slice (some a) l.long.length c, .int .i64 l.size, .slice B l.knots.length d, .map (some m)] 75)).alloc (.cells (rv r) 86)).cell? ⟨w.heap.size, 1, none⟩ = some (.int .i64 l.size) := cell_row' (i := 1) (by exact rowt_) rfl
  have q2 : ((w.alloc (.cells #[.slice (some a) l.long.length c, .int .i64 l.size, .slice B l.knots.length d, .map (some m)] 75)).alloc (.cells (rv r) 86)).cell? ⟨w.heap.size, 2, none⟩ = some (.slice B l.knots.length d) := cell_row' (i := 2) (by exact rowt_) rfl
  have q3 : ((w.alloc (.cells #[.slice (some a) l.long.length c, .int .i64 l.size, .slice B l.knots.length d, .map (some m)] 75)).alloc (.cells (rv r) 86)).cell? ⟨w.heap.size, 3, none⟩ = some (.map (some m)) := cell_row' (i := 3) (by exact rowt_) rfl
  have rr : ((w.alloc (.cells #[.slice (some a) l.long.length c, .int .i64 l.size, .slice B l.knots.length d, .map (some m)] 75)).alloc (.cells (rv r) 86)).heap[w.heap.size + 1]? = some (.cells (rv r) 86 (0, 0)) := by exact rowt_
  have r0 : ((w.alloc (.cells #[.slice (some a) l.long.length c, .int .i64 l.size, .slice B l.knots.length d, .map (some m)] 75)).alloc (.cells (rv r) 86)).heap[w.heap.size]? = some (.cells #[.slice (some a) l.long.length c, .int .i64 l.size, .slice B l.knots.length d, .map (some m)] 75 (0, 0)) := by exact rowt_
  have z2 : ((w.alloc (.cells #[.slice (some a) l.long.length c, .int .i64 l.size, .slice B l.knots.length d, .map (some m)] 75)).alloc (.cells (rv r) 86)).heap.size = w.heap.size + 2 := by simp
  generalize ((w.alloc (.cells #[.slice (some a) l.long.length c, .int .i64 l.size, .slice B l.knots.length d, .map (some m)] 75)).alloc (.cells (rv r) 86)) = W2 at *
  have R0 := Lib.hid r0
  have RR := Lib.hid rr
  have hw1 : IntKind.i64.wrap (l.all - l.size) = l.all - l.size := IntWalk.i64_in _ (by omega)
  clear r0 rr
  go_region_held3 (fun w' => w'.cell? ⟨w.heap.size, 0, none⟩ = some (.slice (some a) l.long.length c) ∧ w'.cell? ⟨w.heap.size, 1, none⟩ = some (.int .i64 l.size) ∧ w'.cell? ⟨w.heap.size, 2, none⟩ = some (.slice B l.knots.length d) ∧ w'.cell? ⟨w.heap.size, 3, none⟩ = some (.map (some m)))
    (first | go_keep | (go_split_ands; refine ⟨?_, ?_, ?_, ?_⟩ <;> exact cell_below hb' (by assumption)))
    ((go_at_call 58; refine (columns_any m (H.out.below (by exact (Below.refl _ _).drew))).mono ?_; rintro e w3 ⟨rfl, hb'⟩))
  have hb3 : Below W2.heap.size W2 w3 := (Below.refl _ W2).drew.trans hb'
  have z3 : w.heap.size + 2 ≤ w3.heap.size := by have := hb3.size; omega
  have R3 := Lib.hid (row_below hb3 R0.out (by omega))
  have RR3 := Lib.hid (row_below hb3 RR.out (by omega))
  have HB3 := Lib.hid (bb HB.out hb3)
  have hsame : ∀ i, i < 72 → same72 r none72 = true → r i = false := fun i hi h => by rw [(same72_iff r none72).1 h i hi]; rfl
  have HS := Lib.hid hsame
  clear hb3 q0 q1 q2 q3 R0 RR HB hsame z2 hw1
  have HC0 := Lib.hid (show [] ++ l.cutF r (73 - 0) 0 = l.cut r from rfl)
  go_wp2_with fail
  refine wp_label ?_
  go_wp2_with fail
  go_loopw [5, 7] (fun v p wr => ∃ (c : Nat) (pre : List Int) (ao : Option Addr) (cv : Nat), p = .int .i64 c ∧ c ≤ 72 ∧ pre.length ≤ c ∧ v = .slice ao pre.length cv ∧ wr.ownsRow (w.heap.size + 2) 3 1 v pre.length (pre.map (Value.int .i64)) ∧ Below (w.heap.size + 2) w3 wr ∧ pre ++ l.cutF r (73 - c) c = l.cut r)
    (fun _ p _ => 72 - (intOf p).toNat)
  case atStart => exact ⟨0, [], none, 0, rfl, by omega, by simp, rfl, World.ownsRow_nil _ _ _ _, Below.refl _ _, HC0.out⟩
  case round =>
    obtain ⟨x, pre, ao, cv, rfl, hx, hpre, rfl, hown, hbr, hcut⟩ := hrel
    have HO := Lib.hid hown
    have HBR := Lib.hid hbr
    have HCUT := Lib.hid hcut
    have zr := hbr.size
    have rl0 := row_below hbr R3.out (by omega)
    have rr0 := row_below hbr RR3.out (by omega)
    have c1 : wr.cell? ⟨w.heap.size, 1, none⟩ = some (.int .i64 l.size) := cell_row' rl0 rfl
    clear hown hbr hcut
    by_cases hle : (x : Int) ≤ l.all - l.size
    · have hw2 : (x : Int) + l.size ≤ l.all := by omega
      go_wp2_with fail
      have hbw : Below w.heap.size w wr := HB3.out.trans (HBR.out.mono (by omega))
      have HBW := Lib.hid hbw
      have RLW := Lib.hid rl0
      have RRW := Lib.hid rr0
      have hneq : ∀ w : World, (Op.equalIn 10000 86 (.agg (rl r).toArray) (.agg (rv none72))).run Tryd.prog w = .ok (same72 r none72) w := fun w => by rw [rv_rl]; exact equal_rib r none72
      have hundR := undRib
      have hsizR : (Tryd.prog.info? 86).map (·.size) = some (rl r).length := by rw [rl_length]; exact sizeRib
      clear rl0 rr0 hbw c1
      go_loopw [7, 21] (fun q p wi => q = .int .i64 x ∧ ∃ k : Nat, p = .int .i64 k ∧ (k : Int) ≤ l.size ∧ (∀ j, j < k → r (x + j) = false) ∧ Below wr.heap.size wr wi) (fun _ p _ => l.size.toNat - (intOf p).toNat)
      case atStart => exact ⟨rfl, 0, rfl, by omega, fun j hj => by omega, Below.refl _ _⟩
      case round =>
        obtain ⟨rfl, k, rfl, hk, hfree, hbi⟩ := hrel
        have HFREE := Lib.hid hfree
        have HBI := Lib.hid hbi
        have zi := hbi.size
        have rr1 := row_below hbi RRW.out (by omega)
        have rl1 := row_below hbi RLW.out (by omega)
        clear hfree
        by_cases hklt : (k : Int) < l.size
        · go_upto_region 8 with (fail)
          have e0 := rangeAt_rib rr1
          obtain ⟨y, hy⟩ : ∃ y : Nat, y = x + k := ⟨_, rfl⟩
          have HY := Lib.hid hy
          have hxy : (x : Int) + (k : Int) = (y : Int) := by omega
          have e1 : wr.cell? ⟨w.heap.size + 1, y, none⟩ = some (.bool (r y)) := cell_row' rr1 (rv_get r y (by omega))
          have b0 : (0 : Int) ≤ (y : Int) := by omega
          have b1 : (y : Int) < 72 := by omega
          have hwy : IntKind.i64.wrap (y : Int) = y := IntWalk.i64_in _ (by omega)
          clear hy
          have HRR1 := Lib.hid rr1
          have HRL1 := Lib.hid rl1
          clear rr1 rl1
          cases hs : same72 r none72
          · simp only [hs] at hneq
            go_region_held3 (fun w' => w'.rangeAt (w.heap.size + 1) 0 (rl r) ∧ w'.cell? ⟨w.heap.size + 1, y, none⟩ = some (.bool (r y)))
              (first | go_keep | (go_split_ands; refine ⟨?_, ?_⟩; exact rangeAt_below hb' (by assumption); exact cell_below hb' (by assumption)))
              ((go_at_call 90; refine (clean_any _).mono ?_; rintro e w' ⟨rfl, hb'⟩))
            have hbi2 := HBI.out.trans (((Below.refl _ wr).drew.trans hb').mono zi)
            have HBI2 := Lib.hid hbi2
            have zi2 := hbi2.size
            clear hbi2 hb'
            cases hry : r y
            · have HN := Lib.hid (show ∀ j, j < k + 1 → r (x + j) = false from fun j hj => by
                rcases Nat.lt_or_ge j k with h | h
                · exact HFREE.out j h
                · obtain rfl : j = k := by omega
                  rw [← HY.out]; exact hry)
              go_wp2_with fail
              go_roundw
              case rel => exact ⟨rfl, k + 1, by go_num, by omega, HN.out, HBI2.out⟩
              case measure => simp [intOf]; omega
            · have HN := Lib.hid (cutF_knot l h1 ha.2 r x k hw2 hklt HFREE.out (by rw [← HY.out]; exact hry))
              clear hxy hwy
              go_wp2_with fail
              go_roundw
              case rel => exact ⟨x + k + 1, pre, ao, cv, by simp; omega, by omega, by omega, rfl, owns_below HBI2.out HO.out, HBR.out.trans (HBI2.out.mono (by have := HBR.out.size; omega)), by rw [← HN.out]; exact HCUT.out⟩
              case measure => simp [intOf]; omega
          · simp only [hs] at hneq
            clear e1 b0 b1 hwy hxy
            refine wp_region_noPanic ?_
            refine wp_region_held_drew (S := fun w' => w'.rangeAt (w.heap.size + 1) 0 (rl r)) (by kernel_rfl) e0 (fun hHeld => ?_)
            refine held_take 0 24 _ rfl rfl (by kernel_rfl) (by kernel_rfl) (by kernel_rfl) (fun _ _ _ h => h) (yieldsIf_load_mid (by rfl) _ _ rfl _ _ rfl (rl r) _ (fun _ h => h) hundR rfl hsizR) hHeld ?_
            simp only [List.setIfInBounds_toArray, List.set_cons_zero, List.set_cons_succ]
            refine wpAnyH_ready (rs := [1]) (by kernel_rfl) (by simp) ?_
            refine AllReadyH.cons rfl (fun K hK => ?_) AllReadyH.nil
            go_simp
            refine (clean_any _).mono ?_
            rintro e w' ⟨rfl, hb'⟩
            dsimp only
            refine hK.out _ _ (rangeAt_below hb' hHeld) (fun hHeld2 => ?_)
            clear hK hHeld
            try simp only [Act.put, List.setIfInBounds_toArray, List.set_cons_zero, List.set_cons_succ]
            refine held_take 2 26 (.bool false) rfl rfl (by kernel_rfl) (by kernel_rfl) (by kernel_rfl) (fun _ _ _ h => h) (Or.inl ⟨by rfl, fun w _ => by go_simp⟩) hHeld2 ?_
            simp only [List.setIfInBounds_toArray, List.set_cons_zero, List.set_cons_succ]
            refine held_take 3 27 (.bool false) rfl rfl (by kernel_rfl) (by kernel_rfl) (by kernel_rfl) (fun _ _ _ h => h) (Or.inl ⟨by rfl, fun w _ => by go_simp⟩) hHeld2 ?_
            simp only [List.setIfInBounds_toArray, List.set_cons_zero, List.set_cons_succ]
            refine held_take 4 28 undef rfl rfl (by kernel_rfl) (by kernel_rfl) (by kernel_rfl) (fun _ _ _ h => h) (Or.inr ⟨by rfl, rfl⟩) hHeld2 ?_
            simp only [List.setIfInBounds_toArray, List.set_cons_zero, List.set_cons_succ]
            refine held_take 5 29 undef rfl rfl (by kernel_rfl) (by kernel_rfl) (by kernel_rfl) (fun _ _ _ h => h) (Or.inr ⟨by rfl, rfl⟩) hHeld2 ?_
            simp only [List.setIfInBounds_toArray, List.set_cons_zero, List.set_cons_succ]
            refine held_take 6 30 undef rfl rfl (by kernel_rfl) (by kernel_rfl) (by kernel_rfl) (fun _ _ _ h => h) (Or.inr ⟨by rfl, rfl⟩) hHeld2 ?_
            simp only [List.setIfInBounds_toArray, List.set_cons_zero, List.set_cons_succ]
            refine held_take 7 31 undef rfl rfl (by kernel_rfl) (by kernel_rfl) (by kernel_rfl) (fun _ _ _ h => h) (Or.inr ⟨by rfl, rfl⟩) hHeld2 ?_
            simp only [List.setIfInBounds_toArray, List.set_cons_zero, List.set_cons_succ]
            refine held_take 8 32 undef rfl rfl (by kernel_rfl) (by kernel_rfl) (by kernel_rfl) (fun _ _ _ h => h) (Or.inr ⟨by rfl, rfl⟩) hHeld2 ?_
            simp only [List.setIfInBounds_toArray, List.set_cons_zero, List.set_cons_succ]
            refine held_take 9 33 (.bool false) rfl rfl (by kernel_rfl) (by kernel_rfl) (by kernel_rfl) (fun _ _ _ h => h) (Or.inl ⟨by rfl, fun w _ => by go_simp⟩) hHeld2 ?_
            simp only [List.setIfInBounds_toArray, List.set_cons_zero, List.set_cons_succ]
            refine wpAnyH_done (by kernel_rfl) ?_ _
            refine NoPanic.normal ?_
            have hbi2 := HBI.out.trans (((Below.refl _ wr).drew.trans hb').mono zi)
            have HBI2 := Lib.hid hbi2
            have zi2 := hbi2.size
            clear hbi2 hb'
            have HN := Lib.hid (show ∀ j, j < k + 1 → r (x + j) = false from fun j hj => HS.out (x + j) (by omega) hs)
            go_wp2_with fail
            go_roundw
            case rel => exact ⟨rfl, k + 1, by go_num, by omega, HN.out, HBI2.out⟩
            case measure => simp [intOf]; omega
        · obtain hks : (k : Int) = l.size := by omega
          have HN := Lib.hid (cutF_free l h1 ha.2 r x hw2 (fun j hj => HFREE.out j (by omega)))
          have hown := owns_below HBI.out HO.out
          have c1 : wr.cell? ⟨w.heap.size, 1, none⟩ = some (.int .i64 l.size) := cell_row' rl1 rfl
          clear rr1 rl1 hneq hundR hsizR hbi
          go_wp2_with (at_builtin; refine wpList_append_own _ rfl _ _ 22 rfl (w.heap.size + 2) 3 i0 (.int .i64 0) 1 8 hundI hi hz0 hz1 hz2 rfl (by decide) _ _ _ rfl (hown.alloc _) ⟨wr.heap.size, 0, none⟩ 1 1 [.int .i64 x] rfl rfl (cell_one_here _ _ _) (fun x hx => by simp at hx; subst hx; rfl) (by unfold maxLen; omega) (by omega) (by simp; omega) ?_; intro v' w5 hown' hgrow hnil; have c1' := hgrow.cell (cell_old c1) (fun e => by have := hown.lt w.heap.size e.symm; omega))
          obtain ⟨g3, cap3, hv3⟩ : ∃ g3 cap3, v' = .slice (some ⟨g3, 0, none⟩) (pre.length + 1) cap3 := by
            rcases hown'.2 with ⟨_, h⟩ | ⟨g3, cap3, _, h, _⟩
            · omega
            · exact ⟨g3, cap3, h⟩
          have hbf : Below (w.heap.size + 2) w3 wr := HBR.out.trans (HBI.out.mono (by omega))
          have hbf2 : Below (w.heap.size + 2) w3 w5 := (hbf.alloc (by omega) _).grown hgrow (by simp; omega) (fun q hq => (hown.lt q hq).1)
          go_roundw
          case rel =>
            refine ⟨x + l.size.toNat, pre ++ [(x : Int)], some ⟨g3, 0, none⟩, cap3, ?_, by omega, by simp; omega, ?_, ?_, hbf2, ?_⟩
            · congr 1; omega
            · rw [hv3]; simp
            · rw [List.map_append, List.length_append]; exact hown'
            · rw [List.append_assoc, List.singleton_append, ← HN.out]; exact HCUT.out
          case measure => simp [intOf]; omega
    · have hnot : ¬ ((x : Int) + l.size ≤ l.all) := by omega
      have HSTOP := Lib.hid (cutF_stop l r x (73 - x) hnot)
      have HFIN := Lib.hid (show pre = l.cut r by rw [← HCUT.out, HSTOP.out]; simp)
      go_wp2_with fail
      go_ret
      refine ⟨ao, cv, by rw [← HFIN.out]; rfl, HB3.out.trans (HBR.out.mono (by omega)), ?_, ?_⟩
      · rw [← HFIN.out]
        exact cutAt_of_owns HO.out (by omega)
      · rintro x rfl
        rcases HO.out.2 with ⟨h2, _⟩ | ⟨g, cap, cur, h2, hg, _⟩
        · cases h2
        · cases h2
          exact Nat.le_trans (by omega) hg
end Go.Proofs.YtigofgdmefobaaaDoor.Peel
