/- Walks of package peel: the spots of a knot. -/
import Derived.Test.YtigofgdmefobaaaDoorPeelJ
import Derived.Test.YtigofgdmefobaaaDoorIter
import Derived.Deep.LoopGhost
import Derived.LoopIn
import Derived.Shelf.RegionOpen
set_option linter.unusedVariables false
set_option linter.unusedSimpArgs false
namespace Go.Proofs.YtigofgdmefobaaaDoor.Peel
open Go.RowKit Go.Proofs.YtigofgdmefobaaaDoor.Iter

def Sp.n (s : Sp) : Int := s.hi - s.lo + 1
/-- The spots at which a knot can be: angle by angle, for each first turn. -/
def Kn.many (x : Kn) : Nat := (x.a.n * x.f.n).toNat
def Kn.spot (x : Kn) (i : Nat) : Int × Int := (x.a.lo + (i : Int) % x.a.n, x.f.lo + (i : Int) / x.a.n)
def Kn.spots (x : Kn) : List (Int × Int) := (List.range x.many).map x.spot
theorem Kn.spots_get (x : Kn) (i : Nat) (h : i < x.many) : x.spots[i]? = some (x.spot i) := by
  simp [Kn.spots, h]
theorem Kn.spots_len (x : Kn) : x.spots.length = x.many := by simp [Kn.spots]

/-- Where the iterator stands. -/
structure Stands (x : Kn) (i : Nat) (A F : Int) : Prop where
  a0 : x.a.lo ≤ A
  a1 : A ≤ x.a.hi + 1
  f0 : x.f.lo ≤ F
  f1 : F ≤ x.f.hi
  at_ : (i : Int) = (F - x.f.lo) * x.a.n + (A - x.a.lo)
  n : i < x.many
theorem Kn.Ok.cases {x : Kn} {n : Int} (h : x.Ok n) : (x.a.n = 1 ∨ x.a.n = 2 ∨ x.a.n = 3 ∨ x.a.n = 4) ∧ (x.f.n = 1 ∨ x.f.n = 2) := by
  obtain ⟨⟨a1, a2, a3, a4⟩, ⟨b1, b2, b3, b4⟩⟩ := h
  unfold Sp.n
  omega
theorem Stands.first {x : Kn} {n : Int} (h : x.Ok n) : Stands x 0 x.a.lo x.f.lo := by
  have hc := h.cases
  obtain ⟨⟨a1, a2, a3, a4⟩, ⟨b1, b2, b3, b4⟩⟩ := h
  refine ⟨by omega, by omega, by omega, by omega, by simp, ?_⟩
  unfold Kn.many
  obtain ⟨h1 | h1 | h1 | h1, h2 | h2⟩ := hc <;> rw [h1, h2] <;> decide
theorem Stands.over {x : Kn} {n : Int} (h : x.Ok n) {i : Nat} {A F : Int} (s : Stands x i A F) (hA : x.a.hi < A) : Stands x i x.a.lo (F + 1) := by
  have hc := h.cases
  obtain ⟨⟨a1, a2, a3, a4⟩, ⟨b1, b2, b3, b4⟩⟩ := h
  obtain ⟨s1, s2, s3, s4, s5, s6⟩ := s
  unfold Kn.many at s6
  have e1 : x.a.n = x.a.hi - x.a.lo + 1 := rfl
  have e2 : x.f.n = x.f.hi - x.f.lo + 1 := rfl
  refine ⟨by omega, by omega, by omega, ?_, ?_, s6⟩ <;> obtain ⟨h1 | h1 | h1 | h1, h2 | h2⟩ := hc <;> rw [h1] at s5 e1 s6 <;> rw [h2] at e2 s6 <;> (try rw [h1]) <;> simp at s6 <;> omega
theorem Stands.spot {x : Kn} {n : Int} (h : x.Ok n) {i : Nat} {A F : Int} (s : Stands x i A F) (hA : A ≤ x.a.hi) : x.spot i = (A, F) := by
  have hc := h.cases
  obtain ⟨⟨a1, a2, a3, a4⟩, ⟨b1, b2, b3, b4⟩⟩ := h
  obtain ⟨s1, s2, s3, s4, s5, s6⟩ := s
  have e1 : x.a.n = x.a.hi - x.a.lo + 1 := rfl
  unfold Kn.spot
  rw [Prod.mk.injEq]
  constructor <;> obtain ⟨h1 | h1 | h1 | h1, h2 | h2⟩ := hc <;> rw [h1] at s5 e1 <;> rw [h1] <;> omega
theorem Stands.next {x : Kn} {n : Int} (h : x.Ok n) {i : Nat} {A F : Int} (s : Stands x i A F) (hA : A ≤ x.a.hi) (hl : ¬ (A = x.a.hi ∧ F = x.f.hi)) : Stands x (i + 1) (A + 1) F := by
  have hc := h.cases
  obtain ⟨⟨a1, a2, a3, a4⟩, ⟨b1, b2, b3, b4⟩⟩ := h
  obtain ⟨s1, s2, s3, s4, s5, s6⟩ := s
  unfold Kn.many at s6
  have e1 : x.a.n = x.a.hi - x.a.lo + 1 := rfl
  have e2 : x.f.n = x.f.hi - x.f.lo + 1 := rfl
  refine ⟨by omega, by omega, by omega, by omega, ?_, ?_⟩
  · omega
  · unfold Kn.many
    obtain ⟨h1 | h1 | h1 | h1, h2 | h2⟩ := hc <;> rw [h1] at s5 e1 <;> rw [h2] at e2 <;> rw [h1, h2] <;> simp <;> omega
theorem Stands.last {x : Kn} {n : Int} (h : x.Ok n) {i : Nat} {A F : Int} (s : Stands x i A F) (hl : A = x.a.hi ∧ F = x.f.hi) : i + 1 = x.many := by
  have hc := h.cases
  obtain ⟨⟨a1, a2, a3, a4⟩, ⟨b1, b2, b3, b4⟩⟩ := h
  obtain ⟨s1, s2, s3, s4, s5, s6⟩ := s
  obtain ⟨rfl, rfl⟩ := hl
  have e1 : x.a.n = x.a.hi - x.a.lo + 1 := rfl
  have e2 : x.f.n = x.f.hi - x.f.lo + 1 := rfl
  unfold Kn.many
  obtain ⟨h1 | h1 | h1 | h1, h2 | h2⟩ := hc <;> rw [h1] at s5 e1 <;> rw [h2] at e2 <;> rw [h1, h2] <;> simp <;> omega

/-- The package's variable 'ends' lies in memory. -/
structure EndsAt (w : World) : Prop where
  e0 : w.cell? ⟨0, 0, none⟩ = some (.func (.func 113) #[] #[])
  e1 : w.cell? ⟨0, 1, none⟩ = some (.func (.func 114) #[] #[])
theorem EndsAt.below {w w1 : World} (h : EndsAt w) (hb : Below w.heap.size w w1) : EndsAt w1 := ⟨cell_below hb h.e0, cell_below hb h.e1⟩
/-- What the iterator of spots reads. -/
structure SpotsNeed (l : PL) (a : Addr) (B : Option Addr) (c d m bl bk k : Nat) (w : World) : Prop where
  log : LogAt w l a B c d
  ends : EndsAt w
  q0 : w.cell? ⟨bl, 0, none⟩ = some (.slice (some a) l.long.length c)
  q1 : w.cell? ⟨bl, 1, none⟩ = some (.int .i64 l.size)
  q2 : w.cell? ⟨bl, 2, none⟩ = some (.slice B l.knots.length d)
  q3 : w.cell? ⟨bl, 3, none⟩ = some (.map (some m))
  k : w.cell? ⟨bk, 0, none⟩ = some (.int .i64 k)
theorem SpotsNeed.below {l : PL} {a : Addr} {B : Option Addr} {c d m bl bk k : Nat} {w w1 : World} (h : SpotsNeed l a B c d m bl bk k w) (hb : Below w.heap.size w w1) : SpotsNeed l a B c d m bl bk k w1 :=
  ⟨h.log.below hb, h.ends.below hb, cell_below hb h.q0, cell_below hb h.q1, cell_below hb h.q2, cell_below hb h.q3, cell_below hb h.k⟩
theorem cell_far {w0 w1 w2 : World} {p : Addr} {v v0 : Value} (h0 : w0.cell? p = some v0) (h1 : w1.cell? p = some v) (hb : Below w0.heap.size w1 w2) : w2.cell? p = some v :=
  (hb.cell (World.block_lt_of_cell? w0 p h0)).trans h1
theorem LogAt.far {w0 w1 w2 : World} {l : PL} {a : Addr} {B : Option Addr} {c d : Nat} (h0 : LogAt w0 l a B c d) (h : LogAt w1 l a B c d) (hb : Below w0.heap.size w1 w2) : LogAt w2 l a B c d where
  ok := h.ok
  long := fun k hk => cell_far (h0.long k hk) (h.long k hk) hb
  knots := fun k x hx => by
    obtain ⟨b, e, h1, h2, h3, h4⟩ := h.knots k x hx
    obtain ⟨b', e', g1, g2, g3, g4⟩ := h0.knots k x hx
    rw [e] at e'
    injection e' with e'
    subst e'
    exact ⟨b, e, cell_far g1 h1 hb, cell_far g2 h2 hb, cell_far g3 h3 hb, cell_far g4 h4 hb⟩
  c := h.c
  d := h.d
theorem EndsAt.far {w0 w1 w2 : World} (h0 : EndsAt w0) (h : EndsAt w1) (hb : Below w0.heap.size w1 w2) : EndsAt w2 := ⟨cell_far h0.e0 h.e0 hb, cell_far h0.e1 h.e1 hb⟩
theorem SpotsNeed.far {l : PL} {a : Addr} {B : Option Addr} {c d m bl bk k : Nat} {w0 w1 w2 : World} (h0 : SpotsNeed l a B c d m bl bk k w0) (h : SpotsNeed l a B c d m bl bk k w1) (hb : Below w0.heap.size w1 w2) : SpotsNeed l a B c d m bl bk k w2 :=
  ⟨h0.log.far h.log hb, h0.ends.far h.ends hb, cell_far h0.q0 h.q0 hb, cell_far h0.q1 h.q1 hb, cell_far h0.q2 h.q2 hb, cell_far h0.q3 h.q3 hb, cell_far h0.k h.k hb⟩
end Go.Proofs.YtigofgdmefobaaaDoor.Peel
