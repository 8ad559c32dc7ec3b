/- The laws of package peel over the printed functions: what lies in memory, and the laws that compare it with the reference (lists). -/
import Derived.Test.YtigofgdmefobaaaDoorGiven
set_option linter.unusedVariables false
set_option linter.unusedSimpArgs false
namespace Go.Proofs.YtigofgdmefobaaaDoor.PP
open Go.RowKit Go.Proofs.YtigofgdmefobaaaDoorW.PrintWords Go.Proofs.YtigofgdmefobaaaDoorW.PrintLast Go.Proofs.YtigofgdmefobaaaDoorW.PrintMore
open Peel (PL Kn Sp sumTo RawAt CutAt EndsAt)
def unKn (x : Kn) : SK := ⟨⟨x.a.lo, x.a.hi⟩, ⟨x.f.lo, x.f.hi⟩⟩
theorem pl_un (l : PL) : plOf l.long l.size (l.knots.map unKn) = l := by
  unfold plOf
  rw [List.map_map, show knOf ∘ unKn = id from rfl, List.map_id]
theorem len_un (l : PL) : (l.knots.map unKn).length = l.knots.length := List.length_map ..
theorem long_c {w : World} {l : PL} {A B : Option Addr} {c d : Nat} (h : RawAt w l A B c d) : Kd.C (Kd.int .i64) w A l.long.length l.long :=
  c_of_cut (c := c) ⟨h.long, h.c, h.n⟩
theorem knots_c {w : World} {l : PL} {A B : Option Addr} {c d : Nat} (h : RawAt w l A B c d) : Kd.C kK w B (l.knots.map unKn).length (l.knots.map unKn) := by
  refine ⟨rfl, by have := h.m; rw [len_un]; omega, fun hn => ?_⟩
  rw [len_un] at hn
  obtain ⟨b, e, _⟩ := h.knots 0 _ (List.getElem?_eq_getElem hn)
  refine ⟨b, e, fun j p hj => ?_⟩
  rw [List.getElem?_map] at hj
  obtain ⟨y, hy, rfl⟩ := Option.map_eq_some_iff.1 hj
  obtain ⟨b', e', q0, q1, q2, q3⟩ := h.knots j y hy
  rw [e] at e'
  cases e'
  refine ⟨_, rfl, k61_mk w (unKn y), fun i u hu => ?_⟩
  have hsz : (k61).sz = 4 := rfl
  rw [hsz]
  rcases i with _ | _ | _ | _ | i
  · cases hu; exact q0
  · cases hu; rw [show j * 4 + _ = j * 4 + 1 from rfl, add_field _ _ 1 (by omega)]; exact q1
  · cases hu; rw [show j * 4 + _ = j * 4 + 2 from rfl, add_field _ _ 2 (by omega)]; exact q2
  · cases hu; rw [show j * 4 + _ = j * 4 + 3 from rfl, add_field _ _ 3 (by omega)]; exact q3
  · simp at hu
theorem few_un {w : World} {l : PL} {A B : Option Addr} {c d : Nat} (h : RawAt w l A B c d) : few l.long (l.knots.map unKn) := ⟨h.n, by rw [len_un]; exact h.m⟩
theorem given {α : Type} {p : Prop} [Decidable p] (h : p) (x : α) : (if p then some x else none) = some x := if_pos h
end Go.Proofs.YtigofgdmefobaaaDoor.PP
