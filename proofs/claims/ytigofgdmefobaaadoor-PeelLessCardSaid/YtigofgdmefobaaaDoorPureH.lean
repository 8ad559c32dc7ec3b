/- Logs in plain numbers: what is possible, by spots. -/
import Derived.Test.YtigofgdmefobaaaDoorPureA
import Derived.Test.YtigofgdmefobaaaDoorG7
set_option linter.unusedVariables false
set_option linter.unusedSimpArgs false
namespace Go.Proofs.YtigofgdmefobaaaDoor.PP
open Go.RowKit Go.Proofs.YtigofgdmefobaaaDoorW.PrintWords Go.Proofs.YtigofgdmefobaaaDoorW.PrintLast Go.Proofs.YtigofgdmefobaaaDoorW.PrintMore
open Peel (PL Kn Sp sumTo)
theorem few_ok {xs : List Int} {s : Int} {ks : List SK} (ok : (plOf xs s ks).Ok) : few xs ks ∧ ks.length ≤ 3 ∧ xs.length ≤ 6 := by
  have h3 := ok.knots3
  rw [show (plOf xs s ks).knots.length = ks.length from List.length_map ..] at h3
  have h6 : xs.length ≤ 6 := ok.turns
  exact ⟨⟨by omega, by omega⟩, h3, h6⟩
theorem knots_len (xs : List Int) (s : Int) (ks : List SK) : (plOf xs s ks).knots.length = ks.length := List.length_map ..
theorem knot_ok {xs : List Int} {s : Int} {ks : List SK} (ok : (plOf xs s ks).Ok) {j : Nat} (hj : j < ks.length) : (knOf (knotAt ks j)).Ok xs.length := ok.knots _ (List.mem_of_getElem? (knots_get (xs := xs) (s := s) hj))
/-- In some truth: at some spot of some knot. -/
theorem possible_iff {xs : List Int} {s : Int} {ks : List SK} (ok : (plOf xs s ks).Ok) (i : Nat) : (plOf xs s ks).possible i = true ↔ ∃ j : Nat, j < ks.length ∧ ∃ p ∈ (knOf (knotAt ks j)).spots, (plOf xs s ks).mark p i = true := by
  unfold PL.possible
  rw [Peel.anyOf_true]
  constructor
  · rintro ⟨r, hr, hi⟩
    obtain ⟨ss, hl, hm, rfl⟩ := (Peel.truths_mem _ _ _ _).1 hr
    simp only [Peel.none72, Bool.false_or, List.any_eq_true] at hi
    obtain ⟨p, hp, hpi⟩ := hi
    obtain ⟨j, hj⟩ := List.getElem?_of_mem hp
    have hlt : j < ks.length := by
      have := (List.getElem?_eq_some_iff.1 hj).1
      rw [hl, knots_len] at this
      exact this
    exact ⟨j, hlt, p, hm j _ p (knots_get hlt) hj, hpi⟩
  · rintro ⟨j, hj, p, hp, hpi⟩
    refine ⟨_, (Peel.truths_mem _ _ _ _).2 ⟨(List.range ks.length).map fun m => if m = j then p else ((knOf (knotAt ks m)).a.lo, (knOf (knotAt ks m)).f.lo), by rw [knots_len]; simp, ?_, rfl⟩, ?_⟩
    · intro m x q hx hq
      have hlt : m < ks.length := by
        have := (List.getElem?_eq_some_iff.1 hx).1
        rwa [knots_len] at this
      rw [knots_get hlt] at hx
      cases hx
      rw [List.getElem?_map, List.getElem?_range hlt] at hq
      simp only [Option.map_some, Option.some.injEq] at hq
      by_cases e : m = j
      · subst e
        rw [if_pos rfl] at hq
        rw [← hq]; exact hp
      · rw [if_neg e] at hq
        rw [← hq]
        have hk := knot_ok ok hlt
        have h1 := hk.a.ends
        have h2 := hk.f.ends
        have := Peel.spots_in hk 0 0 ⟨by omega, by unfold Sp.n; omega⟩ ⟨by omega, by unfold Sp.n; omega⟩
        rwa [Int.add_zero, Int.add_zero] at this
    · simp only [Peel.none72, Bool.false_or, List.any_eq_true]
      refine ⟨p, List.mem_map.2 ⟨j, List.mem_range.2 hj, if_pos rfl⟩, hpi⟩
/-- There is a truth. -/
theorem truths_ne {xs : List Int} {s : Int} {ks : List SK} (ok : (plOf xs s ks).Ok) : (plOf xs s ks).truths (plOf xs s ks).knots Peel.none72 ≠ [] := by
  refine List.ne_nil_of_mem ((Peel.truths_mem _ _ _ _).2 ⟨(List.range ks.length).map fun m => ((knOf (knotAt ks m)).a.lo, (knOf (knotAt ks m)).f.lo), by rw [knots_len]; simp, ?_, rfl⟩)
  intro m x q hx hq
  have hlt : m < ks.length := by
    have := (List.getElem?_eq_some_iff.1 hx).1
    rwa [knots_len] at this
  rw [knots_get hlt] at hx
  cases hx
  rw [List.getElem?_map, List.getElem?_range hlt] at hq
  simp only [Option.map_some, Option.some.injEq] at hq
  rw [← hq]
  have hk := knot_ok ok hlt
  have h1 := hk.a.ends
  have h2 := hk.f.ends
  have := Peel.spots_in hk 0 0 ⟨by omega, by unfold Sp.n; omega⟩ ⟨by omega, by unfold Sp.n; omega⟩
  rwa [Int.add_zero, Int.add_zero] at this
end Go.Proofs.YtigofgdmefobaaaDoor.PP
