/- The reference of package peel answers what the package answers: Ribbon, Column, Knotty. -/
import Derived.Test.YtigofgdmefobaaaDoorPPxf16
import Derived.Test.YtigofgdmefobaaaDoorPPxf20
import Derived.Test.YtigofgdmefobaaaDoorPPxf22
import Derived.Test.YtigofgdmefobaaaDoorPureE
set_option linter.unusedVariables false
set_option linter.unusedSimpArgs false
namespace Go.Proofs.YtigofgdmefobaaaDoor.PP
open Go.RowKit Go.Proofs.YtigofgdmefobaaaDoorW.PrintWords Go.Proofs.YtigofgdmefobaaaDoorW.PrintLast Go.Proofs.YtigofgdmefobaaaDoorW.PrintMore
open Peel (PL Kn Sp sumTo)
theorem ribbon_ref {xs : List Int} {s : Int} {ks : List SK} (hf : few xs ks) : Ev (fun k => luciferref01_Ribbon.f k xs s ks) (Peel.ribbonS (plOf xs s ks)) := by
  unfold Peel.ribbonS
  by_cases ok : (plOf xs s ks).Ok
  · rw [if_pos ok]
    exact Ev.bind (ok_if hf ok) (Ev.congr (fun k => by rw [if_pos rfl]) (Ev.bind (total_ok ok) (Ev.now _)))
  · rw [if_neg ok]
    exact Ev.bind (bad_if hf ok) (Ev.congr (fun k => by rw [if_neg (by omega)]) (Ev.now _))
theorem column_ref {xs : List Int} {s : Int} {ks : List SK} (hf : few xs ks) (t a : Int) : Ev (fun k => luciferref01_Column.f k xs s ks t a) (Peel.columnS (plOf xs s ks) t a) := by
  unfold Peel.columnS
  by_cases ok : (plOf xs s ks).Ok
  · rw [if_pos ok]
    have h6 : xs.length ≤ 6 := ok.turns
    have el : (plOf xs s ks).long = xs := rfl
    refine Ev.bind (ok_if hf ok) (Ev.congr (fun k => by rw [if_pos rfl]) ?_)
    simp only [fits_ev, Option.bind_some]
    rw [wrap_id (by omega) (by omega), el]
    by_cases h1 : 0 ≤ t ∧ t ≤ (xs.length : Int) - 1
    · by_cases h2 : 0 ≤ a ∧ a ≤ 23
      · rw [if_pos ⟨h1, h2⟩]
        obtain ⟨n, rfl⟩ : ∃ n : Nat, t = n := ⟨t.toNat, by omega⟩
        simp only [decide_eq_true h1, decide_eq_true h2, if_true]
        exact Ev.bind (column_ev ok (by omega) h2.1 h2.2) (Ev.now _)
      · rw [if_neg (fun h => h2 h.2)]
        simp only [decide_eq_true h1, decide_eq_false h2, if_true]
        exact Ev.congr (fun k => by rw [if_neg (by simp)]) (Ev.now _)
    · rw [if_neg (fun h => h1 h.1)]
      simp only [decide_eq_false h1]
      exact Ev.congr (fun k => by rw [if_neg (by simp)]) (Ev.now _)
  · rw [if_neg ok]
    exact Ev.bind (bad_if hf ok) (Ev.congr (fun k => by rw [if_neg (by omega)]) (Ev.now _))
theorem knotty_ref {xs : List Int} {s : Int} {ks : List SK} (hf : few xs ks) (c : Int) : Ev (fun k => luciferref01_Knotty.f k xs s ks c) (Peel.knottyS (plOf xs s ks) c) := by
  unfold Peel.knottyS
  by_cases ok : (plOf xs s ks).Ok
  · rw [if_pos ok]
    have hb := Peel.all_bd ok
    refine Ev.bind (ok_if hf ok) (Ev.congr (fun k => by rw [if_pos rfl]) (Ev.bind (total_ok ok) ?_))
    simp only [fits_ev, Option.bind_some]
    rw [wrap_id (by omega) (by omega)]
    by_cases h : 0 ≤ c ∧ c ≤ (plOf xs s ks).all - 1
    · rw [if_pos h]
      obtain ⟨n, rfl⟩ : ∃ n : Nat, c = n := ⟨c.toNat, by omega⟩
      obtain ⟨T, hT, hTl, hTn, hTa, hTm⟩ := all_ev ok
      have hpos : 0 < T.length := List.length_pos_iff.2 hTn
      have loop : ∀ (d i m : Nat) (r : Int), i ≤ T.length → T.length - i = d → m ≤ i →
          (m + ((T.drop i).filter fun t => asF t n).length = 0 → r = 0) → (m + ((T.drop i).filter fun t => asF t n).length = T.length → r = 2) → (m + ((T.drop i).filter fun t => asF t n).length ≠ 0 → m + ((T.drop i).filter fun t => asF t n).length ≠ T.length → r = 1) →
          Ev (fun k => luciferref01_Knotty.l0 k (n : Int) T (m : Int) (i : Int)) (r, 0) := by
        intro d
        induction d with
        | zero =>
          intro i m r hi hd hm r0 r2 r1
          obtain rfl : i = T.length := by omega
          rw [List.drop_length] at r0 r1 r2
          simp only [List.filter_nil, List.length_nil, Nat.add_zero] at r0 r1 r2
          refine Ev.step (fun k => ?_) (Ev.now _)
          simp only [luciferref01_Knotty.l0]
          rw [if_neg (by omega)]
          by_cases e0 : m = 0
          · rw [if_pos (by omega), r0 e0]
          · by_cases e2 : m = T.length
            · rw [if_neg (by omega), if_pos (by omega), r2 e2]
            · rw [if_neg (by omega), if_neg (by omega), r1 e0 e2]
        | succ d ih =>
          intro i m r hi hd hm r0 r2 r1
          have hlt : i < T.length := by omega
          have hal := hTa _ (rowAt_mem hlt)
          rw [rowAt_drop hlt] at r0 r1 r2
          cases ha : asF (rowAt T i) n with
          | true =>
            simp only [List.filter_cons, ha, if_true, List.length_cons] at r0 r1 r2
            refine Ev.step (fun k => ?_) (ih (i + 1) (m + 1) r (by omega) (by omega) (by omega) (fun h => r0 (by omega)) (fun h => r2 (by omega)) (fun h1 h2 => r1 (by omega) (by omega)))
            simp only [luciferref01_Knotty.l0]
            rw [if_pos (by omega), if_pos (by omega), if_pos (by omega), if_pos (by show (n : Int) < ((rowAt T i).length : Int); omega), show rd_L8 T (i : Int) = rowAt T i from rfl, rdOf_nat, ha, if_pos rfl, wrap_succ _ (by omega), wrap_succ _ (by omega)]
          | false =>
            simp only [List.filter_cons, ha, Bool.false_eq_true, if_false] at r0 r1 r2
            refine Ev.step (fun k => ?_) (ih (i + 1) m r (by omega) (by omega) (by omega) r0 r2 r1)
            simp only [luciferref01_Knotty.l0]
            rw [if_pos (by omega), if_pos (by omega), if_pos (by omega), if_pos (by show (n : Int) < ((rowAt T i).length : Int); omega), show rd_L8 T (i : Int) = rowAt T i from rfl, rdOf_nat, ha, if_neg (by simp), wrap_succ _ (by omega)]
      refine Ev.congr (f := fun k => (luciferref01_All.f k xs s ks).bind fun t170 => (luciferref01_Knotty.l0 k (n : Int) t170 0 0)) (fun k => by rw [decide_eq_true h, if_pos rfl]) (Ev.bind hT ?_)
      refine loop T.length 0 0 _ (by omega) (by omega) (by omega) ?_ ?_ ?_
      · intro e
        rw [List.drop_zero, Nat.zero_add] at e
        unfold PL.knottyAt
        rw [if_neg, if_neg]
        · rw [List.any_eq_true]
          rintro ⟨r, hr, hrn⟩
          obtain ⟨t, ht, rfl⟩ := (hTm r).2 hr
          have : t ∈ T.filter fun t => asF t n := List.mem_filter.2 ⟨ht, hrn⟩
          rw [List.eq_nil_of_length_eq_zero e] at this
          cases this
        · rw [List.all_eq_true]
          intro hall
          obtain ⟨t, ht⟩ := List.exists_mem_of_length_pos hpos
          have hrn := hall (asF t) ((hTm _).1 ⟨t, ht, rfl⟩)
          have : t ∈ T.filter fun t => asF t n := List.mem_filter.2 ⟨ht, hrn⟩
          rw [List.eq_nil_of_length_eq_zero e] at this
          cases this
      · intro e
        rw [List.drop_zero, Nat.zero_add] at e
        unfold PL.knottyAt
        rw [if_pos]
        rw [List.all_eq_true]
        intro r hr
        obtain ⟨t, ht, rfl⟩ := (hTm r).2 hr
        have := List.length_filter_eq_length_iff.1 e
        exact this t ht
      · intro e0 e2
        rw [List.drop_zero, Nat.zero_add] at e0 e2
        unfold PL.knottyAt
        rw [if_neg, if_pos]
        · rw [List.any_eq_true]
          obtain ⟨t, ht⟩ := List.exists_mem_of_length_pos (Nat.pos_of_ne_zero e0)
          obtain ⟨ht1, ht2⟩ := List.mem_filter.1 ht
          exact ⟨asF t, (hTm _).1 ⟨t, ht1, rfl⟩, ht2⟩
        · rw [List.all_eq_true]
          intro hall
          exact e2 (List.length_filter_eq_length_iff.2 fun t ht => hall _ ((hTm _).1 ⟨t, ht, rfl⟩))
    · rw [if_neg h]
      exact Ev.congr (fun k => by rw [decide_eq_false h, if_neg (by simp)]) (Ev.now _)
  · rw [if_neg ok]
    exact Ev.bind (bad_if hf ok) (Ev.congr (fun k => by rw [if_neg (by omega)]) (Ev.now _))
end Go.Proofs.YtigofgdmefobaaaDoor.PP
