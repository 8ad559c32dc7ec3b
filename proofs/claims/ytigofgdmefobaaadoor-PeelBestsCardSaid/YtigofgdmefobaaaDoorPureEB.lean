/- The reference of package peel answers what the package answers: Best, Waste, Hope, Ask. -/
import Derived.Test.YtigofgdmefobaaaDoorPPx26
import Derived.Test.YtigofgdmefobaaaDoorPPx28
import Derived.Test.YtigofgdmefobaaaDoorPPx29
import Derived.Test.YtigofgdmefobaaaDoorPPx32
import Derived.Test.YtigofgdmefobaaaDoorPureE
set_option linter.unusedVariables false
set_option linter.unusedSimpArgs false
namespace Go.Proofs.YtigofgdmefobaaaDoor.PP
open Go.RowKit Go.Proofs.YtigofgdmefobaaaDoorW.PrintWords Go.Proofs.YtigofgdmefobaaaDoorW.PrintLast Go.Proofs.YtigofgdmefobaaaDoorW.PrintMore
open Peel (PL Kn Sp sumTo)
theorem best_ref {xs : List Int} {s : Int} {ks : List SK} (hf : few xs ks) : Ev (fun k => luciferref01_Best.f k xs s ks) (Peel.bestS (plOf xs s ks)) := by
  unfold Peel.bestS
  by_cases ok : (plOf xs s ks).Ok
  · rw [if_pos ok]
    obtain ⟨out, ho, hol, hof⟩ := some_ev ok
    refine Ev.bind (ok_if hf ok) (Ev.congr (fun k => by rw [if_pos rfl]) (Ev.bind ho ?_))
    rw [← hof]
    exact Ev.bind (best_ev ok hol) (Ev.now _)
  · rw [if_neg ok]
    exact Ev.bind (bad_if hf ok) (Ev.congr (fun k => by rw [if_neg (by omega)]) (Ev.now _))
theorem waste_ref {xs : List Int} {s : Int} {ks : List SK} (hf : few xs ks) : Ev (fun k => luciferref01_Waste.f k xs s ks) (Peel.wasteS (plOf xs s ks)) := by
  unfold Peel.wasteS
  by_cases ok : (plOf xs s ks).Ok
  · rw [if_pos ok]
    have hb := Peel.all_bd ok
    have h1 : 1 ≤ s := ok.size1
    have h6 : s ≤ 6 := ok.size6
    obtain ⟨out, ho, hol, hof⟩ := some_ev ok
    refine Ev.bind (ok_if hf ok) (Ev.congr (fun k => by rw [if_pos rfl]) (Ev.bind (total_ok ok) (Ev.bind ho ?_)))
    rw [← hof]
    refine Ev.bind (best_ev ok hol) (Ev.congr (fun k => ?_) (Ev.now _))
    have hl := Peel.cut_len (plOf xs s ks) (asF out)
    have hm0 : 0 ≤ s * (((plOf xs s ks).cut (asF out)).length : Int) := Int.mul_nonneg (by omega) (by omega)
    have hm1 : s * (((plOf xs s ks).cut (asF out)).length : Int) ≤ 6 * (((plOf xs s ks).cut (asF out)).length : Int) := Int.mul_le_mul_of_nonneg_right h6 (by omega)
    rw [wrap_id (x := s * _) (by omega) (by omega), wrap_id (by omega) (by omega)]
    rfl
  · rw [if_neg ok]
    exact Ev.bind (bad_if hf ok) (Ev.congr (fun k => by rw [if_neg (by omega)]) (Ev.now _))
theorem hope_ref {xs : List Int} {s : Int} {ks : List SK} (hf : few xs ks) : Ev (fun k => luciferref01_Hope.f k xs s ks) (Peel.hopeS (plOf xs s ks)) := by
  unfold Peel.hopeS
  by_cases ok : (plOf xs s ks).Ok
  · rw [if_pos ok]
    obtain ⟨T, hT, hTl, hTn, hTa, hTm⟩ := all_ev ok
    have loop : ∀ (d i : Nat) (n : Int), i ≤ T.length → T.length - i = d → Ev (fun k => luciferref01_Hope.l0 k n T (i : Int) xs s ks) ((T.drop i).foldl (fun n t => max n (((plOf xs s ks).cut (asF t)).length : Int)) n, 0) := by
      intro d
      induction d with
      | zero =>
        intro i n hi hd
        obtain rfl : i = T.length := by omega
        refine Ev.step (fun k => ?_) (Ev.now _)
        simp only [luciferref01_Hope.l0]
        rw [if_neg (by omega), List.drop_length]
        rfl
      | succ d ih =>
        intro i n hi hd
        have hlt : i < T.length := by omega
        refine Ev.step (f := fun k => (luciferref01_best.f k xs s ks (rowAt T i)).bind fun t278 => (luciferref01_Hope.l0 k (mx n (t278.length : Int)) T (wrap64 ((i : Int) + 1)) xs s ks)) (fun k => ?_) (Ev.bind (best_ev ok (hTa _ (rowAt_mem hlt))) ?_)
        · simp only [luciferref01_Hope.l0]
          rw [if_pos (by omega), if_pos (by omega)]
          rfl
        · rw [rowAt_drop hlt]
          simp only [List.foldl_cons, mx_max]
          rw [wrap_succ _ (by omega)]
          exact ih (i + 1) _ (by omega) (by omega)
    refine Ev.bind (ok_if hf ok) (Ev.congr (fun k => by rw [if_pos rfl]) (Ev.bind hT ?_))
    have h := loop T.length 0 0 (by omega) (by omega)
    rw [List.drop_zero, fold_max_same' (fun t => (((plOf xs s ks).cut (asF t)).length : Int)) (fun r => (((plOf xs s ks).cut r).length : Int)) T _ _ hTm] at h
    exact h
  · rw [if_neg ok]
    exact Ev.bind (bad_if hf ok) (Ev.congr (fun k => by rw [if_neg (by omega)]) (Ev.now _))
theorem found_pl (xs : List Int) (s : Int) (ks : List SK) (j : Nat) (p : SP) : plOf xs s (ks.set j ⟨⟨p.f0, p.f0⟩, ⟨p.f1, p.f1⟩⟩) = (plOf xs s ks).found j (p.f0, p.f1) := by
  unfold plOf PL.found
  simp only
  rw [List.map_set]
  rfl
theorem ask_ref {xs : List Int} {s : Int} {ks : List SK} (hf : few xs ks) : Ev (fun k => luciferref01_Ask.f k xs s ks) (Peel.askS (plOf xs s ks)) := by
  unfold Peel.askS
  by_cases ok : (plOf xs s ks).Ok
  · rw [if_pos ok, knots_len]
    have hb := Peel.all_bd ok
    have h3 : ks.length ≤ 3 := by have := ok.knots3; rwa [knots_len] at this
    refine Ev.bind (ok_if hf ok) (Ev.congr (fun k => by rw [if_pos rfl]) ?_)
    by_cases h0 : ks.length = 0
    · rw [if_pos h0]
      exact Ev.congr (fun k => by rw [if_pos (by omega)]) (Ev.now _)
    · rw [if_neg h0]
      have worst_pos : ∀ j, 0 ≤ (plOf xs s ks).worst j := by
        intro j
        unfold PL.worst PL.worstOf
        rcases (Peel.fold_min (fun p => ((plOf xs s ks).found j p).pieces) (((plOf xs s ks).knots.map Kn.spots).getD j []) (plOf xs s ks).all).2.2 with e | ⟨p, _, e⟩
        · rw [e]; exact hb.1
        · rw [e]; unfold PL.pieces; omega
      have worst_of : ∀ (j : Nat) (ps : List SP), j < ks.length → (∀ p : SP, p ∈ ps ↔ (p.f0, p.f1) ∈ (knOf (knotAt ks j)).spots) → ps.foldl (fun n p => min n ((plOf xs s ks).found j (p.f0, p.f1)).pieces) (plOf xs s ks).all = (plOf xs s ks).worst j := by
        intro j ps hj hm
        unfold PL.worst PL.worstOf
        have e : ((plOf xs s ks).knots.map Kn.spots).getD j [] = (knOf (knotAt ks j)).spots := by
          rw [List.getD_eq_getElem?_getD, List.getElem?_map, knots_get hj]
          rfl
        rw [e]
        refine Peel.fold_min_same (fun p : SP => ((plOf xs s ks).found j (p.f0, p.f1)).pieces) (fun p => ((plOf xs s ks).found j p).pieces) ps _ _ (fun p hp => ⟨_, (hm p).1 hp, rfl⟩) ?_
        rintro ⟨p1, p2⟩ hp
        exact ⟨⟨p1, p2⟩, (hm ⟨p1, p2⟩).2 hp, rfl⟩
      have outer : ∀ (d j : Nat) (b m : Int), j ≤ ks.length → ks.length - j = d → (j = 0 ∧ b = -1 ∧ m = -1 ∨ 0 < j ∧ (b, m) = (plOf xs s ks).askF j) → Ev (fun k => luciferref01_Ask.l0 k b m (j : Int) xs s ks) (((plOf xs s ks).askF ks.length).1, 0) := by
        intro d
        induction d with
        | zero =>
          intro j b m hj hd h
          obtain rfl : j = ks.length := by omega
          rcases h with h | ⟨_, h⟩
          · omega
          · refine Ev.step (fun k => ?_) (Ev.now _)
            simp only [luciferref01_Ask.l0]
            rw [if_neg (by omega), ← h]
        | succ d ih =>
          intro j b m hj hd h
          have hlt : j < ks.length := by omega
          obtain ⟨ps, hps, hpl, hpn, hpm⟩ := places_at ok hlt
          have hw := worst_of j ps hlt hpm
          have hw0 := worst_pos j
          have inner : ∀ (e i : Nat) (n : Int), i ≤ ps.length → ps.length - i = e → (ps.drop i).foldl (fun n p => min n ((plOf xs s ks).found j (p.f0, p.f1)).pieces) n = (plOf xs s ks).worst j → Ev (fun k => luciferref01_Ask.l1 k b m (j : Int) ps n (i : Int) xs s ks) (((plOf xs s ks).askF ks.length).1, 0) := by
            intro e
            induction e with
            | zero =>
              intro i n hi he hn
              obtain rfl : i = ps.length := by omega
              rw [List.drop_length] at hn
              have hn : n = (plOf xs s ks).worst j := hn
              subst hn
              have hstep : (plOf xs s ks).askF (j + 1) = if (plOf xs s ks).worst j > ((plOf xs s ks).askF j).2 ∨ ((plOf xs s ks).askF j).1 < 0 then ((j : Int), (plOf xs s ks).worst j) else (plOf xs s ks).askF j := rfl
              by_cases hgt : (plOf xs s ks).worst j > m
              · refine Ev.step (fun k => ?_) (ih (j + 1) (j : Int) ((plOf xs s ks).worst j) (by omega) (by omega) (.inr ⟨by omega, ?_⟩))
                · simp only [luciferref01_Ask.l1]
                  rw [if_neg (by omega), if_pos hgt, wrap_succ _ (by omega)]
                · rw [hstep, if_pos]
                  rcases h with ⟨rfl, _, _⟩ | ⟨_, h⟩
                  · exact .inr (by show (-1 : Int) < 0; omega)
                  · rw [← h]; exact .inl hgt
              · refine Ev.step (fun k => ?_) (ih (j + 1) b m (by omega) (by omega) (.inr ⟨by omega, ?_⟩))
                · simp only [luciferref01_Ask.l1]
                  rw [if_neg (by omega), if_neg hgt, wrap_succ _ (by omega)]
                · rcases h with ⟨_, _, h⟩ | ⟨hj0, h⟩
                  · omega
                  · rw [hstep, if_neg]
                    · exact h
                    · rintro (h' | h')
                      · rw [← h] at h'; exact hgt h'
                      · obtain ⟨b', e1, _⟩ := Peel.askF_best (plOf xs s ks) j hj0
                        omega
            | succ e ihe =>
              intro i n hi he hn
              have hil : i < ps.length := by omega
              rw [placeAt_drop hil, List.foldl_cons] at hn
              have hmem : placeAt ps i ∈ ps := List.mem_of_getElem? (placeAt_get hil)
              obtain ⟨q, hq⟩ := List.getElem?_of_mem ((hpm _).1 hmem)
              have hfo := Peel.found_ok ok (knots_get hlt) hq
              rw [← found_pl] at hfo
              obtain ⟨out, ho, hol, hof⟩ := some_ev hfo
              have hbest := best_ev hfo hol
              rw [hof] at hbest
              refine Ev.step (f := fun k => (luciferref01_some.f k xs s (ks.set j ⟨⟨(placeAt ps i).f0, (placeAt ps i).f0⟩, ⟨(placeAt ps i).f1, (placeAt ps i).f1⟩⟩)).bind fun t315 => ((luciferref01_best.f k xs s (ks.set j ⟨⟨(placeAt ps i).f0, (placeAt ps i).f0⟩, ⟨(placeAt ps i).f1, (placeAt ps i).f1⟩⟩) t315).bind fun t318 => (luciferref01_Ask.l1 k b m (j : Int) ps (mn n (t318.length : Int)) (wrap64 ((i : Int) + 1)) xs s ks))) (fun k => ?_) (Ev.bind ho (Ev.bind hbest ?_))
              · simp only [luciferref01_Ask.l1]
                rw [if_pos (by omega), if_pos (by omega)]
                unfold luciferref01_Found.f luciferref00_Only.f luciferref00_Sp.f
                simp only [Option.bind_some, List.nil_append, List.length_nil]
                rw [if_pos (by omega), if_pos (by omega), if_pos (by omega)]
                simp only [Option.bind_some, Int.toNat_natCast]
                rfl
              · rw [wrap_succ _ (by omega), mn_min]
                refine ihe (i + 1) _ (by omega) (by omega) ?_
                rw [← hn]
                rw [found_pl]
                rfl
          refine Ev.step (f := fun k => (luciferref01_places.f k (knotAt ks j).f0.f0 (knotAt ks j).f0.f1 (knotAt ks j).f1.f0 (knotAt ks j).f1.f1).bind fun t301 => ((luciferref00_Total.f k xs).bind fun t304 => (luciferref01_Ask.l1 k b m (j : Int) t301 t304 0 xs s ks))) (fun k => ?_) (Ev.bind hps (Ev.bind (total_ok ok) (inner ps.length 0 _ (by omega) (by omega) (by rw [List.drop_zero]; exact hw))))
          simp only [luciferref01_Ask.l0]
          rw [if_pos (by omega), if_pos (by omega)]
          rfl
      exact Ev.congr (fun k => by rw [if_neg (by omega)]; rfl) (outer ks.length 0 (-1) (-1) (by omega) (by omega) (.inl ⟨rfl, rfl, rfl⟩))
  · rw [if_neg ok]
    exact Ev.bind (bad_if hf ok) (Ev.congr (fun k => by rw [if_neg (by omega)]) (Ev.now _))
end Go.Proofs.YtigofgdmefobaaaDoor.PP
