/- The reference of package peel answers what the package answers: IsCut, Sure, Whole. -/
import Derived.Test.YtigofgdmefobaaaDoorPPx16
import Derived.Test.YtigofgdmefobaaaDoorPPx21
import Derived.Test.YtigofgdmefobaaaDoorPPx23
import Derived.Test.YtigofgdmefobaaaDoorPureE
set_option linter.unusedVariables false
set_option linter.unusedSimpArgs false
namespace Go.Proofs.YtigofgdmefobaaaDoor.PP
open Go.RowKit Go.Proofs.YtigofgdmefobaaaDoorW.PrintWords Go.Proofs.YtigofgdmefobaaaDoorW.PrintLast Go.Proofs.YtigofgdmefobaaaDoorW.PrintMore
open Peel (PL Kn Sp sumTo)
theorem isCut_ref {xs : List Int} {s : Int} {ks : List SK} (hf : few xs ks) {cs : List Int} (hn : fewI cs) : Ev (fun k => luciferref01_IsCut.f k xs s ks cs) (Peel.isCutS (plOf xs s ks) cs) := by
  unfold Peel.isCutS
  by_cases ok : (plOf xs s ks).Ok
  · rw [if_pos ok]
    exact Ev.bind (ok_if hf ok) (Ev.congr (fun k => by rw [if_pos rfl]) (Ev.bind (isCut_ev ok hn) (Ev.now _)))
  · rw [if_neg ok]
    exact Ev.bind (bad_if hf ok) (Ev.congr (fun k => by rw [if_neg (by omega)]) (Ev.now _))
theorem asked_ok {xs : List Int} {s : Int} {ks : List SK} (hf : few xs ks) (ok : (plOf xs s ks).Ok) (b : Bool) : Ev (fun k => luciferref01_asked.f k xs s ks b) (if b = true then 0 else 11) := by
  refine Ev.bind (ok_if hf ok) (Ev.congr (fun k => by rw [if_pos rfl]) ?_)
  cases b <;> exact Ev.now _
theorem asked_no {xs : List Int} {s : Int} {ks : List SK} (hf : few xs ks) (ok : ¬ (plOf xs s ks).Ok) (b : Bool) : Ev (fun k => luciferref01_asked.f k xs s ks b) 10 :=
  Ev.bind (bad_if hf ok) (Ev.congr (fun k => by rw [if_neg (by omega)]) (Ev.now _))
theorem sure_ref {xs : List Int} {s : Int} {ks : List SK} (hf : few xs ks) {cs : List Int} (hn : fewI cs) : Ev (fun k => luciferref01_Sure.f k xs s ks cs) (Peel.sureS (plOf xs s ks) cs) := by
  unfold Peel.sureS
  by_cases ok : (plOf xs s ks).Ok
  · rw [if_pos ok]
    refine Ev.bind (isCut_ev ok hn) (Ev.bind (asked_ok hf ok _) ?_)
    by_cases hc : (plOf xs s ks).isCut 0 cs = true
    · rw [if_pos hc, if_pos hc]
      obtain ⟨out, ho, hol, hof⟩ := some_ev ok
      refine Ev.congr (fun k => by rw [if_pos rfl]) (Ev.bind ho ?_)
      rw [← hof]
      exact Ev.bind (count_ev ok hol hn (isCut_bd _ (by have := ok.size1; omega) cs 0 (by omega) hc)) (Ev.now _)
    · rw [if_neg hc, if_neg hc]
      exact Ev.congr (fun k => by rw [if_neg (by omega)]) (Ev.now _)
  · rw [if_neg ok]
    obtain ⟨b, hb⟩ := isCut_any_ev (s := s) hf hn
    exact Ev.bind hb (Ev.bind (asked_no hf ok b) (Ev.congr (fun k => by rw [if_neg (by omega)]) (Ev.now _)))
theorem whole_ref {xs : List Int} {s : Int} {ks : List SK} (hf : few xs ks) {cs : List Int} (hn : fewI cs) : Ev (fun k => luciferref01_Whole.f k xs s ks cs) ((Peel.wholeS (plOf xs s ks) cs).1.1, (Peel.wholeS (plOf xs s ks) cs).1.2, (Peel.wholeS (plOf xs s ks) cs).2) := by
  unfold Peel.wholeS
  by_cases ok : (plOf xs s ks).Ok
  · rw [if_pos ok]
    refine Ev.bind (isCut_ev ok hn) (Ev.bind (asked_ok hf ok _) ?_)
    by_cases hc : (plOf xs s ks).isCut 0 cs = true
    · rw [if_pos hc, if_pos hc]
      obtain ⟨T, hT, hTl, hTn, hTa, hTm⟩ := all_ev ok
      have hcb := isCut_bd _ (by have := ok.size1; omega) cs 0 (by omega) hc
      have loop : ∀ (d i : Nat) (lo hi : Int), i ≤ T.length → T.length - i = d → Ev (fun k => luciferref01_Whole.l0 k cs T (i : Int) xs s ks lo hi) ((T.drop i).foldl (fun n t => min n ((plOf xs s ks).count (asF t) cs)) lo, (T.drop i).foldl (fun n t => max n ((plOf xs s ks).count (asF t) cs)) hi, 0) := by
        intro d
        induction d with
        | zero =>
          intro i lo hi hi' hd
          obtain rfl : i = T.length := by omega
          refine Ev.step (fun k => ?_) (Ev.now _)
          simp only [luciferref01_Whole.l0]
          rw [if_neg (by omega), List.drop_length]
          rfl
        | succ d ih =>
          intro i lo hi hi' hd
          have hlt : i < T.length := by omega
          refine Ev.step (f := fun k => (luciferref01_count.f k xs s ks (rowAt T i) cs).bind fun t222 => ((luciferref00_Sp.f (mn lo t222) (mx hi t222)).bind fun bt223 => (luciferref01_Whole.l0 k cs T (wrap64 ((i : Int) + 1)) xs s ks bt223.1 bt223.2))) (fun k => ?_) (Ev.bind (count_ev ok (hTa _ (rowAt_mem hlt)) hn hcb) ?_)
          · simp only [luciferref01_Whole.l0]
            rw [if_pos (by omega), if_pos (by omega)]
            rfl
          · rw [rowAt_drop hlt]
            simp only [List.foldl_cons, luciferref00_Sp.f, Option.bind_some, mn_min, mx_max]
            rw [wrap_succ _ (by omega)]
            exact ih (i + 1) _ _ (by omega) (by omega)
      refine Ev.congr (f := fun k => (luciferref01_All.f k xs s ks).bind fun t218 => (luciferref01_Whole.l0 k cs t218 0 xs s ks (cs.length : Int) 0)) (fun k => by rw [if_pos rfl]; rfl) (Ev.bind hT ?_)
      have h := loop T.length 0 (cs.length : Int) 0 (by omega) (by omega)
      rw [List.drop_zero, fold_min_same' (fun t => (plOf xs s ks).count (asF t) cs) (fun r => (plOf xs s ks).count r cs) T _ _ hTm, fold_max_same' (fun t => (plOf xs s ks).count (asF t) cs) (fun r => (plOf xs s ks).count r cs) T _ _ hTm] at h
      exact h
    · rw [if_neg hc, if_neg hc]
      exact Ev.congr (fun k => by rw [if_neg (by omega)]) (Ev.now _)
  · rw [if_neg ok]
    obtain ⟨b, hb⟩ := isCut_any_ev (s := s) hf hn
    exact Ev.bind hb (Ev.bind (asked_no hf ok b) (Ev.congr (fun k => by rw [if_neg (by omega)]) (Ev.now _)))
end Go.Proofs.YtigofgdmefobaaaDoor.PP
