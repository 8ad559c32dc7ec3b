/- PeelBests over the printed functions. -/
import Derived.Test.YtigofgdmefobaaaDoorPPx33
import Derived.Test.YtigofgdmefobaaaDoorPureEB
import Derived.Test.YtigofgdmefobaaaDoorLawsA
set_option linter.unusedVariables false
set_option linter.unusedSimpArgs false
namespace Go.Proofs.YtigofgdmefobaaaDoor.PP
open Go.RowKit Go.Proofs.YtigofgdmefobaaaDoorW.PrintWords Go.Proofs.YtigofgdmefobaaaDoorW.PrintLast Go.Proofs.YtigofgdmefobaaaDoorW.PrintMore
open Peel (PL Kn Sp sumTo RawAt CutAt EndsAt)
theorem bests_pure (xs : List Int) (s : Int) (ks : List SK) (hf : few xs ks) : ∃ k, luciferlaw01_PeelBests.f k xs s ks = some true := by
  refine Ev.rounds (g := fun k => luciferlaw01_PeelBests.f k xs s ks) ?_
  have g1 : peel_Best.f xs s ks = some _ := given hf _
  have g2 : peel_Waste.f xs s ks = some _ := given hf _
  have g3 : peel_Hope.f xs s ks = some _ := given hf _
  have g4 : peel_Ask.f xs s ks = some _ := given hf _
  have hl : fewI (Peel.bestS (plOf xs s ks)).1 := by
    unfold fewI Peel.bestS
    by_cases ok : (plOf xs s ks).Ok
    · rw [if_pos ok]
      have := Peel.cut_len (plOf xs s ks) (plOf xs s ks).possible
      dsimp only
      omega
    · rw [if_neg ok]; simp
  refine Ev.congr (fun k => by unfold luciferlaw01_PeelBests.f; rw [g1, Option.bind_some]) (Ev.bind (best_ref hf) (Ev.bind (alike_ev _ _ hl) ?_))
  refine Ev.congr (f := fun k => luciferlaw01_PeelBests.j0 k false xs s ks) (fun k => by simp) ?_
  refine Ev.step (fun k => by simp only [luciferlaw01_PeelBests.j0]; rw [if_neg (by simp), g2, Option.bind_some]) (Ev.bind (waste_ref hf) ?_)
  refine Ev.congr (f := fun k => luciferlaw01_PeelBests.j1 k false xs s ks) (fun k => by simp) ?_
  refine Ev.step (fun k => by simp only [luciferlaw01_PeelBests.j1]; rw [if_neg (by simp), g3, Option.bind_some]) (Ev.bind (hope_ref hf) ?_)
  refine Ev.congr (f := fun k => luciferlaw01_PeelBests.j2 k false xs s ks) (fun k => by simp) ?_
  refine Ev.step (fun k => by simp only [luciferlaw01_PeelBests.j2]; rw [if_neg (by simp), g4, Option.bind_some]) (Ev.bind (ask_ref hf) ?_)
  exact Ev.congr (fun k => by simp [luciferlaw01_peeled.f]) (Ev.now _)
theorem bests_walk {w : World} {l : PL} {A B : Option Addr} {c d : Nat} (h : RawAt w l A B c d) (he : EndsAt w) :
    Calls Tryd.prog 5 #[.agg #[.slice A l.long.length c, .int .i64 l.size, .slice B l.knots.length d]] w fun e w' => e = .returned (.bool true) ∧ Below w.heap.size w w' := by
  obtain ⟨k, hk⟩ := bests_pure l.long l.size (l.knots.map unKn) (few_un h)
  have := luciferlaw01_PeelBests.calls k A c l.long l.size B d (l.knots.map unKn) true w (long_c h) h.c (knots_c h) (by rw [len_un]; exact h.d) he hk
  rwa [len_un] at this
end Go.Proofs.YtigofgdmefobaaaDoor.PP
