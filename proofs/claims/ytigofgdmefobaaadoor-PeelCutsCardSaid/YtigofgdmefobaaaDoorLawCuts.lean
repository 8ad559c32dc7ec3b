/- PeelCuts over the printed functions. -/
import Derived.Test.YtigofgdmefobaaaDoorPPx24
import Derived.Test.YtigofgdmefobaaaDoorPureEC
import Derived.Test.YtigofgdmefobaaaDoorLawsA
set_option linter.unusedVariables false
set_option linter.unusedSimpArgs false
namespace Go.Proofs.YtigofgdmefobaaaDoor.PP
open Go.RowKit Go.Proofs.YtigofgdmefobaaaDoorW.PrintWords Go.Proofs.YtigofgdmefobaaaDoorW.PrintLast Go.Proofs.YtigofgdmefobaaaDoorW.PrintMore
open Peel (PL Kn Sp sumTo RawAt CutAt EndsAt)
theorem cuts_pure (xs : List Int) (s : Int) (ks : List SK) (cs : List Int) (hf : few xs ks) (hn : fewI cs) : ∃ k, luciferlaw01_PeelCuts.f k xs s ks cs = some true := by
  refine Ev.rounds (g := fun k => luciferlaw01_PeelCuts.f k xs s ks cs) ?_
  have g1 : peel_IsCut.f xs s ks cs = some _ := given ⟨hf, hn⟩ _
  have g2 : peel_Sure.f xs s ks cs = some _ := given ⟨hf, hn⟩ _
  have g3 : peel_Whole.f xs s ks cs = some _ := given ⟨hf, hn⟩ _
  refine Ev.congr (fun k => by unfold luciferlaw01_PeelCuts.f; rw [g1, Option.bind_some]) (Ev.bind (isCut_ref hf hn) ?_)
  refine Ev.congr (f := fun k => luciferlaw01_PeelCuts.j0 k cs false xs s ks) (fun k => by simp) ?_
  refine Ev.step (fun k => by simp only [luciferlaw01_PeelCuts.j0]; rw [if_neg (by simp), g2, Option.bind_some]) (Ev.bind (sure_ref hf hn) ?_)
  refine Ev.congr (f := fun k => luciferlaw01_PeelCuts.j1 k cs false xs s ks) (fun k => by simp) ?_
  refine Ev.step (fun k => by simp only [luciferlaw01_PeelCuts.j1]; rw [if_neg (by simp), g3, Option.bind_some]) (Ev.bind (whole_ref hf hn) ?_)
  exact Ev.congr (fun k => by simp [luciferlaw01_peeled.f]) (Ev.now _)
theorem cuts_walk {w : World} {l : PL} {A B : Option Addr} {c d : Nat} (h : RawAt w l A B c d) (he : EndsAt w) {cs : List Int} {C : Option Addr} {n : Nat} (hC : CutAt w cs C n) :
    Calls Tryd.prog 4 #[.agg #[.slice A l.long.length c, .int .i64 l.size, .slice B l.knots.length d], .slice C cs.length n] w fun e w' => e = .returned (.bool true) ∧ Below w.heap.size w w' := by
  obtain ⟨k, hk⟩ := cuts_pure l.long l.size (l.knots.map unKn) cs (few_un h) hC.len
  have := luciferlaw01_PeelCuts.calls k A c l.long l.size B d (l.knots.map unKn) C n cs true w (long_c h) h.c (knots_c h) (by rw [len_un]; exact h.d) (c_of_cut hC) hC.cap he hk
  rwa [len_un] at this
end Go.Proofs.YtigofgdmefobaaaDoor.PP
