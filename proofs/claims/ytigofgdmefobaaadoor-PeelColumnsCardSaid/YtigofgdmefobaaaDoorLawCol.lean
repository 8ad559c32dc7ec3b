/- PeelColumns over the printed functions. -/
import Derived.Test.YtigofgdmefobaaaDoorPPxf3
import Derived.Test.YtigofgdmefobaaaDoorPureEK
import Derived.Test.YtigofgdmefobaaaDoorLawsA
set_option linter.unusedVariables false
set_option linter.unusedSimpArgs false
namespace Go.Proofs.YtigofgdmefobaaaDoor.PP
open Go.RowKit Go.Proofs.YtigofgdmefobaaaDoorW.PrintWords Go.Proofs.YtigofgdmefobaaaDoorW.PrintLast Go.Proofs.YtigofgdmefobaaaDoorW.PrintMore
open Peel (PL Kn Sp sumTo RawAt CutAt EndsAt)
theorem columns_pure (xs : List Int) (s : Int) (ks : List SK) (t a c : Int) (hf : few xs ks) : ∃ k, luciferlaw01_PeelColumns.f k xs s ks t a c = some true := by
  refine Ev.rounds (g := fun k => luciferlaw01_PeelColumns.f k xs s ks t a c) ?_
  have g1 : peel_Ribbon.f xs s ks = some _ := given hf _
  have g2 : peel_Check.f xs s ks = some _ := given hf _
  have g3 : peel_Column.f xs s ks t a = some _ := given hf _
  have g4 : peel_Knotty.f xs s ks c = some _ := given hf _
  refine Ev.congr (fun k => by unfold luciferlaw01_PeelColumns.f; rw [g1, Option.bind_some]) (Ev.bind (ribbon_ref hf) ?_)
  simp only [g2, Option.bind_some, if_true]
  refine Ev.bind (check_ev xs s ks hf) ?_
  refine Ev.congr (f := fun k => luciferlaw01_PeelColumns.j0 k false xs s ks t a c) (fun k => by simp) ?_
  refine Ev.step (fun k => by simp only [luciferlaw01_PeelColumns.j0]; rw [if_neg (by simp), g3, Option.bind_some]) (Ev.bind (column_ref hf t a) ?_)
  refine Ev.congr (f := fun k => luciferlaw01_PeelColumns.j1 k false xs s ks t a c) (fun k => by simp) ?_
  refine Ev.step (fun k => by simp only [luciferlaw01_PeelColumns.j1]; rw [if_neg (by simp), g4, Option.bind_some]) (Ev.bind (knotty_ref hf c) ?_)
  exact Ev.congr (fun k => by simp [luciferlaw01_peeled.f]) (Ev.now _)
theorem columns_walk {w : World} {l : PL} {A B : Option Addr} {c d : Nat} (h : RawAt w l A B c d) (he : EndsAt w) (x y z : Int) :
    Calls Tryd.prog 3 #[.agg #[.slice A l.long.length c, .int .i64 l.size, .slice B l.knots.length d], .agg #[.int .i64 x, .int .i64 y, .int .i64 z]] w fun e w' => e = .returned (.bool true) ∧ Below w.heap.size w w' := by
  obtain ⟨k, hk⟩ := columns_pure l.long l.size (l.knots.map unKn) x y z (few_un h)
  have := luciferlaw01_PeelColumns.calls k A c l.long l.size B d (l.knots.map unKn) x y z true w (long_c h) h.c (knots_c h) (by rw [len_un]; exact h.d) he rfl hk
  rwa [len_un] at this
end Go.Proofs.YtigofgdmefobaaaDoor.PP
