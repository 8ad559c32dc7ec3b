/- What every row of this seat takes: the variable's two functions, a world that meets the condition, arrays of numbers. -/
import Derived.Test.YtigofgdmefobaaaDoorRows
import Derived.Test.YtigofgdmefobaaaDoorRowA
import Derived.Test.YtigofgdmefobaaaDoorPeelK
import Derived.ProofKit
import Derived.LaidMore
import Derived.OpenShut
import Derived.Stop.Joined
set_option linter.unusedVariables false
set_option linter.unusedSimpArgs false
set_option maxRecDepth 100000
namespace Go.Proofs.YtigofgdmefobaaaDoor.Peel
open Go.ChangeShapes Go.WideShapes Go.ChangeAt Go.RowKit
abbrev laid1 {H : Type} : List (String × DataW H) := [("lucifer/peel.ends", Rows.laid_lucifer_peel_ends)]
theorem own : ownKnob Tryd.prog.godebug = none := by kernel_rfl
theorem laidOut : laidOutB Tryd.prog = true := by kernel_rfl
theorem door_met (os : Os) (args : Array Value) : laidMetH Tryd.prog laid1 ((World.doorLaid Tryd.prog 14 os).forCall (fun _ _ => 0) ⟨#[], args, []⟩).memory :=
  laidMetH_of_parts3 (fuel := 8) (laidMet_of_run' 8 (by kernel_rfl) (by kernel_rfl)) (by kernel_rfl) (by kernel_rfl)
theorem of_laid {W : World} (h : laidMetH Tryd.prog laid1 W) : EndsAt W := by
  obtain ⟨g, t, cs, fuel, p, hg, ht, hv, hd⟩ := h.funcs (List.mem_singleton.2 rfl)
  obtain rfl := Option.some.inj ((show Tryd.prog.globalNamed "lucifer/peel.ends" = some 0 by kernel_rfl).symm.trans hg)
  obtain rfl := Option.some.inj ((show (Tryd.prog.globals[0]?).map (·.type) = some 120 by kernel_rfl).symm.trans ht)
  have hd' : DataW.trod (funcToken Tryd.prog) Tryd.prog W 0 (fun _ => true) true fuel 120 cs.toList = some (.agg [.held [40, 108, 117, 99, 105, 102, 101, 114, 47, 112, 101, 101, 108, 46, 108, 111, 103, 41, 46, 102, 105, 114, 115, 116], .held [40, 108, 117, 99, 105, 102, 101, 114, 47, 112, 101, 101, 108, 46, 108, 111, 103, 41, 46, 108, 97, 115, 116]], p) := hd
  obtain ⟨xs, m, rfl, hx, hlen, hxl, hf⟩ := DataW.trod_array Tryd.underlying120 hd'
  have c120 : Tryd.prog.cellsOf 120 = 2 := by kernel_rfl
  have c119 : Tryd.prog.cellsOf 119 = 1 := by kernel_rfl
  rw [c120] at hlen
  have h0 := hf 0 (by omega)
  have h1 := hf 1 (by omega)
  rw [c119] at h0 h1
  obtain ⟨l⟩ := cs
  match l, hlen with
  | [u, v], _ =>
    match xs, hxl with
    | [x0, x1], _ =>
      simp only [Prod.mk.injEq, DataW.agg.injEq, List.map_cons, List.map_nil, List.cons.injEq] at hx
      obtain ⟨⟨e0, e1, _⟩, _⟩ := hx
      obtain ⟨y0, z0⟩ := x0
      obtain ⟨y1, z1⟩ := x1
      obtain rfl : y0 = _ := e0.symm
      obtain rfl : y1 = _ := e1.symm
      obtain rfl := func_of_trod (f0 := 113) (v := u) Tryd.underlying119 (by kernel_rfl) (show DataW.trod (funcToken Tryd.prog) Tryd.prog W 0 (fun _ => true) true m 119 [u] = _ from h0)
      obtain rfl := func_of_trod (f0 := 114) (v := v) Tryd.underlying119 (by kernel_rfl) (show DataW.trod (funcToken Tryd.prog) Tryd.prog W 0 (fun _ => true) true m 119 [v] = _ from h1)
      exact ⟨by simpa using World.var?_cell hg hv 0, by simpa using World.var?_cell hg hv 1⟩
section
variable {H : Type} {enc : TypeId × Value → H} {W : World} {base : Nat}
/-- An array of two numbers that came in. -/
theorem pair_open {r : Reach} {v : Value} {d : DataW H} {p : List MemPlace} (hv : Value.okWide Tryd.prog W r base 64 v) (h : DataW.Trod enc Tryd.prog W 0 (fun _ => true) true 64 v d p) :
    ∃ a b : Int, v = .agg #[.int .i64 a, .int .i64 b] ∧ (Lit.int .i64 a).wf = true ∧ (Lit.int .i64 b).wf = true := by
  have c64 : Tryd.prog.cellsOf 64 = 2 := by kernel_rfl
  have c3 : Tryd.prog.cellsOf 3 = 1 := by kernel_rfl
  simp only [Value.okWide, Tryd.underlying64] at hv
  obtain ⟨cs, rfl, hs, _⟩ := hv
  obtain ⟨fuel, hf⟩ := h
  obtain ⟨xs, m, rfl, _, hlen, hxl, hf⟩ := DataW.trod_array Tryd.underlying64 hf
  have h0 := hf 0 (by omega)
  have h1 := hf 1 (by omega)
  rw [c3] at h0 h1
  obtain ⟨l⟩ := cs
  rw [c64] at hlen
  match l, hlen with
  | [u, w], _ =>
    match xs, hxl with
    | [x0, x1], _ =>
      obtain ⟨a, e0, _, wa⟩ := DataW.trod_int Tryd.underlying3 (show DataW.trod enc Tryd.prog W 0 (fun _ => true) true m 3 [u] = some x0 from h0)
      obtain ⟨b, e1, _, wb⟩ := DataW.trod_int Tryd.underlying3 (show DataW.trod enc Tryd.prog W 0 (fun _ => true) true m 3 [w] = some x1 from h1)
      cases e0
      cases e1
      exact ⟨a, b, rfl, wa, wb⟩
end
end Go.Proofs.YtigofgdmefobaaaDoor.Peel
