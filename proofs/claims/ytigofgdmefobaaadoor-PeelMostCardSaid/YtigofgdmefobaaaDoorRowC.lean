/- What rows of this seat take besides: a list of numbers, arrays of three and of four. -/
import Derived.Test.YtigofgdmefobaaaDoorRowB
import Derived.Test.YtigofgdmefobaaaDoorPeelG
set_option linter.unusedVariables false
set_option linter.unusedSimpArgs false
set_option maxRecDepth 100000
namespace Go.Proofs.YtigofgdmefobaaaDoor.Peel
open Go.ChangeShapes Go.WideShapes Go.ChangeAt Go.RowKit
section
variable {H : Type} {enc : TypeId × Value → H} {W : World} {base : Nat}
theorem ints_open {r : Reach} {v : Value} {d : DataW H} {p : List MemPlace} (hv : Value.okWide Tryd.prog W r base 22 v) (h : DataW.Trod enc Tryd.prog W 0 (fun _ => true) true 22 v d p)
    (hsz : ∀ x ∈ DataW.weights Tryd.prog 22 d, x ≤ reachBytes) :
    ∃ (cs : List Int) (C : Option Addr) (n : Nat), v = .slice C cs.length n ∧ CutAt W cs C n := by
  have b3 : Tryd.prog.bytesOf 3 = 8 := by kernel_rfl
  obtain ⟨a0, n0, k0, rfl⟩ := okWide_slice Tryd.underlying22 hv
  obtain ⟨fuel, hf⟩ := h
  rcases open_ints Tryd.underlying22 Tryd.underlying3 (by kernel_rfl) hf with ⟨hcs, _⟩ | ⟨a, len, cap, zs, hcs, _, hl, hm, hz, hx, hcell, _⟩
  · have hv2 : Value.slice a0 n0 k0 = .slice none 0 0 := by simpa [Value.cells] using hcs
    exact ⟨[], none, 0, hv2, fun k hk => by simp at hk, by simp, by simp⟩
  · have hv2 : Value.slice a0 n0 k0 = .slice (some a) len cap := by simpa [Value.cells] using hcs
    have hz' : zs.length = cap := by simpa using hz
    refine ⟨zs.take len, some a, cap, by simp [hz', hl, hv2], fun k hk => ⟨a, rfl, ?_⟩, by simp; omega, ?_⟩
    · have hk' : k < len := by simp at hk; omega
      rw [hcell k (by omega)]
      simp [List.getD_eq_getElem?_getD, hk']
    · have hb := hsz (zs.length * 8) (by
        simp only [Prod.mk.injEq] at hx
        rw [hx.1]
        simp only [DataW.weights, Tryd.underlying22, b3]
        refine List.mem_cons.2 (.inl ?_)
        congr 1
        simp [lits]
        omega)
      simp only [reachBytes] at hb
      simp
      omega
theorem triple_open {r : Reach} {v : Value} {d : DataW H} {p : List MemPlace} (hv : Value.okWide Tryd.prog W r base 26 v) (h : DataW.Trod enc Tryd.prog W 0 (fun _ => true) true 26 v d p) :
    ∃ a b c : Int, v = .agg #[.int .i64 a, .int .i64 b, .int .i64 c] := by
  have c64 : Tryd.prog.cellsOf 26 = 3 := by kernel_rfl
  have c3 : Tryd.prog.cellsOf 3 = 1 := by kernel_rfl
  simp only [Value.okWide, Tryd.underlying26] at hv
  obtain ⟨cs, rfl, hs, _⟩ := hv
  obtain ⟨fuel, hf⟩ := h
  obtain ⟨xs, m, rfl, _, hlen, hxl, hf⟩ := DataW.trod_array Tryd.underlying26 hf
  have h0 := hf 0 (by omega)
  have h1 := hf 1 (by omega)
  have h2 := hf 2 (by omega)
  rw [c3] at h0 h1 h2
  obtain ⟨l⟩ := cs
  rw [c64] at hlen
  match l, hlen with
  | [u, w, s], _ =>
    match xs, hxl with
    | [x0, x1, x2], _ =>
      obtain ⟨a, e0, _, wa⟩ := DataW.trod_int Tryd.underlying3 (show DataW.trod enc Tryd.prog W 0 (fun _ => true) true m 3 [u] = some x0 from h0)
      obtain ⟨b, e1, _, wb⟩ := DataW.trod_int Tryd.underlying3 (show DataW.trod enc Tryd.prog W 0 (fun _ => true) true m 3 [w] = some x1 from h1)
      obtain ⟨c, e2, _, wc⟩ := DataW.trod_int Tryd.underlying3 (show DataW.trod enc Tryd.prog W 0 (fun _ => true) true m 3 [s] = some x2 from h2)
      cases e0
      cases e1
      cases e2
      exact ⟨a, b, c, rfl⟩
theorem quad_open {r : Reach} {v : Value} {d : DataW H} {p : List MemPlace} (hv : Value.okWide Tryd.prog W r base 58 v) (h : DataW.Trod enc Tryd.prog W 0 (fun _ => true) true 58 v d p) :
    ∃ a b c e : Int, v = .agg #[.int .i64 a, .int .i64 b, .int .i64 c, .int .i64 e] := by
  have c64 : Tryd.prog.cellsOf 58 = 4 := by kernel_rfl
  have c3 : Tryd.prog.cellsOf 3 = 1 := by kernel_rfl
  simp only [Value.okWide, Tryd.underlying58] at hv
  obtain ⟨cs, rfl, hs, _⟩ := hv
  obtain ⟨fuel, hf⟩ := h
  obtain ⟨xs, m, rfl, _, hlen, hxl, hf⟩ := DataW.trod_array Tryd.underlying58 hf
  have h0 := hf 0 (by omega)
  have h1 := hf 1 (by omega)
  have h2 := hf 2 (by omega)
  have h3 := hf 3 (by omega)
  rw [c3] at h0 h1 h2 h3
  obtain ⟨l⟩ := cs
  rw [c64] at hlen
  match l, hlen with
  | [u, w, s, t], _ =>
    match xs, hxl with
    | [x0, x1, x2, x3], _ =>
      obtain ⟨a, e0, _, wa⟩ := DataW.trod_int Tryd.underlying3 (show DataW.trod enc Tryd.prog W 0 (fun _ => true) true m 3 [u] = some x0 from h0)
      obtain ⟨b, e1, _, wb⟩ := DataW.trod_int Tryd.underlying3 (show DataW.trod enc Tryd.prog W 0 (fun _ => true) true m 3 [w] = some x1 from h1)
      obtain ⟨c, e2, _, wc⟩ := DataW.trod_int Tryd.underlying3 (show DataW.trod enc Tryd.prog W 0 (fun _ => true) true m 3 [s] = some x2 from h2)
      obtain ⟨e, e3, _, we⟩ := DataW.trod_int Tryd.underlying3 (show DataW.trod enc Tryd.prog W 0 (fun _ => true) true m 3 [t] = some x3 from h3)
      cases e0
      cases e1
      cases e2
      cases e3
      exact ⟨a, b, c, e, rfl⟩
end
end Go.Proofs.YtigofgdmefobaaaDoor.Peel
