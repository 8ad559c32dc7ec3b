/- What a row's arguments open to. -/
import Derived.Test.YtigofgdmefobaaaDoorG1
import Derived.Test.YtigofgdmefobaaaDoorProg
import Derived.Lib.SmallJoins
import Derived.Deep.Slices
import Derived.ChangeSlices
import Derived.Carry
import GoSem.ClaimJoined
import Derived.Test.YtigofgdmefobaaaDoorRows
import Derived.Test.YtigofgdmefobaaaDoorG2
import Derived.ProofKit
import Derived.LaidMore
import Derived.OpenShut
import Derived.Stop.Joined
/- From an argument that is read as data to the log that the walks take. -/
set_option linter.unusedVariables false
set_option linter.unusedSimpArgs false
set_option maxRecDepth 100000
namespace Go.Proofs.YtigofgdmefobaaaDoor.Peel
open Go.ChangeShapes Go.WideShapes Go.RowKit Go.Joins Go.Deep
theorem list_of {α : Type} {Q : Nat → α → Prop} : ∀ (n : Nat), (∀ i, i < n → ∃ x, Q i x) → ∃ xs : List α, xs.length = n ∧ ∀ i x, xs[i]? = some x → Q i x := by
  intro n
  induction n with
  | zero => intro _; exact ⟨[], rfl, fun i x h => by simp at h⟩
  | succ n ih =>
    intro h
    obtain ⟨xs, hl, hx⟩ := ih (fun i hi => h i (by omega))
    obtain ⟨x, hxn⟩ := h n (by omega)
    refine ⟨xs ++ [x], by simp [hl], fun i y hy => ?_⟩
    rcases Nat.lt_or_ge i n with hi | hi
    · rw [List.getElem?_append_left (by omega)] at hy
      exact hx i y hy
    · rw [List.getElem?_append_right (by omega), hl] at hy
      have : i - n = 0 := by
        have := (List.getElem?_eq_some_iff.1 hy).1
        simp at this
        omega
      rw [this] at hy
      obtain rfl : i = n := by omega
      cases hy
      exact hxn
section
variable {H : Type} {enc : TypeId × Value → H} {W : World} {base : Nat}
theorem span_open {n : Nat} {cs : List Value} {x : DataW H × List MemPlace} (h : DataW.trod enc Tryd.prog W 0 (fun _ => true) true n 39 cs = some x) : ∃ a b, cs = [.int .i64 a, .int .i64 b] := by
  obtain ⟨xs, m, rfl, rfl, hlen, hxl, hf⟩ := DataW.trod_struct Tryd.underlying39 h
  have c39 : Tryd.prog.cellsOf 39 = 2 := by kernel_rfl
  have c3 : Tryd.prog.cellsOf 3 = 1 := by kernel_rfl
  rw [c39] at hlen
  match cs, hlen with
  | [u, v], _ =>
    have h0 : DataW.trod enc Tryd.prog W 0 (fun _ => true) true m 3 (([u, v].drop 0).take (Tryd.prog.cellsOf 3)) = xs[0]? := hf 0 _ rfl
    have h1 : DataW.trod enc Tryd.prog W 0 (fun _ => true) true m 3 (([u, v].drop 1).take (Tryd.prog.cellsOf 3)) = xs[1]? := hf 1 _ rfl
    rw [c3] at h0 h1
    match xs, hxl with
    | [x0, x1], _ =>
      obtain ⟨a, e0, _, _⟩ := DataW.trod_int Tryd.underlying3 (show DataW.trod enc Tryd.prog W 0 (fun _ => true) true m 3 [u] = some x0 from h0)
      obtain ⟨b, e1, _, _⟩ := DataW.trod_int Tryd.underlying3 (show DataW.trod enc Tryd.prog W 0 (fun _ => true) true m 3 [v] = some x1 from h1)
      cases e0
      cases e1
      exact ⟨a, b, rfl⟩
theorem knot_open {n : Nat} {cs : List Value} {x : DataW H × List MemPlace} (h : DataW.trod enc Tryd.prog W 0 (fun _ => true) true n 61 cs = some x) : ∃ k : Kn, cs = [.int .i64 k.a.lo, .int .i64 k.a.hi, .int .i64 k.f.lo, .int .i64 k.f.hi] := by
  obtain ⟨xs, m, rfl, rfl, hlen, hxl, hf⟩ := DataW.trod_struct Tryd.underlying61 h
  have c61 : Tryd.prog.cellsOf 61 = 4 := by kernel_rfl
  have c39 : Tryd.prog.cellsOf 39 = 2 := by kernel_rfl
  rw [c61] at hlen
  match cs, hlen with
  | [u, v, s, t], _ =>
    have h0 : DataW.trod enc Tryd.prog W 0 (fun _ => true) true m 39 (([u, v, s, t].drop 0).take (Tryd.prog.cellsOf 39)) = xs[0]? := hf 0 _ rfl
    have h1 : DataW.trod enc Tryd.prog W 0 (fun _ => true) true m 39 (([u, v, s, t].drop 2).take (Tryd.prog.cellsOf 39)) = xs[1]? := hf 1 _ rfl
    rw [c39] at h0 h1
    match xs, hxl with
    | [x0, x1], _ =>
      obtain ⟨a, b, e0⟩ := span_open (show DataW.trod enc Tryd.prog W 0 (fun _ => true) true m 39 [u, v] = some x0 from h0)
      obtain ⟨c, d, e1⟩ := span_open (show DataW.trod enc Tryd.prog W 0 (fun _ => true) true m 39 [s, t] = some x1 from h1)
      cases e0
      cases e1
      exact ⟨⟨⟨a, b⟩, ⟨c, d⟩⟩, rfl⟩
theorem log_open {r : Reach} {v : Value} {d : DataW H} {p : List MemPlace} (hv : Value.okWide Tryd.prog W r base 25 v) (h : DataW.Trod enc Tryd.prog W 0 (fun _ => true) true 25 v d p)
    (hsz : ∀ x ∈ DataW.weights Tryd.prog 25 d, x ≤ reachBytes) :
    ∃ (l : PL) (A B : Option Addr) (c e : Nat), v = .agg #[.slice A l.long.length c, .int .i64 l.size, .slice B l.knots.length e] ∧ RawAt W l A B c e := by
  obtain ⟨v0, v1, v2, y0, y1, y2, n, rfl, rfl, rfl, h0, h1, h2⟩ := open_agg3 Tryd.underlying25 (by kernel_rfl) (by kernel_rfl) hv h
  have hw := hsz
  simp only [DataW.weights, Tryd.underlying25, DataW.weightsEach, Array.toList, List.map, List.mem_append] at hw
  obtain ⟨size, e1, _, _⟩ := DataW.trod_int Tryd.underlying3 h1
  cases e1
  have c61 : Tryd.prog.cellsOf 61 = 4 := by kernel_rfl
  have b3 : Tryd.prog.bytesOf 3 = 8 := by kernel_rfl
  have b61 : Tryd.prog.bytesOf 61 = 32 := by kernel_rfl
  obtain ⟨A, long, c, rfl, hlong, hc, hn⟩ : ∃ (A : Option Addr) (long : List Int) (c : Nat), v0 = .slice A long.length c ∧ (∀ k, k < long.length → ∃ a, A = some a ∧ W.cell? (a.add k) = some (.int .i64 (long.getD k 0))) ∧ long.length ≤ c ∧ long.length ≤ 4611686018427387904 := by
    rcases open_ints Tryd.underlying22 Tryd.underlying3 (by kernel_rfl) h0 with ⟨hcs, _⟩ | ⟨a, len, cap, zs, hcs, _, hl, hm, hz, hx, hcell, _⟩
    · cases hcs
      exact ⟨none, [], 0, rfl, fun k hk => by simp at hk, Nat.le_refl _, by simp⟩
    · cases hcs
      have hz' : zs.length = cap := by simpa using hz
      refine ⟨some a, zs.take len, cap, by simp [hz', hl], fun k hk => ⟨a, rfl, ?_⟩, by simp; omega, ?_⟩
      · have hk' : k < len := by simp at hk; omega
        rw [hcell k (by omega)]
        simp [List.getD_eq_getElem?_getD, hk']
      · have hb := hw (zs.length * 8) (by
          rw [hx]
          simp only [DataW.weights, Tryd.underlying22, b3]
          refine .inl (List.mem_cons.2 (.inl ?_))
          congr 1
          simp [lits]
          omega)
        simp only [reachBytes] at hb
        simp
        omega
  obtain ⟨B, knots, e, rfl, hknots, he, hm⟩ : ∃ (B : Option Addr) (knots : List Kn) (e : Nat), v2 = .slice B knots.length e ∧ (∀ k x, knots[k]? = some x → ∃ b, B = some b ∧ W.cell? (b.add (k * 4)) = some (.int .i64 x.a.lo) ∧ W.cell? ⟨(b.add (k * 4)).block, (b.add (k * 4)).off + 1, none⟩ = some (.int .i64 x.a.hi) ∧ W.cell? ⟨(b.add (k * 4)).block, (b.add (k * 4)).off + 2, none⟩ = some (.int .i64 x.f.lo) ∧ W.cell? ⟨(b.add (k * 4)).block, (b.add (k * 4)).off + 3, none⟩ = some (.int .i64 x.f.hi)) ∧ knots.length ≤ e ∧ knots.length ≤ 4611686018427387904 := by
    rcases open_slice Tryd.underlying23 h2 with ⟨hcs, _⟩ | ⟨a, len, cap, mm, nn, D, Pl, hcs, _, hl, hm, hmm, hx, hi⟩
    · cases hcs
      exact ⟨none, [], 0, rfl, fun k x hk => by simp at hk, Nat.le_refl _, by simp⟩
    · cases hcs
      have hmm' : mm = cap := by simpa using hmm
      subst hmm'
      obtain ⟨xs, hxl, hxs⟩ := list_of (Q := fun i (x : Kn) => W.cell? (a.add (i * 4)) = some (.int .i64 x.a.lo) ∧ W.cell? ⟨(a.add (i * 4)).block, (a.add (i * 4)).off + 1, none⟩ = some (.int .i64 x.a.hi) ∧ W.cell? ⟨(a.add (i * 4)).block, (a.add (i * 4)).off + 2, none⟩ = some (.int .i64 x.f.lo) ∧ W.cell? ⟨(a.add (i * 4)).block, (a.add (i * 4)).off + 3, none⟩ = some (.int .i64 x.f.hi)) len (fun i hil => by
        obtain ⟨cs', hcs', ht'⟩ := hi i (by omega)
        rw [c61] at hcs'
        obtain ⟨_, _, hat⟩ := World.cells?_some hcs'
        obtain ⟨x, rfl⟩ := knot_open ht'
        have a0 := hat 0 (by omega)
        have a1 := hat 1 (by omega)
        have a2 := hat 2 (by omega)
        have a3 := hat 3 (by omega)
        refine ⟨x, ?_, ?_, ?_, ?_⟩
        · simpa [Addr.add] using a0
        · simpa [Addr.add] using a1
        · simpa [Addr.add] using a2
        · simpa [Addr.add] using a3)
      refine ⟨some a, xs, mm, by rw [hxl], fun k x hk => ⟨a, rfl, hxs k x hk⟩, by omega, ?_⟩
      have hb := hw (mm * 32) (by
        rw [hx]
        simp only [DataW.weights, Tryd.underlying23, b61]
        refine .inr (.inr (.inl (List.mem_cons.2 (.inl ?_))))
        congr 1
        simp
        omega)
      simp only [reachBytes] at hb
      omega
  exact ⟨⟨long, size, knots⟩, A, B, c, e, rfl, ⟨hlong, hknots, hc, he, hn, hm⟩⟩
end
end Go.Proofs.YtigofgdmefobaaaDoor.Peel

/- What every row of this seat takes: the variable's two functions, a world that meets the condition, arrays of numbers. -/
set_option linter.unusedVariables false
set_option linter.unusedSimpArgs false
set_option maxRecDepth 100000
namespace Go.Proofs.YtigofgdmefobaaaDoor.Peel
open Go.ChangeShapes Go.WideShapes Go.ChangeAt Go.RowKit
abbrev laid1 {H : Type} : List (String × DataW H) := [("lucifer/peel.ends", Rows.laid_lucifer_peel_ends)]
theorem own : ownKnob Tryd.prog.godebug = none := by kernel_rfl
theorem laidOut : laidOutB Tryd.prog = true := by kernel_rfl
theorem door_met (os : Os) (args : Array Value) : laidMetH Tryd.prog laid1 ((World.doorLaid Tryd.prog 14 os).forCall (fun _ _ => 0) ⟨#[], args, []⟩).memory :=
  laidMetH_of_parts3 (fuel := 8) (laidMet_of_run' 8 (by kernel_rfl) (by kernel_rfl)) (by kernel_rfl) (by kernel_rfl)
theorem of_laid {W : World} (h : laidMetH Tryd.prog laid1 W) : EndsAt W := by
  obtain ⟨g, t, cs, fuel, p, hg, ht, hv, hd⟩ := h.funcs (List.mem_singleton.2 rfl)
  obtain rfl := Option.some.inj ((show Tryd.prog.globalNamed "lucifer/peel.ends" = some 0 by kernel_rfl).symm.trans hg)
  obtain rfl := Option.some.inj ((show (Tryd.prog.globals[0]?).map (·.type) = some 120 by kernel_rfl).symm.trans ht)
  have hd' : DataW.trod (funcToken Tryd.prog) Tryd.prog W 0 (fun _ => true) true fuel 120 cs.toList = some (.agg [.held [40, 108, 117, 99, 105, 102, 101, 114, 47, 112, 101, 101, 108, 46, 108, 111, 103, 41, 46, 102, 105, 114, 115, 116], .held [40, 108, 117, 99, 105, 102, 101, 114, 47, 112, 101, 101, 108, 46, 108, 111, 103, 41, 46, 108, 97, 115, 116]], p) := hd
  obtain ⟨xs, m, rfl, hx, hlen, hxl, hf⟩ := DataW.trod_array Tryd.underlying120 hd'
  have c120 : Tryd.prog.cellsOf 120 = 2 := by kernel_rfl
  have c119 : Tryd.prog.cellsOf 119 = 1 := by kernel_rfl
  rw [c120] at hlen
  have h0 := hf 0 (by omega)
  have h1 := hf 1 (by omega)
  rw [c119] at h0 h1
  obtain ⟨l⟩ := cs
  match l, hlen with
  | [u, v], _ =>
    match xs, hxl with
    | [x0, x1], _ =>
      simp only [Prod.mk.injEq, DataW.agg.injEq, List.map_cons, List.map_nil, List.cons.injEq] at hx
      obtain ⟨⟨e0, e1, _⟩, _⟩ := hx
      obtain ⟨y0, z0⟩ := x0
      obtain ⟨y1, z1⟩ := x1
      obtain rfl : y0 = _ := e0.symm
      obtain rfl : y1 = _ := e1.symm
      obtain rfl := func_of_trod (f0 := 113) (v := u) Tryd.underlying119 (by kernel_rfl) (show DataW.trod (funcToken Tryd.prog) Tryd.prog W 0 (fun _ => true) true m 119 [u] = _ from h0)
      obtain rfl := func_of_trod (f0 := 114) (v := v) Tryd.underlying119 (by kernel_rfl) (show DataW.trod (funcToken Tryd.prog) Tryd.prog W 0 (fun _ => true) true m 119 [v] = _ from h1)
      exact ⟨by simpa using World.var?_cell hg hv 0, by simpa using World.var?_cell hg hv 1⟩
section
variable {H : Type} {enc : TypeId × Value → H} {W : World} {base : Nat}
/-- An array of two numbers that came in. -/
theorem pair_open {r : Reach} {v : Value} {d : DataW H} {p : List MemPlace} (hv : Value.okWide Tryd.prog W r base 64 v) (h : DataW.Trod enc Tryd.prog W 0 (fun _ => true) true 64 v d p) :
    ∃ a b : Int, v = .agg #[.int .i64 a, .int .i64 b] ∧ (Lit.int .i64 a).wf = true ∧ (Lit.int .i64 b).wf = true := by
  have c64 : Tryd.prog.cellsOf 64 = 2 := by kernel_rfl
  have c3 : Tryd.prog.cellsOf 3 = 1 := by kernel_rfl
  simp only [Value.okWide, Tryd.underlying64] at hv
  obtain ⟨cs, rfl, hs, _⟩ := hv
  obtain ⟨fuel, hf⟩ := h
  obtain ⟨xs, m, rfl, _, hlen, hxl, hf⟩ := DataW.trod_array Tryd.underlying64 hf
  have h0 := hf 0 (by omega)
  have h1 := hf 1 (by omega)
  rw [c3] at h0 h1
  obtain ⟨l⟩ := cs
  rw [c64] at hlen
  match l, hlen with
  | [u, w], _ =>
    match xs, hxl with
    | [x0, x1], _ =>
      obtain ⟨a, e0, _, wa⟩ := DataW.trod_int Tryd.underlying3 (show DataW.trod enc Tryd.prog W 0 (fun _ => true) true m 3 [u] = some x0 from h0)
      obtain ⟨b, e1, _, wb⟩ := DataW.trod_int Tryd.underlying3 (show DataW.trod enc Tryd.prog W 0 (fun _ => true) true m 3 [w] = some x1 from h1)
      cases e0
      cases e1
      exact ⟨a, b, rfl, wa, wb⟩
end
end Go.Proofs.YtigofgdmefobaaaDoor.Peel

/- What rows of this seat take besides: a list of numbers, arrays of three and of four. -/
set_option linter.unusedVariables false
set_option linter.unusedSimpArgs false
set_option maxRecDepth 100000
namespace Go.Proofs.YtigofgdmefobaaaDoor.Peel
open Go.ChangeShapes Go.WideShapes Go.ChangeAt Go.RowKit
section
variable {H : Type} {enc : TypeId × Value → H} {W : World} {base : Nat}
theorem ints_open {r : Reach} {v : Value} {d : DataW H} {p : List MemPlace} (hv : Value.okWide Tryd.prog W r base 22 v) (h : DataW.Trod enc Tryd.prog W 0 (fun _ => true) true 22 v d p)
    (hsz : ∀ x ∈ DataW.weights Tryd.prog 22 d, x ≤ reachBytes) :
    ∃ (cs : List Int) (C : Option Addr) (n : Nat), v = .slice C cs.length n ∧ CutAt W cs C n := by
  have b3 : Tryd.prog.bytesOf 3 = 8 := by kernel_rfl
  obtain ⟨a0, n0, k0, rfl⟩ := okWide_slice Tryd.underlying22 hv
  obtain ⟨fuel, hf⟩ := h
  rcases open_ints Tryd.underlying22 Tryd.underlying3 (by kernel_rfl) hf with ⟨hcs, _⟩ | ⟨a, len, cap, zs, hcs, _, hl, hm, hz, hx, hcell, _⟩
  · have hv2 : Value.slice a0 n0 k0 = .slice none 0 0 := by simpa [Value.cells] using hcs
    exact ⟨[], none, 0, hv2, fun k hk => by simp at hk, by simp, by simp⟩
  · have hv2 : Value.slice a0 n0 k0 = .slice (some a) len cap := by simpa [Value.cells] using hcs
    have hz' : zs.length = cap := by simpa using hz
    refine ⟨zs.take len, some a, cap, by simp [hz', hl, hv2], fun k hk => ⟨a, rfl, ?_⟩, by simp; omega, ?_⟩
    · have hk' : k < len := by simp at hk; omega
      rw [hcell k (by omega)]
      simp [List.getD_eq_getElem?_getD, hk']
    · have hb := hsz (zs.length * 8) (by
        simp only [Prod.mk.injEq] at hx
        rw [hx.1]
        simp only [DataW.weights, Tryd.underlying22, b3]
        refine List.mem_cons.2 (.inl ?_)
        congr 1
        simp [lits]
        omega)
      simp only [reachBytes] at hb
      simp
      omega
theorem triple_open {r : Reach} {v : Value} {d : DataW H} {p : List MemPlace} (hv : Value.okWide Tryd.prog W r base 26 v) (h : DataW.Trod enc Tryd.prog W 0 (fun _ => true) true 26 v d p) :
    ∃ a b c : Int, v = .agg #[.int .i64 a, .int .i64 b, .int .i64 c] := by
  have c64 : Tryd.prog.cellsOf 26 = 3 := by kernel_rfl
  have c3 : Tryd.prog.cellsOf 3 = 1 := by kernel_rfl
  simp only [Value.okWide, Tryd.underlying26] at hv
  obtain ⟨cs, rfl, hs, _⟩ := hv
  obtain ⟨fuel, hf⟩ := h
  obtain ⟨xs, m, rfl, _, hlen, hxl, hf⟩ := DataW.trod_array Tryd.underlying26 hf
  have h0 := hf 0 (by omega)
  have h1 := hf 1 (by omega)
  have h2 := hf 2 (by omega)
  rw [c3] at h0 h1 h2
  obtain ⟨l⟩ := cs
  rw [c64] at hlen
  match l, hlen with
  | [u, w, s], _ =>
    match xs, hxl with
    | [x0, x1, x2], _ =>
      obtain ⟨a, e0, _, wa⟩ := DataW.trod_int Tryd.underlying3 (show DataW.trod enc Tryd.prog W 0 (fun _ => true) true m 3 [u] = some x0 from h0)
      obtain ⟨b, e1, _, wb⟩ := DataW.trod_int Tryd.underlying3 (show DataW.trod enc Tryd.prog W 0 (fun _ => true) true m 3 [w] = some x1 from h1)
      obtain ⟨c, e2, _, wc⟩ := DataW.trod_int Tryd.underlying3 (show DataW.trod enc Tryd.prog W 0 (fun _ => true) true m 3 [s] = some x2 from h2)
      cases e0
      cases e1
      cases e2
      exact ⟨a, b, c, rfl⟩
theorem quad_open {r : Reach} {v : Value} {d : DataW H} {p : List MemPlace} (hv : Value.okWide Tryd.prog W r base 58 v) (h : DataW.Trod enc Tryd.prog W 0 (fun _ => true) true 58 v d p) :
    ∃ a b c e : Int, v = .agg #[.int .i64 a, .int .i64 b, .int .i64 c, .int .i64 e] := by
  have c64 : Tryd.prog.cellsOf 58 = 4 := by kernel_rfl
  have c3 : Tryd.prog.cellsOf 3 = 1 := by kernel_rfl
  simp only [Value.okWide, Tryd.underlying58] at hv
  obtain ⟨cs, rfl, hs, _⟩ := hv
  obtain ⟨fuel, hf⟩ := h
  obtain ⟨xs, m, rfl, _, hlen, hxl, hf⟩ := DataW.trod_array Tryd.underlying58 hf
  have h0 := hf 0 (by omega)
  have h1 := hf 1 (by omega)
  have h2 := hf 2 (by omega)
  have h3 := hf 3 (by omega)
  rw [c3] at h0 h1 h2 h3
  obtain ⟨l⟩ := cs
  rw [c64] at hlen
  match l, hlen with
  | [u, w, s, t], _ =>
    match xs, hxl with
    | [x0, x1, x2, x3], _ =>
      obtain ⟨a, e0, _, wa⟩ := DataW.trod_int Tryd.underlying3 (show DataW.trod enc Tryd.prog W 0 (fun _ => true) true m 3 [u] = some x0 from h0)
      obtain ⟨b, e1, _, wb⟩ := DataW.trod_int Tryd.underlying3 (show DataW.trod enc Tryd.prog W 0 (fun _ => true) true m 3 [w] = some x1 from h1)
      obtain ⟨c, e2, _, wc⟩ := DataW.trod_int Tryd.underlying3 (show DataW.trod enc Tryd.prog W 0 (fun _ => true) true m 3 [s] = some x2 from h2)
      obtain ⟨e, e3, _, we⟩ := DataW.trod_int Tryd.underlying3 (show DataW.trod enc Tryd.prog W 0 (fun _ => true) true m 3 [t] = some x3 from h3)
      cases e0
      cases e1
      cases e2
      cases e3
      exact ⟨a, b, c, e, rfl⟩
end
end Go.Proofs.YtigofgdmefobaaaDoor.Peel
