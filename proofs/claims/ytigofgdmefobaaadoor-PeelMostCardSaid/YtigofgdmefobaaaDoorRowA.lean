/- From an argument that is read as data to the log that the walks take. -/
import Derived.Test.YtigofgdmefobaaaDoorPeelA
import Derived.Test.YtigofgdmefobaaaDoorPeelE
import Derived.Test.YtigofgdmefobaaaDoorProg
import Derived.Lib.SmallJoins
import Derived.Deep.Slices
import Derived.ChangeSlices
import Derived.Carry
import GoSem.ClaimJoined
set_option linter.unusedVariables false
set_option linter.unusedSimpArgs false
set_option maxRecDepth 100000
namespace Go.Proofs.YtigofgdmefobaaaDoor.Peel
open Go.ChangeShapes Go.WideShapes Go.RowKit Go.Joins Go.Deep
theorem list_of {α : Type} {Q : Nat → α → Prop} : ∀ (n : Nat), (∀ i, i < n → ∃ x, Q i x) → ∃ xs : List α, xs.length = n ∧ ∀ i x, xs[i]? = some x → Q i x := by
  intro n
  induction n with
  | zero => intro _; exact ⟨[], rfl, fun i x h => by simp at h⟩
  | succ n ih =>
    intro h
    obtain ⟨xs, hl, hx⟩ := ih (fun i hi => h i (by omega))
    obtain ⟨x, hxn⟩ := h n (by omega)
    refine ⟨xs ++ [x], by simp [hl], fun i y hy => ?_⟩
    rcases Nat.lt_or_ge i n with hi | hi
    · rw [List.getElem?_append_left (by omega)] at hy
      exact hx i y hy
    · rw [List.getElem?_append_right (by omega), hl] at hy
      have : i - n = 0 := by
        have := (List.getElem?_eq_some_iff.1 hy).1
        simp at this
        omega
      rw [this] at hy
      obtain rfl : i = n := by omega
      cases hy
      exact hxn
section
variable {H : Type} {enc : TypeId × Value → H} {W : World} {base : Nat}
theorem span_open {n : Nat} {cs : List Value} {x : DataW H × List MemPlace} (h : DataW.trod enc Tryd.prog W 0 (fun _ => true) true n 39 cs = some x) : ∃ a b, cs = [.int .i64 a, .int .i64 b] := by
  obtain ⟨xs, m, rfl, rfl, hlen, hxl, hf⟩ := DataW.trod_struct Tryd.underlying39 h
  have c39 : Tryd.prog.cellsOf 39 = 2 := by kernel_rfl
  have c3 : Tryd.prog.cellsOf 3 = 1 := by kernel_rfl
  rw [c39] at hlen
  match cs, hlen with
  | [u, v], _ =>
    have h0 : DataW.trod enc Tryd.prog W 0 (fun _ => true) true m 3 (([u, v].drop 0).take (Tryd.prog.cellsOf 3)) = xs[0]? := hf 0 _ rfl
    have h1 : DataW.trod enc Tryd.prog W 0 (fun _ => true) true m 3 (([u, v].drop 1).take (Tryd.prog.cellsOf 3)) = xs[1]? := hf 1 _ rfl
    rw [c3] at h0 h1
    match xs, hxl with
    | [x0, x1], _ =>
      obtain ⟨a, e0, _, _⟩ := DataW.trod_int Tryd.underlying3 (show DataW.trod enc Tryd.prog W 0 (fun _ => true) true m 3 [u] = some x0 from h0)
      obtain ⟨b, e1, _, _⟩ := DataW.trod_int Tryd.underlying3 (show DataW.trod enc Tryd.prog W 0 (fun _ => true) true m 3 [v] = some x1 from h1)
      cases e0
      cases e1
      exact ⟨a, b, rfl⟩
theorem knot_open {n : Nat} {cs : List Value} {x : DataW H × List MemPlace} (h : DataW.trod enc Tryd.prog W 0 (fun _ => true) true n 61 cs = some x) : ∃ k : Kn, cs = [.int .i64 k.a.lo, .int .i64 k.a.hi, .int .i64 k.f.lo, .int .i64 k.f.hi] := by
  obtain ⟨xs, m, rfl, rfl, hlen, hxl, hf⟩ := DataW.trod_struct Tryd.underlying61 h
  have c61 : Tryd.prog.cellsOf 61 = 4 := by kernel_rfl
  have c39 : Tryd.prog.cellsOf 39 = 2 := by kernel_rfl
  rw [c61] at hlen
  match cs, hlen with
  | [u, v, s, t], _ =>
    have h0 : DataW.trod enc Tryd.prog W 0 (fun _ => true) true m 39 (([u, v, s, t].drop 0).take (Tryd.prog.cellsOf 39)) = xs[0]? := hf 0 _ rfl
    have h1 : DataW.trod enc Tryd.prog W 0 (fun _ => true) true m 39 (([u, v, s, t].drop 2).take (Tryd.prog.cellsOf 39)) = xs[1]? := hf 1 _ rfl
    rw [c39] at h0 h1
    match xs, hxl with
    | [x0, x1], _ =>
      obtain ⟨a, b, e0⟩ := span_open (show DataW.trod enc Tryd.prog W 0 (fun _ => true) true m 39 [u, v] = some x0 from h0)
      obtain ⟨c, d, e1⟩ := span_open (show DataW.trod enc Tryd.prog W 0 (fun _ => true) true m 39 [s, t] = some x1 from h1)
      cases e0
      cases e1
      exact ⟨⟨⟨a, b⟩, ⟨c, d⟩⟩, rfl⟩
theorem log_open {r : Reach} {v : Value} {d : DataW H} {p : List MemPlace} (hv : Value.okWide Tryd.prog W r base 25 v) (h : DataW.Trod enc Tryd.prog W 0 (fun _ => true) true 25 v d p)
    (hsz : ∀ x ∈ DataW.weights Tryd.prog 25 d, x ≤ reachBytes) :
    ∃ (l : PL) (A B : Option Addr) (c e : Nat), v = .agg #[.slice A l.long.length c, .int .i64 l.size, .slice B l.knots.length e] ∧ RawAt W l A B c e := by
  obtain ⟨v0, v1, v2, y0, y1, y2, n, rfl, rfl, rfl, h0, h1, h2⟩ := open_agg3 Tryd.underlying25 (by kernel_rfl) (by kernel_rfl) hv h
  have hw := hsz
  simp only [DataW.weights, Tryd.underlying25, DataW.weightsEach, Array.toList, List.map, List.mem_append] at hw
  obtain ⟨size, e1, _, _⟩ := DataW.trod_int Tryd.underlying3 h1
  cases e1
  have c61 : Tryd.prog.cellsOf 61 = 4 := by kernel_rfl
  have b3 : Tryd.prog.bytesOf 3 = 8 := by kernel_rfl
  have b61 : Tryd.prog.bytesOf 61 = 32 := by kernel_rfl
  obtain ⟨A, long, c, rfl, hlong, hc, hn⟩ : ∃ (A : Option Addr) (long : List Int) (c : Nat), v0 = .slice A long.length c ∧ (∀ k, k < long.length → ∃ a, A = some a ∧ W.cell? (a.add k) = some (.int .i64 (long.getD k 0))) ∧ long.length ≤ c ∧ long.length ≤ 4611686018427387904 := by
    rcases open_ints Tryd.underlying22 Tryd.underlying3 (by kernel_rfl) h0 with ⟨hcs, _⟩ | ⟨a, len, cap, zs, hcs, _, hl, hm, hz, hx, hcell, _⟩
    · cases hcs
      exact ⟨none, [], 0, rfl, fun k hk => by simp at hk, Nat.le_refl _, by simp⟩
    · cases hcs
      have hz' : zs.length = cap := by simpa using hz
      refine ⟨some a, zs.take len, cap, by simp [hz', hl], fun k hk => ⟨a, rfl, ?_⟩, by simp; omega, ?_⟩
      · have hk' : k < len := by simp at hk; omega
        rw [hcell k (by omega)]
        simp [List.getD_eq_getElem?_getD, hk']
      · have hb := hw (zs.length * 8) (by
          rw [hx]
          simp only [DataW.weights, Tryd.underlying22, b3]
          refine .inl (List.mem_cons.2 (.inl ?_))
          congr 1
          simp [lits]
          omega)
        simp only [reachBytes] at hb
        simp
        omega
  obtain ⟨B, knots, e, rfl, hknots, he, hm⟩ : ∃ (B : Option Addr) (knots : List Kn) (e : Nat), v2 = .slice B knots.length e ∧ (∀ k x, knots[k]? = some x → ∃ b, B = some b ∧ W.cell? (b.add (k * 4)) = some (.int .i64 x.a.lo) ∧ W.cell? ⟨(b.add (k * 4)).block, (b.add (k * 4)).off + 1, none⟩ = some (.int .i64 x.a.hi) ∧ W.cell? ⟨(b.add (k * 4)).block, (b.add (k * 4)).off + 2, none⟩ = some (.int .i64 x.f.lo) ∧ W.cell? ⟨(b.add (k * 4)).block, (b.add (k * 4)).off + 3, none⟩ = some (.int .i64 x.f.hi)) ∧ knots.length ≤ e ∧ knots.length ≤ 4611686018427387904 := by
    rcases open_slice Tryd.underlying23 h2 with ⟨hcs, _⟩ | ⟨a, len, cap, mm, nn, D, Pl, hcs, _, hl, hm, hmm, hx, hi⟩
    · cases hcs
      exact ⟨none, [], 0, rfl, fun k x hk => by simp at hk, Nat.le_refl _, by simp⟩
    · cases hcs
      have hmm' : mm = cap := by simpa using hmm
      subst hmm'
      obtain ⟨xs, hxl, hxs⟩ := list_of (Q := fun i (x : Kn) => W.cell? (a.add (i * 4)) = some (.int .i64 x.a.lo) ∧ W.cell? ⟨(a.add (i * 4)).block, (a.add (i * 4)).off + 1, none⟩ = some (.int .i64 x.a.hi) ∧ W.cell? ⟨(a.add (i * 4)).block, (a.add (i * 4)).off + 2, none⟩ = some (.int .i64 x.f.lo) ∧ W.cell? ⟨(a.add (i * 4)).block, (a.add (i * 4)).off + 3, none⟩ = some (.int .i64 x.f.hi)) len (fun i hil => by
        obtain ⟨cs', hcs', ht'⟩ := hi i (by omega)
        rw [c61] at hcs'
        obtain ⟨_, _, hat⟩ := World.cells?_some hcs'
        obtain ⟨x, rfl⟩ := knot_open ht'
        have a0 := hat 0 (by omega)
        have a1 := hat 1 (by omega)
        have a2 := hat 2 (by omega)
        have a3 := hat 3 (by omega)
        refine ⟨x, ?_, ?_, ?_, ?_⟩
        · simpa [Addr.add] using a0
        · simpa [Addr.add] using a1
        · simpa [Addr.add] using a2
        · simpa [Addr.add] using a3)
      refine ⟨some a, xs, mm, by rw [hxl], fun k x hk => ⟨a, rfl, hxs k x hk⟩, by omega, ?_⟩
      have hb := hw (mm * 32) (by
        rw [hx]
        simp only [DataW.weights, Tryd.underlying23, b61]
        refine .inr (.inr (.inl (List.mem_cons.2 (.inl ?_))))
        congr 1
        simp
        omega)
      simp only [reachBytes] at hb
      omega
  exact ⟨⟨long, size, knots⟩, A, B, c, e, rfl, ⟨hlong, hknots, hc, he, hn, hm⟩⟩
end
end Go.Proofs.YtigofgdmefobaaaDoor.Peel
