/- The map of marks: its keys are spots, its values ribbons. A look-up and an update, as laws on the operations. -/
import Derived.Test.YtigofgdmefobaaaDoorPeelJ
set_option linter.unusedVariables false
set_option linter.unusedSimpArgs false
namespace Go.Proofs.YtigofgdmefobaaaDoor.Peel
open Go.RowKit

abbrev keyV (s : Int × Int) : Value := .agg #[.int .i64 s.1, .int .i64 s.2]
/-- Every entry holds what it must. -/
def Cached (M : Int × Int → Nat → Bool) (es : Array MapEntry) : Prop := ∀ e ∈ es.toList, ∃ s : Int × Int, e.key = keyV s ∧ e.val = .agg (rv (M s))
theorem undMarks : Tryd.prog.underlying 73 = some (.map 102 86) := by kernel_rfl
theorem equal_spot {w : World} (s t : Int × Int) : (Op.equal 102 (keyV s) (keyV t)).run Tryd.prog w = .ok (s.1 == t.1 && s.2 == t.2) w := by
  have hf : ∃ f g : Field, (Tryd.prog.fieldsOf 102).toList = [f, g] ∧ f.name = "angle" ∧ f.type = 3 ∧ f.offset = 0 ∧ g.name = "turn" ∧ g.type = 3 ∧ g.offset = 1 :=
    ⟨(Tryd.prog.fieldsOf 102).toList.getD 0 default, (Tryd.prog.fieldsOf 102).toList.getD 1 default, by kernel_rfl, by kernel_rfl, by kernel_rfl, by kernel_rfl, by kernel_rfl, by kernel_rfl, by kernel_rfl⟩
  obtain ⟨f, g, hl, h1, h2, h3, h4, h5, h6⟩ := hf
  have hi : Tryd.prog.underlying 3 = some (.int .i64) := by kernel_rfl
  have p1 : ∀ (w : World) (a b : Int), (part 3 #[.int .i64 a, .int .i64 b] 0).run Tryd.prog w = .ok (.int .i64 a) w := fun w a b => by kernel_rfl
  have p2 : ∀ (w : World) (a b : Int), (part 3 #[.int .i64 a, .int .i64 b] 1).run Tryd.prog w = .ok (.int .i64 b) w := fun w a b => by kernel_rfl
  unfold Op.equal Op.maxDepth
  rw [run_equalIn_struct w 9999 _ _ _ (by kernel_rfl) (by kernel_rfl), hl]
  simp only [Op.eqFields, h1, h2, h3, h4, h5, h6, Sem.run_bind, Sem.run_ite, p1, p2, Result.andThen_ok, Sem.run_pure]
  have e1 := fun a b => run_equalIn_int (P := Tryd.prog) w 9998 3 .i64 .i64 a b hi
  simp only [e1, Result.andThen_ok]
  cases (s.1 == t.1) <;> cases (s.2 == t.2) <;> simp
theorem check_spot {w : World} (b : Bool) (s : Int × Int) : (Instr.checkKey b 10000 102 (keyV s)).run Tryd.prog w = .ok () w := by kernel_rfl
theorem find_spot {M : Int × Int → Nat → Bool} (s : Int × Int) : ∀ (es : List MapEntry) (i : Nat), (∀ e ∈ es, ∃ s : Int × Int, e.key = keyV s ∧ e.val = .agg (rv (M s))) →
    ∃ r, (∀ w : World, (Instr.findAsking 102 (keyV s) es i).run Tryd.prog w = .ok r w) ∧ (r = none ∨ ∃ j, r = some (j, .agg (rv (M s))) ∧ i ≤ j ∧ j - i < es.length ∧ es[j - i]?.map (·.key) = some (keyV s)) := by
  intro es
  induction es with
  | nil => intro i _; exact ⟨none, fun w => rfl, .inl rfl⟩
  | cons e es ih =>
    intro i h
    obtain ⟨t, hk, hv⟩ := h e (by simp)
    unfold Instr.findAsking
    simp only [hk, Sem.run_bind, equal_spot, Result.andThen_ok, Sem.run_ite, Sem.run_pure]
    by_cases he : (s.1 == t.1 && s.2 == t.2) = true
    · simp only [if_pos he]
      have : s = t := by
        simp at he
        exact Prod.ext he.1 he.2
      subst this
      exact ⟨_, fun w => rfl, .inr ⟨i, by rw [hv], Nat.le_refl _, by simp, by simp [hk]⟩⟩
    · simp only [if_neg he]
      obtain ⟨r, hr, hp⟩ := ih (i + 1) (fun e he => h e (by simp [he]))
      refine ⟨r, hr, ?_⟩
      rcases hp with hp | ⟨j, hj, h1, h2, h3⟩
      · exact .inl hp
      · refine .inr ⟨j, hj, by omega, by simp; omega, ?_⟩
        rw [show j - i = (j - (i + 1)) + 1 by omega]
        simpa using h3
/-- No entry has this key. -/
def Missing (s : Int × Int) (es : Array MapEntry) : Prop := ∀ w : World, (Instr.findKey 102 (keyV s) es.toList).run Tryd.prog w = .ok none w
theorem findKey_spot {M : Int × Int → Nat → Bool} (s : Int × Int) (es : Array MapEntry) (h : Cached M es) :
    Missing s es ∨ ∃ j, ∀ w : World, (Instr.findKey 102 (keyV s) es.toList).run Tryd.prog w = .ok (some (j, .agg (rv (M s)))) w := by
  have hu : Tryd.prog.underlying 102 = some (.struct (Tryd.prog.fieldsOf 102)) := by kernel_rfl
  obtain ⟨es⟩ := es
  cases es with
  | nil => exact .inl fun w => by simp [Instr.findKey, Sem.run_bind, run_underlying hu, Instr.findNow]
  | cons e es =>
    obtain ⟨r, hr, hp⟩ := find_spot s (e :: es) 0 h
    have hall : ∀ w : World, (Instr.findKey 102 (keyV s) (e :: es)).run Tryd.prog w = .ok r w := fun w => by
      simp only [Instr.findKey, Sem.run_bind, run_underlying hu, Result.andThen_ok, Instr.findNow, Instr.sameNow]
      exact hr w
    rcases hp with rfl | ⟨j, rfl, _⟩
    · exact .inl hall
    · exact .inr ⟨j, hall⟩
theorem lookup_missing {w : World} {m clock : Nat} {es : Array MapEntry} (s : Int × Int) (hm : w.heap[m]? = some (.map es clock)) (hs : Missing s es) :
    (Instr.lookup 73 (.map (some m)) (keyV s) true).run Tryd.prog w = .ok (.tuple #[.agg (rv none72), .bool false]) w := by
  simp [Instr.lookup, Sem.run_bind, run_underlying undMarks, MapKept.run_getObj_map hm, check_spot, hs w, zeroRib, zeroCells]
theorem lookup_found {w : World} {m clock : Nat} {es : Array MapEntry} {v : Value} (s : Int × Int) (hm : w.heap[m]? = some (.map es clock)) {j : Nat} (hs : ∀ w : World, (Instr.findKey 102 (keyV s) es.toList).run Tryd.prog w = .ok (some (j, v)) w) :
    (Instr.lookup 73 (.map (some m)) (keyV s) true).run Tryd.prog w = .ok (.tuple #[v, .bool true]) w := by
  simp [Instr.lookup, Sem.run_bind, run_underlying undMarks, MapKept.run_getObj_map hm, check_spot, hs w]
theorem update_marks {w : World} {m clock : Nat} {es : Array MapEntry} (s : Int × Int) (v : Value) (hm : w.heap[m]? = some (.map es clock)) (h : Missing s es) :
    (Instr.mapUpdate 73 (.map (some m)) (keyV s) v).run Tryd.prog w = .ok () { w with heap := w.heap.setIfInBounds m (.map (es.push { key := keyV s, val := v, born := clock }) (clock + 1)) } := by
  simp [Instr.mapUpdate, Sem.run_bind, run_underlying undMarks, MapKept.run_getObj_map hm, check_spot, h w, MapKept.run_setObj_map _ hm]
theorem Cached.push {M : Int × Int → Nat → Bool} {es : Array MapEntry} (h : Cached M es) (s : Int × Int) (n : Nat) : Cached M (es.push { key := keyV s, val := .agg (rv (M s)), born := n }) := by
  intro e he
  simp only [Array.toList_push, List.mem_append, List.mem_singleton] at he
  rcases he with he | rfl
  · exact h e he
  · exact ⟨s, rfl, rfl⟩
/-- The columns that a knot at a spot has in the turns before one. -/
def PL.markTo (l : PL) (s : Int × Int) (k : Nat) : Nat → Bool := fun i => (List.range k).any fun t => decide (s.2 ≤ t) && decide (l.col t s.1 = i)
def PL.mark (l : PL) (s : Int × Int) : Nat → Bool := l.markTo s l.long.length
theorem markTo_first (l : PL) (s : Int × Int) (k : Nat) (hk : (k : Int) ≤ s.2) : l.markTo s k = none72 := by
  funext i
  unfold PL.markTo none72
  rw [List.any_eq_false]
  intro t ht
  simp at ht
  simp
  omega
theorem markTo_succ (l : PL) (s : Int × Int) (k : Nat) (hk : s.2 ≤ k) (i : Nat) : l.markTo s (k + 1) i = if l.col k s.1 = i then true else l.markTo s k i := by
  unfold PL.markTo
  rw [List.range_succ, List.any_append]
  by_cases h : l.col k s.1 = i <;> simp [h, hk]
/-- The marks that are kept lie in memory. -/
def MarksAt (l : PL) (m : Nat) (w : World) : Prop := ∃ es clock, w.heap[m]? = some (.map es clock) ∧ Cached l.mark es
theorem MarksAt.below {l : PL} {m : Nat} {w w1 : World} (h : MarksAt l m w) (hb : Below w.heap.size w w1) : MarksAt l m w1 := by
  obtain ⟨es, clock, h1, h2⟩ := h
  exact ⟨es, clock, (hb.block m (Array.getElem?_eq_some_iff.1 h1).1).trans h1, h2⟩
end Go.Proofs.YtigofgdmefobaaaDoor.Peel
