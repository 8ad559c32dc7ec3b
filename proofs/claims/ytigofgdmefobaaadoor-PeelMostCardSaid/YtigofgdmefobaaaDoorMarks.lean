/- Leaving a function whose deferred calls are several marks, each of a range over a function in a round of a loop. -/
import Derived.Test.YtigofgdmefobaaaDoorIter
set_option linter.unusedVariables false
namespace Go.Proofs.YtigofgdmefobaaaDoor.Iter
open Go.RowKit
def markOf (r : Nat) : Deferred := { target := .collected r, args := #[] }
/-- The deferred calls are marks of blocks from B on, each of which still stands. -/
structure MarksIn (B : Nat) (rs : List Nat) (W : World) : Prop where
  nd : rs.Nodup
  low : ∀ r, r ∈ rs → B ≤ r
  stands : ∀ r, r ∈ rs → W.heap[r]? = some (.deferred (some []))
theorem MarksIn.lt {B : Nat} {rs : List Nat} {W : World} (h : MarksIn B rs W) {r : Nat} (hr : r ∈ rs) : r < W.heap.size := (Array.getElem?_eq_some_iff.1 (h.stands r hr)).1
theorem MarksIn.nil (B : Nat) (W : World) : MarksIn B [] W := ⟨List.nodup_nil, by simp, by simp⟩
theorem MarksIn.mono {B : Nat} {rs : List Nat} {W W' : World} (h : MarksIn B rs W) (hs : ∀ r, r ∈ rs → W'.heap[r]? = W.heap[r]?) : MarksIn B rs W' := ⟨h.nd, h.low, fun r hr => (hs r hr).trans (h.stands r hr)⟩
theorem MarksIn.cons {B : Nat} {rs : List Nat} {W : World} (h : MarksIn B rs W) {r : Nat} (hn : r ∉ rs) (hB : B ≤ r) (hr : W.heap[r]? = some (.deferred (some []))) : MarksIn B (r :: rs) W :=
  ⟨List.nodup_cons.2 ⟨hn, h.nd⟩, fun x hx => by rcases List.mem_cons.1 hx with rfl | hx; exact hB; exact h.low x hx, fun x hx => by rcases List.mem_cons.1 hx with rfl | hx; exact hr; exact h.stands x hx⟩
theorem leaves_marks {F : Fence} {n : Nat} {P : Program} {fn : Func} {tmps : Array Value} {R : Ending → World → Prop} {B : Nat} {v : Value} (hres : ∀ w, (results fn tmps).run P w = .ok v w) :
    ∀ (rs : List Nat) (W : World), MarksIn B rs W → (∀ W', Below B W W' → R (.returned v) W') → LeavesInM F n P fn tmps R (rs.map markOf) .returning W := by
  intro rs
  induction rs with
  | nil => intro W _ h; exact ⟨v, hres W, h W (Below.refl _ W)⟩
  | cons r rs ih =>
    intro W hm h
    have hr := hm.stands r (List.mem_cons_self ..)
    have hB := hm.low r (List.mem_cons_self ..)
    obtain ⟨hn, hnd⟩ := List.nodup_cons.1 hm.nd
    refine ⟨by simp, .inl ⟨r, _, rfl, run_takeDeferred hr, ?_⟩⟩
    have hb : Below B W (W.putObj r (.deferred none)) := ⟨rfl, rfl, rfl, by simp [World.putObj], fun b hb => World.putObj_heap_other (by omega)⟩
    refine ih _ ⟨hnd, fun r' hr' => hm.low r' (List.mem_cons_of_mem _ hr'), fun r' hr' => (World.putObj_heap_other ?_).trans (hm.stands r' (List.mem_cons_of_mem _ hr'))⟩ (fun W' hW' => h W' (hb.trans hW'))
    rintro rfl
    exact hn hr'
end Go.Proofs.YtigofgdmefobaaaDoor.Iter
