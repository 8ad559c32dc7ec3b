/- A range over a function whose rounds all go on: the iterator's word, and the statement's law, over any program. What the iterator itself may turn is a set of blocks (T); the loop's own state is told of all else. -/
import Derived.RangeFuncNested
import Derived.RangeFuncLeaves
import Derived.RangeFuncRecord
import Derived.Shelf.Abstract
import Derived.Below
set_option linter.unusedVariables false
namespace Go.Proofs.YtigofgdmefobaaaDoor.Iter
open Go.RowKit

/-- The world has grown. -/
structure Ext (w w1 : World) : Prop where
  os : w1.os = w.os
  tape : w1.tape = w.tape
  output : w1.output = w.output
  size : w.heap.size ≤ w1.heap.size
theorem Ext.refl (w : World) : Ext w w := ⟨rfl, rfl, rfl, Nat.le_refl _⟩
theorem Ext.trans {w w1 w2 : World} (h : Ext w w1) (k : Ext w1 w2) : Ext w w2 := ⟨k.os.trans h.os, k.tape.trans h.tape, k.output.trans h.output, Nat.le_trans h.size k.size⟩
theorem Ext.below {B : Nat} {w w1 : World} (h : Below B w w1) : Ext w w1 := ⟨h.os, h.tape, h.output, h.size⟩
/-- The blocks of T alone have been turned. -/
structure Stays (T : Nat → Prop) (w w1 : World) : Prop where
  ext : Ext w w1
  block : ∀ b, b < w.heap.size → ¬ T b → w1.heap[b]? = w.heap[b]?
/-- The blocks of T have not been turned. -/
structure Keeps (T : Nat → Prop) (w w1 : World) : Prop where
  ext : Ext w w1
  block : ∀ b, b < w.heap.size → T b → w1.heap[b]? = w.heap[b]?
theorem Stays.refl (T : Nat → Prop) (w : World) : Stays T w w := ⟨Ext.refl w, fun _ _ _ => rfl⟩
theorem Keeps.refl (T : Nat → Prop) (w : World) : Keeps T w w := ⟨Ext.refl w, fun _ _ _ => rfl⟩
theorem Stays.trans {T : Nat → Prop} {w w1 w2 : World} (h : Stays T w w1) (k : Stays T w1 w2) : Stays T w w2 :=
  ⟨h.ext.trans k.ext, fun b hb hT => (k.block b (Nat.lt_of_lt_of_le hb h.ext.size) hT).trans (h.block b hb hT)⟩
theorem Keeps.trans {T : Nat → Prop} {w w1 w2 : World} (h : Keeps T w w1) (k : Keeps T w1 w2) : Keeps T w w2 :=
  ⟨h.ext.trans k.ext, fun b hb hT => (k.block b (Nat.lt_of_lt_of_le hb h.ext.size) hT).trans (h.block b hb hT)⟩
theorem Stays.of_below {T : Nat → Prop} {w w1 : World} (h : Below w.heap.size w w1) : Stays T w w1 := ⟨Ext.below h, fun b hb _ => h.block b hb⟩
theorem Keeps.of_below {T : Nat → Prop} {w w1 : World} (h : Below w.heap.size w w1) : Keeps T w w1 := ⟨Ext.below h, fun b hb _ => h.block b hb⟩
theorem Stays.mono {T T' : Nat → Prop} {w w1 : World} (h : Stays T w w1) (hT : ∀ b, b < w.heap.size → T b → T' b) : Stays T' w w1 := ⟨h.ext, fun b hb hn => h.block b hb (fun ht => hn (hT b hb ht))⟩
theorem Keeps.mono {T T' : Nat → Prop} {w w1 : World} (h : Keeps T w w1) (hT : ∀ b, b < w.heap.size → T' b → T b) : Keeps T' w w1 := ⟨h.ext, fun b hb hn => h.block b hb (hT b hb hn)⟩
theorem Keeps.of_stays {T T' : Nat → Prop} {w w1 : World} (h : Stays T w w1) (hT : ∀ b, b < w.heap.size → T' b → ¬ T b) : Keeps T' w w1 := ⟨h.ext, fun b hb hn => h.block b hb (hT b hb hn)⟩
theorem Stays.obj {T : Nat → Prop} {w w1 : World} (h : Stays T w w1) {b : Nat} {o : Obj} (hb : w.heap[b]? = some o) (hT : ¬ T b) : w1.heap[b]? = some o := (h.block b (Array.getElem?_eq_some_iff.1 hb).1 hT).trans hb
theorem Keeps.obj {T : Nat → Prop} {w w1 : World} (h : Keeps T w w1) {b : Nat} {o : Obj} (hb : w.heap[b]? = some o) (hT : T b) : w1.heap[b]? = some o := (h.block b (Array.getElem?_eq_some_iff.1 hb).1 hT).trans hb
theorem Stays.below {T : Nat → Prop} {B : Nat} {w w1 : World} (h : Stays T w w1) (hB : B ≤ w.heap.size) (hT : ∀ b, b < B → ¬ T b) : Below B w w1 :=
  ⟨h.ext.os, h.ext.tape, h.ext.output, h.ext.size, fun b hb => h.block b (by omega) (hT b hb)⟩
theorem ext_putObj (w : World) (r : Nat) (o : Obj) : Ext w (w.putObj r o) := ⟨rfl, rfl, rfl, by simp⟩
theorem stays_putObj {T : Nat → Prop} (w : World) (r : Nat) (o : Obj) (hr : T r) : Stays T w (w.putObj r o) :=
  ⟨ext_putObj w r o, fun b _ hb => World.putObj_heap_other (fun e => hb (e ▸ hr))⟩
theorem keeps_putObj {T : Nat → Prop} (w : World) (r : Nat) (o : Obj) (hr : ¬ T r) : Keeps T w (w.putObj r o) :=
  ⟨ext_putObj w r o, fun b _ hb => World.putObj_heap_other (fun e => hr (e ▸ hb))⟩

/-- What is told of a loop's state abides whatever an iterator turns of its own. -/
def Abides (J : Nat → (Nat → Prop) → World → Prop) : Prop :=
  ∀ k T T' W W', J k T W → Stays T W W' → (∀ b, b < W.heap.size → ¬ T b → ¬ T' b) → J k T' W'

variable {P : Program}
/-- An iterator: handed yield, it hands it the elements of xs in turn, as long as each round goes on. Own: what it may turn of what lay before; Need: what it reads, and every round must leave. -/
def Yields {α : Type} (P : Program) (g : Nat) (lb : Array Value) (encs : α → Array Value) (xs : List α) (Own : Nat → Prop) (Need : World → Prop) : Prop :=
  ∀ (l : Nat) (J : Nat → (Nat → Prop) → World → Prop) (W : World), Need W → Abides J →
    (∀ k x T W1, xs[k]? = some x → J k T W1 → Need W1 → (∀ b, T b → b < W1.heap.size) →
      YieldAt Fence.wide 0 P l (encs x) W1 fun e W2 => e = .returned (.bool true) ∧ J (k + 1) T W2 ∧ Keeps T W1 W2 ∧ Need W2) →
    J 0 Own W →
    CallsIn Fence.wide 0 P g (#[.func (.yield l) #[] #[]] ++ lb) W fun e W' => (∃ v, e = .returned v) ∧ Need W' ∧ ∃ T, J xs.length T W'

/-- The end of a round's body: it goes on. -/
def RoundEnd (R : World → Prop) : Exit → Act → World → Prop
  | .normal, _, W => R W
  | _, _, _ => False

/-- THE LAW. -/
theorem range_law {α : Type} {g : Operand} {ps : Array Tmp} {assign body : Code} {Q : Exit → Act → World → Prop} {a : Act} {w : World}
    {gf : Nat} {lb : Array Value} (hg : a.eval g = .func (.func gf) #[] lb) (eg : ∀ args w, (callFunc gf args).run P w = .ok (.enter gf args) w)
    {encs : α → Array Value} {xs : List α} {Own : Nat → Prop} {Need : World → Prop} (hy : Yields P gf lb encs xs Own Need) (hps : ∀ x, (encs x).size = ps.size)
    (I : Nat → (Nat → Prop) → World → Prop) (hI : Abides I) (hOwn : ∀ b, Own b → b < w.heap.size)
    (hneed : Need w) (hN : ∀ W W', Need W → w.heap.size ≤ W.heap.size → Stays (fun b => w.heap.size ≤ b) W W' → Need W')
    (h0 : ∀ W, Below w.heap.size w W → I 0 (fun b => Own b ∨ b = w.heap.size ∨ b = w.heap.size + 1) W)
    (hround : ∀ (k : Nat) (x : α) (T : Nat → Prop) (W : World), xs[k]? = some x → w.heap.size + 1 < W.heap.size → I k T W → Need W → T w.heap.size → T (w.heap.size + 1) → (∀ b, T b → b < W.heap.size) →
      assign.wpIn (Fence.wide.inRound (w.heap.size + 1)) 0 P (Exit.then (fun a1 W1 => Below W.heap.size W W1 ∧ ∀ W1', Stays (fun b => b = w.heap.size + 1) W1 W1' →
          body.wpIn (Fence.wide.inRound (w.heap.size + 1)) 0 P (RoundEnd fun W2 => I (k + 1) T W2 ∧ Keeps T W1' W2 ∧ Need W2) a1 W1') (fun _ _ _ => False))
        { tmps := (ps.zip (encs x)).foldl (fun t (p, v) => t.setIfInBounds p v) a.tmps, defers := [] } W)
    (hdone : ∀ (T : Nat → Prop) (W : World), I xs.length T W → Need W → T w.heap.size → T (w.heap.size + 1) → W.heap[w.heap.size]? = some (.deferred (some [])) →
      Q .normal { a with defers := { target := .collected w.heap.size, args := #[] } :: a.defers } W) :
    (Code.rangeFunc g ps assign body).wpIn Fence.wide 0 P Q a w := by
  refine wpIn_rangeFunc ?_
  intro fn hfn
  obtain ⟨rec, hrec⟩ : ∃ rec : LoopState → Option Code → Loop, rec = fun st pe => { state := st, pending := pe, fn, tmps := a.tmps, params := ps, assign, body, defers := w.heap.size } := ⟨_, rfl⟩
  obtain ⟨W1, hW1⟩ : ∃ W1, (w.alloc (.deferred (some []))).alloc (.loop (rec .ready none)) = W1 := ⟨_, rfl⟩
  have hL1 : W1.heap[w.heap.size + 1]? = some (.loop (rec .ready none)) := by
    rw [← hW1]; have := World.alloc_heap_new (w.alloc (.deferred (some []))) (.loop (rec .ready none)); rwa [World.size_alloc] at this
  have hK1 : W1.heap[w.heap.size]? = some (.deferred (some [])) := by
    rw [← hW1]; exact (Below.heap_alloc _ _ _ (by simp)).trans (World.alloc_heap_new w _)
  have hb1 : Below w.heap.size w W1 := by
    rw [← hW1]; exact ((Below.refl _ w).alloc (Nat.le_refl _) _).alloc (by simp) _
  refine ⟨w.heap.size + 1, [{ target := .collected w.heap.size, args := #[] }], W1, { target := .fn (.func gf) lb, args := #[.func (.yield (w.heap.size + 1)) #[] #[]] }, W1, gf,
    #[.func (.yield (w.heap.size + 1)) #[] #[]] ++ lb, W1, ?_, ?_, fun f' _ => trivial, ?_, (fun h => by cases h), ?_⟩
  · rw [← hW1, hrec]; exact run_enterLoop_outer _ _ _ _ _
  · simp only [resolve, hg]
    simp [go_sem]
  · simp [invoke, go_sem, eg]
  · refine (hy (w.heap.size + 1)
      (fun k T W => I k (fun b => T b ∨ b = w.heap.size ∨ b = w.heap.size + 1) W ∧ W.heap[w.heap.size + 1]? = some (.loop (rec .ready none)) ∧ W.heap[w.heap.size]? = some (.deferred (some [])) ∧ ¬ T w.heap.size ∧ ¬ T (w.heap.size + 1))
      W1 (hN _ _ hneed (Nat.le_refl _) (Stays.of_below hb1)) ?_ ?_ ⟨h0 W1 hb1, hL1, hK1, fun h => by have := hOwn _ h; omega, fun h => by have := hOwn _ h; omega⟩).mono ?_
    · -- what the iterator turns leaves the loop's record
      rintro k T T' W W' ⟨hi, hl, hk, hT1, hT2⟩ hs hT
      have hl1 : w.heap.size + 1 < W.heap.size := (Array.getElem?_eq_some_iff.1 hl).1
      exact ⟨hI k _ _ W W' hi (hs.mono fun b _ h => .inl h) (fun b hb hn h => by
        rcases h with h | h
        · exact hT b hb (fun h' => hn (.inl h')) h
        · exact hn (.inr h)), hs.obj hl hT2, hs.obj hk hT1, hT _ (by omega) hT1, hT _ hl1 hT2⟩
    · -- one round
      rintro k x T W hx ⟨hi, hl, hk, hT1, hT2⟩ hnd hbd
      have hlt : w.heap.size + 1 < W.heap.size := (Array.getElem?_eq_some_iff.1 hl).1
      have hyr := run_yield (P := P) (args := encs x) hl (by rw [hrec]; exact hps x)
      have hr := hround k x _ W hx hlt hi hnd (.inr (.inl rfl)) (.inr (.inr rfl)) (fun b hb => by rcases hb with hb | hb | hb; exact hbd b hb; omega; omega)
      rw [hrec] at hyr
      refine ⟨fn, _, assign, body, hyr, roundIn_of_wpIn hfn (wpIn_mono hr ?_)⟩
      rintro e a1 W2 hp
      cases e with
      | normal =>
        obtain ⟨hb2, hbody⟩ := hp
        have hl2 : W2.heap[w.heap.size + 1]? = some (.loop (rec .ready none)) := (hb2.block _ hlt).trans hl
        have hk2 : W2.heap[w.heap.size]? = some (.deferred (some [])) := (hb2.block _ (by omega)).trans hk
        refine ⟨_, run_beginRound hl2 (by rw [hrec]), ?_⟩
        have hst : Stays (fun b => b = w.heap.size + 1) W2 (W2.putObj (w.heap.size + 1) (.loop { rec .ready none with state := .busy })) := stays_putObj _ _ _ rfl
        have hlt2 : w.heap.size + 1 < W2.heap.size := Nat.lt_of_lt_of_le hlt hb2.size
        have hl3 : (W2.putObj (w.heap.size + 1) (.loop { rec .ready none with state := .busy })).heap[w.heap.size + 1]? = some (.loop { rec .ready none with state := .busy }) := World.putObj_heap_same hlt2
        have hk3 : (W2.putObj (w.heap.size + 1) (.loop { rec .ready none with state := .busy })).heap[w.heap.size]? = some (.deferred (some [])) := (World.putObj_heap_other (by omega)).trans hk2
        refine wpIn_mono (hbody _ hst) ?_
        rintro e a3 W3 hp3
        cases e with
        | normal =>
          obtain ⟨hi3, hkp, hn3⟩ := hp3
          have hl4 := hkp.obj hl3 (.inr (.inr rfl))
          have hk4 := hkp.obj hk3 (.inr (.inl rfl))
          have hend := run_endRound (P := P) none hl4
          have hlt4 : w.heap.size + 1 < W3.heap.size := (Array.getElem?_eq_some_iff.1 hl4).1
          have hrd : ({ ({ rec .ready none with state := .busy } : Loop) with state := if (none : Option Code).isNone then .ready else .done, pending := none } : Loop) = rec .ready none := by rw [hrec]; rfl
          rw [hrd] at hend
          refine ⟨_, _, hend, rfl, ⟨?_, World.putObj_heap_same hlt4, (World.putObj_heap_other (by omega)).trans hk4, hT1, hT2⟩, ?_, hN _ _ hn3 (by omega) (stays_putObj _ _ _ (by omega))⟩
          · exact hI _ _ _ _ _ hi3 (stays_putObj _ _ _ (.inr (.inr rfl))) (fun b _ h => h)
          · refine Keeps.trans (Keeps.of_below hb2) (Keeps.trans (keeps_putObj _ _ _ hT2) (Keeps.trans (hkp.mono fun b _ h => .inl h) (keeps_putObj _ _ _ hT2)))
        | ret => exact hp3.elim
        | exit id => exact hp3.elim
        | goto t => exact hp3.elim
        | panic ch => exact hp3.elim
        | outgrown => exact hp3.elim
      | ret => exact hp.elim
      | exit id => exact hp.elim
      | goto t => exact hp.elim
      | panic ch => exact hp.elim
      | outgrown => exact hp.elim
    · -- behind the iterator
      rintro e W2 ⟨⟨v, rfl⟩, hnd, T, hi, hl, hk, hT1, hT2⟩
      have hend := run_endLoop (P := P) hl (by rw [hrec]; simp)
      have hpn : (rec .ready none).pending = none := by rw [hrec]
      rw [hpn] at hend
      refine ⟨none, _, hend, ?_⟩
      exact hdone _ _ (hI _ _ _ _ _ hi (stays_putObj _ _ _ (.inr (.inr rfl))) (fun b _ h => h)) (hN _ _ hnd (by have := (Array.getElem?_eq_some_iff.1 hl).1; omega) (stays_putObj _ _ _ (by omega))) (.inr (.inl rfl)) (.inr (.inr rfl)) ((World.putObj_heap_other (by omega)).trans hk)
end Go.Proofs.YtigofgdmefobaaaDoor.Iter
