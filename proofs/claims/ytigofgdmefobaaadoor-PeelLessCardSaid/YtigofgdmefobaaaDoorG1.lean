/- Package peel: plain words on logs, and the walks of its small functions. -/
import Derived.RangeFuncNested
import Derived.RangeFuncLeaves
import Derived.RangeFuncRecord
import Derived.Shelf.Abstract
import Derived.Below
import Derived.RowKit
import Derived.Test.YtigofgdmefobaaaDoorProg
import Derived.WalkKit
import Derived.OwnWalk
import Derived.Deep.QuietTactic
import Derived.BigQuiet
import Derived.Deep.LoopGhost
import Derived.Deep.RegionHeld3
import Derived.WideLaws
import Derived.Lib.Hide
import Derived.Deep.WholeRow
import Derived.Deep.MidRow
import Derived.KernelRfl
import Derived.BigGuardPart
import Derived.Deep.DeepCutAuto
import Derived.Deep.CutBlock
/- A range over a function whose rounds all go on: the iterator's word, and the statement's law, over any program. What the iterator itself may turn is a set of blocks (T); the loop's own state is told of all else. -/
set_option linter.unusedVariables false
namespace Go.Proofs.YtigofgdmefobaaaDoor.Iter
open Go.RowKit

/-- The world has grown. -/
structure Ext (w w1 : World) : Prop where
  os : w1.os = w.os
  tape : w1.tape = w.tape
  output : w1.output = w.output
  size : w.heap.size ≤ w1.heap.size
theorem Ext.refl (w : World) : Ext w w := ⟨rfl, rfl, rfl, Nat.le_refl _⟩
theorem Ext.trans {w w1 w2 : World} (h : Ext w w1) (k : Ext w1 w2) : Ext w w2 := ⟨k.os.trans h.os, k.tape.trans h.tape, k.output.trans h.output, Nat.le_trans h.size k.size⟩
theorem Ext.below {B : Nat} {w w1 : World} (h : Below B w w1) : Ext w w1 := ⟨h.os, h.tape, h.output, h.size⟩
/-- The blocks of T alone have been turned. -/
structure Stays (T : Nat → Prop) (w w1 : World) : Prop where
  ext : Ext w w1
  block : ∀ b, b < w.heap.size → ¬ T b → w1.heap[b]? = w.heap[b]?
/-- The blocks of T have not been turned. -/
structure Keeps (T : Nat → Prop) (w w1 : World) : Prop where
  ext : Ext w w1
  block : ∀ b, b < w.heap.size → T b → w1.heap[b]? = w.heap[b]?
theorem Stays.refl (T : Nat → Prop) (w : World) : Stays T w w := ⟨Ext.refl w, fun _ _ _ => rfl⟩
theorem Keeps.refl (T : Nat → Prop) (w : World) : Keeps T w w := ⟨Ext.refl w, fun _ _ _ => rfl⟩
theorem Stays.trans {T : Nat → Prop} {w w1 w2 : World} (h : Stays T w w1) (k : Stays T w1 w2) : Stays T w w2 :=
  ⟨h.ext.trans k.ext, fun b hb hT => (k.block b (Nat.lt_of_lt_of_le hb h.ext.size) hT).trans (h.block b hb hT)⟩
theorem Keeps.trans {T : Nat → Prop} {w w1 w2 : World} (h : Keeps T w w1) (k : Keeps T w1 w2) : Keeps T w w2 :=
  ⟨h.ext.trans k.ext, fun b hb hT => (k.block b (Nat.lt_of_lt_of_le hb h.ext.size) hT).trans (h.block b hb hT)⟩
theorem Stays.of_below {T : Nat → Prop} {w w1 : World} (h : Below w.heap.size w w1) : Stays T w w1 := ⟨Ext.below h, fun b hb _ => h.block b hb⟩
theorem Keeps.of_below {T : Nat → Prop} {w w1 : World} (h : Below w.heap.size w w1) : Keeps T w w1 := ⟨Ext.below h, fun b hb _ => h.block b hb⟩
theorem Stays.mono {T T' : Nat → Prop} {w w1 : World} (h : Stays T w w1) (hT : ∀ b, b < w.heap.size → T b → T' b) : Stays T' w w1 := ⟨h.ext, fun b hb hn => h.block b hb (fun ht => hn (hT b hb ht))⟩
theorem Keeps.mono {T T' : Nat → Prop} {w w1 : World} (h : Keeps T w w1) (hT : ∀ b, b < w.heap.size → T' b → T b) : Keeps T' w w1 := ⟨h.ext, fun b hb hn => h.block b hb (hT b hb hn)⟩
theorem Keeps.of_stays {T T' : Nat → Prop} {w w1 : World} (h : Stays T w w1) (hT : ∀ b, b < w.heap.size → T' b → ¬ T b) : Keeps T' w w1 := ⟨h.ext, fun b hb hn => h.block b hb (hT b hb hn)⟩
theorem Stays.obj {T : Nat → Prop} {w w1 : World} (h : Stays T w w1) {b : Nat} {o : Obj} (hb : w.heap[b]? = some o) (hT : ¬ T b) : w1.heap[b]? = some o := (h.block b (Array.getElem?_eq_some_iff.1 hb).1 hT).trans hb
theorem Keeps.obj {T : Nat → Prop} {w w1 : World} (h : Keeps T w w1) {b : Nat} {o : Obj} (hb : w.heap[b]? = some o) (hT : T b) : w1.heap[b]? = some o := (h.block b (Array.getElem?_eq_some_iff.1 hb).1 hT).trans hb
theorem Stays.below {T : Nat → Prop} {B : Nat} {w w1 : World} (h : Stays T w w1) (hB : B ≤ w.heap.size) (hT : ∀ b, b < B → ¬ T b) : Below B w w1 :=
  ⟨h.ext.os, h.ext.tape, h.ext.output, h.ext.size, fun b hb => h.block b (by omega) (hT b hb)⟩
theorem ext_putObj (w : World) (r : Nat) (o : Obj) : Ext w (w.putObj r o) := ⟨rfl, rfl, rfl, by simp⟩
theorem stays_putObj {T : Nat → Prop} (w : World) (r : Nat) (o : Obj) (hr : T r) : Stays T w (w.putObj r o) :=
  ⟨ext_putObj w r o, fun b _ hb => World.putObj_heap_other (fun e => hb (e ▸ hr))⟩
theorem keeps_putObj {T : Nat → Prop} (w : World) (r : Nat) (o : Obj) (hr : ¬ T r) : Keeps T w (w.putObj r o) :=
  ⟨ext_putObj w r o, fun b _ hb => World.putObj_heap_other (fun e => hr (e ▸ hb))⟩

/-- What is told of a loop's state abides whatever an iterator turns of its own. -/
def Abides (J : Nat → (Nat → Prop) → World → Prop) : Prop :=
  ∀ k T T' W W', J k T W → Stays T W W' → (∀ b, b < W.heap.size → ¬ T b → ¬ T' b) → J k T' W'

variable {P : Program}
/-- An iterator: handed yield, it hands it the elements of xs in turn, as long as each round goes on. Own: what it may turn of what lay before; Need: what it reads, and every round must leave. -/
def Yields {α : Type} (P : Program) (g : Nat) (lb : Array Value) (encs : α → Array Value) (xs : List α) (Own : Nat → Prop) (Need : World → Prop) : Prop :=
  ∀ (l : Nat) (J : Nat → (Nat → Prop) → World → Prop) (W : World), Need W → Abides J →
    (∀ k x T W1, xs[k]? = some x → J k T W1 → Need W1 → (∀ b, T b → b < W1.heap.size) →
      YieldAt Fence.wide 0 P l (encs x) W1 fun e W2 => e = .returned (.bool true) ∧ J (k + 1) T W2 ∧ Keeps T W1 W2 ∧ Need W2) →
    J 0 Own W →
    CallsIn Fence.wide 0 P g (#[.func (.yield l) #[] #[]] ++ lb) W fun e W' => (∃ v, e = .returned v) ∧ Need W' ∧ ∃ T, J xs.length T W'

/-- The end of a round's body: it goes on. -/
def RoundEnd (R : World → Prop) : Exit → Act → World → Prop
  | .normal, _, W => R W
  | _, _, _ => False

/-- THE LAW. -/
theorem range_law {α : Type} {g : Operand} {ps : Array Tmp} {assign body : Code} {Q : Exit → Act → World → Prop} {a : Act} {w : World}
    {gf : Nat} {lb : Array Value} (hg : a.eval g = .func (.func gf) #[] lb) (eg : ∀ args w, (callFunc gf args).run P w = .ok (.enter gf args) w)
    {encs : α → Array Value} {xs : List α} {Own : Nat → Prop} {Need : World → Prop} (hy : Yields P gf lb encs xs Own Need) (hps : ∀ x, (encs x).size = ps.size)
    (I : Nat → (Nat → Prop) → World → Prop) (hI : Abides I) (hOwn : ∀ b, Own b → b < w.heap.size)
    (hneed : Need w) (hN : ∀ W W', Need W → w.heap.size ≤ W.heap.size → Stays (fun b => w.heap.size ≤ b) W W' → Need W')
    (h0 : ∀ W, Below w.heap.size w W → I 0 (fun b => Own b ∨ b = w.heap.size ∨ b = w.heap.size + 1) W)
    (hround : ∀ (k : Nat) (x : α) (T : Nat → Prop) (W : World), xs[k]? = some x → w.heap.size + 1 < W.heap.size → I k T W → Need W → T w.heap.size → T (w.heap.size + 1) → (∀ b, T b → b < W.heap.size) →
      assign.wpIn (Fence.wide.inRound (w.heap.size + 1)) 0 P (Exit.then (fun a1 W1 => Below W.heap.size W W1 ∧ ∀ W1', Stays (fun b => b = w.heap.size + 1) W1 W1' →
          body.wpIn (Fence.wide.inRound (w.heap.size + 1)) 0 P (RoundEnd fun W2 => I (k + 1) T W2 ∧ Keeps T W1' W2 ∧ Need W2) a1 W1') (fun _ _ _ => False))
        { tmps := (ps.zip (encs x)).foldl (fun t (p, v) => t.setIfInBounds p v) a.tmps, defers := [] } W)
    (hdone : ∀ (T : Nat → Prop) (W : World), I xs.length T W → Need W → T w.heap.size → T (w.heap.size + 1) → W.heap[w.heap.size]? = some (.deferred (some [])) →
      Q .normal { a with defers := { target := .collected w.heap.size, args := #[] } :: a.defers } W) :
    (Code.rangeFunc g ps assign body).wpIn Fence.wide 0 P Q a w := by
  refine wpIn_rangeFunc ?_
  intro fn hfn
  obtain ⟨rec, hrec⟩ : ∃ rec : LoopState → Option Code → Loop, rec = fun st pe => { state := st, pending := pe, fn, tmps := a.tmps, params := ps, assign, body, defers := w.heap.size } := ⟨_, rfl⟩
  obtain ⟨W1, hW1⟩ : ∃ W1, (w.alloc (.deferred (some []))).alloc (.loop (rec .ready none)) = W1 := ⟨_, rfl⟩
  have hL1 : W1.heap[w.heap.size + 1]? = some (.loop (rec .ready none)) := by
    rw [← hW1]; have := World.alloc_heap_new (w.alloc (.deferred (some []))) (.loop (rec .ready none)); rwa [World.size_alloc] at this
  have hK1 : W1.heap[w.heap.size]? = some (.deferred (some [])) := by
    rw [← hW1]; exact (Below.heap_alloc _ _ _ (by simp)).trans (World.alloc_heap_new w _)
  have hb1 : Below w.heap.size w W1 := by
    rw [← hW1]; exact ((Below.refl _ w).alloc (Nat.le_refl _) _).alloc (by simp) _
  refine ⟨w.heap.size + 1, [{ target := .collected w.heap.size, args := #[] }], W1, { target := .fn (.func gf) lb, args := #[.func (.yield (w.heap.size + 1)) #[] #[]] }, W1, gf,
    #[.func (.yield (w.heap.size + 1)) #[] #[]] ++ lb, W1, ?_, ?_, fun f' _ => trivial, ?_, (fun h => by cases h), ?_⟩
  · rw [← hW1, hrec]; exact run_enterLoop_outer _ _ _ _ _
  · simp only [resolve, hg]
    simp [go_sem]
  · simp [invoke, go_sem, eg]
  · refine (hy (w.heap.size + 1)
      (fun k T W => I k (fun b => T b ∨ b = w.heap.size ∨ b = w.heap.size + 1) W ∧ W.heap[w.heap.size + 1]? = some (.loop (rec .ready none)) ∧ W.heap[w.heap.size]? = some (.deferred (some [])) ∧ ¬ T w.heap.size ∧ ¬ T (w.heap.size + 1))
      W1 (hN _ _ hneed (Nat.le_refl _) (Stays.of_below hb1)) ?_ ?_ ⟨h0 W1 hb1, hL1, hK1, fun h => by have := hOwn _ h; omega, fun h => by have := hOwn _ h; omega⟩).mono ?_
    · -- what the iterator turns leaves the loop's record
      rintro k T T' W W' ⟨hi, hl, hk, hT1, hT2⟩ hs hT
      have hl1 : w.heap.size + 1 < W.heap.size := (Array.getElem?_eq_some_iff.1 hl).1
      exact ⟨hI k _ _ W W' hi (hs.mono fun b _ h => .inl h) (fun b hb hn h => by
        rcases h with h | h
        · exact hT b hb (fun h' => hn (.inl h')) h
        · exact hn (.inr h)), hs.obj hl hT2, hs.obj hk hT1, hT _ (by omega) hT1, hT _ hl1 hT2⟩
    · -- one round
      rintro k x T W hx ⟨hi, hl, hk, hT1, hT2⟩ hnd hbd
      have hlt : w.heap.size + 1 < W.heap.size := (Array.getElem?_eq_some_iff.1 hl).1
      have hyr := run_yield (P := P) (args := encs x) hl (by rw [hrec]; exact hps x)
      have hr := hround k x _ W hx hlt hi hnd (.inr (.inl rfl)) (.inr (.inr rfl)) (fun b hb => by rcases hb with hb | hb | hb; exact hbd b hb; omega; omega)
      rw [hrec] at hyr
      refine ⟨fn, _, assign, body, hyr, roundIn_of_wpIn hfn (wpIn_mono hr ?_)⟩
      rintro e a1 W2 hp
      cases e with
      | normal =>
        obtain ⟨hb2, hbody⟩ := hp
        have hl2 : W2.heap[w.heap.size + 1]? = some (.loop (rec .ready none)) := (hb2.block _ hlt).trans hl
        have hk2 : W2.heap[w.heap.size]? = some (.deferred (some [])) := (hb2.block _ (by omega)).trans hk
        refine ⟨_, run_beginRound hl2 (by rw [hrec]), ?_⟩
        have hst : Stays (fun b => b = w.heap.size + 1) W2 (W2.putObj (w.heap.size + 1) (.loop { rec .ready none with state := .busy })) := stays_putObj _ _ _ rfl
        have hlt2 : w.heap.size + 1 < W2.heap.size := Nat.lt_of_lt_of_le hlt hb2.size
        have hl3 : (W2.putObj (w.heap.size + 1) (.loop { rec .ready none with state := .busy })).heap[w.heap.size + 1]? = some (.loop { rec .ready none with state := .busy }) := World.putObj_heap_same hlt2
        have hk3 : (W2.putObj (w.heap.size + 1) (.loop { rec .ready none with state := .busy })).heap[w.heap.size]? = some (.deferred (some [])) := (World.putObj_heap_other (by omega)).trans hk2
        refine wpIn_mono (hbody _ hst) ?_
        rintro e a3 W3 hp3
        cases e with
        | normal =>
          obtain ⟨hi3, hkp, hn3⟩ := hp3
          have hl4 := hkp.obj hl3 (.inr (.inr rfl))
          have hk4 := hkp.obj hk3 (.inr (.inl rfl))
          have hend := run_endRound (P := P) none hl4
          have hlt4 : w.heap.size + 1 < W3.heap.size := (Array.getElem?_eq_some_iff.1 hl4).1
          have hrd : ({ ({ rec .ready none with state := .busy } : Loop) with state := if (none : Option Code).isNone then .ready else .done, pending := none } : Loop) = rec .ready none := by rw [hrec]; rfl
          rw [hrd] at hend
          refine ⟨_, _, hend, rfl, ⟨?_, World.putObj_heap_same hlt4, (World.putObj_heap_other (by omega)).trans hk4, hT1, hT2⟩, ?_, hN _ _ hn3 (by omega) (stays_putObj _ _ _ (by omega))⟩
          · exact hI _ _ _ _ _ hi3 (stays_putObj _ _ _ (.inr (.inr rfl))) (fun b _ h => h)
          · refine Keeps.trans (Keeps.of_below hb2) (Keeps.trans (keeps_putObj _ _ _ hT2) (Keeps.trans (hkp.mono fun b _ h => .inl h) (keeps_putObj _ _ _ hT2)))
        | ret => exact hp3.elim
        | exit id => exact hp3.elim
        | goto t => exact hp3.elim
        | panic ch => exact hp3.elim
        | outgrown => exact hp3.elim
      | ret => exact hp.elim
      | exit id => exact hp.elim
      | goto t => exact hp.elim
      | panic ch => exact hp.elim
      | outgrown => exact hp.elim
    · -- behind the iterator
      rintro e W2 ⟨⟨v, rfl⟩, hnd, T, hi, hl, hk, hT1, hT2⟩
      have hend := run_endLoop (P := P) hl (by rw [hrec]; simp)
      have hpn : (rec .ready none).pending = none := by rw [hrec]
      rw [hpn] at hend
      refine ⟨none, _, hend, ?_⟩
      exact hdone _ _ (hI _ _ _ _ _ hi (stays_putObj _ _ _ (.inr (.inr rfl))) (fun b _ h => h)) (hN _ _ hnd (by have := (Array.getElem?_eq_some_iff.1 hl).1; omega) (stays_putObj _ _ _ (by omega))) (.inr (.inl rfl)) (.inr (.inr rfl)) ((World.putObj_heap_other (by omega)).trans hk)
end Go.Proofs.YtigofgdmefobaaaDoor.Iter

/- Plain facts about logs, as numbers and lists: no program in sight. -/
set_option linter.unusedVariables false
namespace Go.Proofs.YtigofgdmefobaaaDoor.Peel

/-- A span, a knot, a log. -/
structure Sp where
  lo : Int
  hi : Int
structure Kn where
  a : Sp
  f : Sp
structure PL where
  long : List Int
  size : Int
  knots : List Kn

def sumTo (xs : List Int) (k : Nat) : Int := (xs.take k).sum
theorem sumTo_zero (xs : List Int) : sumTo xs 0 = 0 := by simp [sumTo]
theorem sumTo_succ (xs : List Int) (k : Nat) (h : k < xs.length) : sumTo xs (k + 1) = sumTo xs k + xs.getD k 0 := by
  unfold sumTo
  rw [List.take_succ_eq_append_getElem h, List.sum_append]
  simp [List.getD_eq_getElem?_getD, List.getElem?_eq_getElem h]
theorem sumTo_all (xs : List Int) : sumTo xs xs.length = xs.sum := by simp [sumTo]

structure Sp.Ok (s : Sp) (first last wide : Int) : Prop where
  low : first ≤ s.lo
  ends : s.lo ≤ s.hi
  high : s.hi ≤ last
  close : s.hi - s.lo ≤ wide
structure Kn.Ok (k : Kn) (n : Int) : Prop where
  a : k.a.Ok 0 23 3
  f : k.f.Ok 0 n 1
/-- A valid log. -/
structure PL.Ok (l : PL) : Prop where
  turns1 : 1 ≤ l.long.length
  turns : l.long.length ≤ 6
  size1 : 1 ≤ l.size
  size6 : l.size ≤ 6
  knots3 : l.knots.length ≤ 3
  long : ∀ k, k < l.long.length → 1 ≤ l.long.getD k 0 ∧ l.long.getD k 0 ≤ 12
  down : ∀ k, 0 < k → k < l.long.length → l.long.getD k 0 ≤ l.long.getD (k - 1) 0
  knots : ∀ x ∈ l.knots, x.Ok l.long.length

instance (s : Sp) (a b c : Int) : Decidable (s.Ok a b c) := decidable_of_iff ((a ≤ s.lo ∧ s.lo ≤ s.hi) ∧ s.hi ≤ b ∧ s.hi - s.lo ≤ c) ⟨fun h => ⟨h.1.1, h.1.2, h.2.1, h.2.2⟩, fun h => ⟨⟨h.1, h.2⟩, h.3, h.4⟩⟩
instance (k : Kn) (n : Int) : Decidable (k.Ok n) := decidable_of_iff (k.a.Ok 0 23 3 ∧ k.f.Ok 0 n 1) ⟨fun h => ⟨h.1, h.2⟩, fun h => ⟨h.1, h.2⟩⟩
instance (l : PL) : Decidable l.Ok := decidable_of_iff ((1 ≤ l.long.length ∧ l.long.length ≤ 6) ∧ (1 ≤ l.size ∧ l.size ≤ 6) ∧ l.knots.length ≤ 3 ∧ (∀ k, k < l.long.length → 1 ≤ l.long.getD k 0 ∧ l.long.getD k 0 ≤ 12) ∧ (∀ k, k < l.long.length → 0 < k → l.long.getD k 0 ≤ l.long.getD (k - 1) 0) ∧ ∀ x ∈ l.knots, x.Ok l.long.length)
  ⟨fun h => ⟨h.1.1, h.1.2, h.2.1.1, h.2.1.2, h.2.2.1, h.2.2.2.1, fun k a b => h.2.2.2.2.1 k b a, h.2.2.2.2.2⟩, fun h => ⟨⟨h.1, h.2⟩, ⟨h.3, h.4⟩, h.5, h.6, fun k a b => h.7 k b a, h.8⟩⟩
/-- How many columns the ribbon has. -/
def PL.all (l : PL) : Int := l.long.sum
theorem sumTo_le {l : PL} (h : l.Ok) (k : Nat) : k ≤ l.long.length → 0 ≤ sumTo l.long k ∧ sumTo l.long k ≤ 12 * k := by
  induction k with
  | zero => intro _; simp [sumTo_zero]
  | succ k ih =>
    intro hk
    have h1 := ih (by omega)
    have h2 := h.long k (by omega)
    rw [sumTo_succ _ _ (by omega)]
    omega
theorem sumTo_bd {l : PL} (h : l.Ok) (k : Nat) (hk : k ≤ l.long.length) : 0 ≤ sumTo l.long k ∧ sumTo l.long k ≤ 72 := by
  have := sumTo_le h k hk
  have := h.turns
  omega
theorem all_bd {l : PL} (h : l.Ok) : 0 ≤ l.all ∧ l.all ≤ 72 := by
  have := sumTo_bd h l.long.length (Nat.le_refl _)
  rwa [sumTo_all] at this
theorem sumTo_mono {l : PL} (h : l.Ok) (j k : Nat) (hjk : j ≤ k) (hk : k ≤ l.long.length) : sumTo l.long j ≤ sumTo l.long k := by
  induction k with
  | zero => have : j = 0 := by omega
            subst this; exact Int.le_refl _
  | succ k ih =>
    rcases Nat.lt_or_ge k j with hj | hj
    · have : j = k + 1 := by omega
      subst this; exact Int.le_refl _
    · have h1 := ih hj (by omega)
      have h2 := h.long k (by omega)
      rw [sumTo_succ _ _ (by omega)]
      omega
/-- The column of an angle in a turn. -/
def PL.col (l : PL) (t : Nat) (a : Int) : Int := sumTo l.long t + a * l.long.getD t 0 / 24
theorem col_bd {l : PL} (h : l.Ok) (t : Nat) (a : Int) (ht : t < l.long.length) (h0 : 0 ≤ a) (h1 : a ≤ 23) : sumTo l.long t ≤ l.col t a ∧ l.col t a < sumTo l.long (t + 1) := by
  have hl := h.long t ht
  rw [sumTo_succ _ _ ht]
  unfold PL.col
  generalize l.long.getD t 0 = x at *
  have hm : 0 ≤ a * x := Int.mul_nonneg h0 (by omega)
  have hm2 : a * x ≤ 23 * x := Int.mul_le_mul_of_nonneg_right h1 (by omega)
  omega
theorem col_all {l : PL} (h : l.Ok) (t : Nat) (a : Int) (ht : t < l.long.length) (h0 : 0 ≤ a) (h1 : a ≤ 23) : 0 ≤ l.col t a ∧ l.col t a < l.all := by
  have h2 := col_bd h t a ht h0 h1
  have h3 := sumTo_bd h t (by omega)
  have h4 := sumTo_mono h (t + 1) l.long.length (by omega) (Nat.le_refl _)
  rw [sumTo_all] at h4
  unfold PL.all
  omega
/-- Are these columns, from one on, the first ones of pieces of a cutting? -/
def PL.isCut (l : PL) : Int → List Int → Bool
  | _, [] => true
  | b, c :: cs => decide (b ≤ c ∧ c ≤ l.all - l.size) && l.isCut (c + l.size) cs
theorem isCut_at (l : PL) (b : Int) (cs : List Int) (k : Nat) (h : k < cs.length) : l.isCut b (cs.drop k) = (decide (b ≤ cs.getD k 0 ∧ cs.getD k 0 ≤ l.all - l.size) && l.isCut (cs.getD k 0 + l.size) (cs.drop (k + 1))) := by
  rw [List.drop_eq_getElem_cons h, PL.isCut]
  simp [List.getD_eq_getElem?_getD, List.getElem?_eq_getElem h]
end Go.Proofs.YtigofgdmefobaaaDoor.Peel

/- Walks of the small functions of package peel on a valid log. -/
set_option linter.unusedVariables false
set_option linter.unusedSimpArgs false
namespace Go.Proofs.YtigofgdmefobaaaDoor.Peel
open Go.RowKit

/-- A valid log lies in memory. -/
structure LogAt (w : World) (l : PL) (a : Addr) (B : Option Addr) (c d : Nat) : Prop where
  ok : l.Ok
  long : ∀ k, k < l.long.length → w.cell? (a.add k) = some (.int .i64 (l.long.getD k 0))
  knots : ∀ k x, l.knots[k]? = some x → ∃ b, B = some b ∧ w.cell? (b.add (k * 4)) = some (.int .i64 x.a.lo) ∧ w.cell? ⟨(b.add (k * 4)).block, (b.add (k * 4)).off + 1, none⟩ = some (.int .i64 x.a.hi) ∧ w.cell? ⟨(b.add (k * 4)).block, (b.add (k * 4)).off + 2, none⟩ = some (.int .i64 x.f.lo) ∧ w.cell? ⟨(b.add (k * 4)).block, (b.add (k * 4)).off + 3, none⟩ = some (.int .i64 x.f.hi)
  c : l.long.length ≤ c
  d : l.knots.length ≤ d
theorem cell_below {w w1 : World} (h : Below w.heap.size w w1) {a : Addr} {v : Value} (hc : w.cell? a = some v) : w1.cell? a = some v := (h.cell (World.block_lt_of_cell? w a hc)).trans hc
/-- One call behind another. -/
theorem bb {w w1 w2 : World} (h : Below w.heap.size w w1) (k : Below w1.heap.size w1 w2) : Below w.heap.size w w2 := h.trans (k.mono h.size)
theorem LogAt.below {w w1 : World} {l : PL} {a : Addr} {B : Option Addr} {c d : Nat} (h : LogAt w l a B c d) (hb : Below w.heap.size w w1) : LogAt w1 l a B c d where
  ok := h.ok
  long := fun k hk => cell_below hb (h.long k hk)
  knots := fun k x hx => by
    obtain ⟨b, e, h0, h1, h2, h3⟩ := h.knots k x hx
    exact ⟨b, e, cell_below hb h0, cell_below hb h1, cell_below hb h2, cell_below hb h3⟩
  c := h.c
  d := h.d

/-- 'n := 0; for _, long := range l.Long[:turn] { n += long }'. -/
theorem before_any {w : World} {l : PL} {a : Addr} {B : Option Addr} {c d : Nat} (m : Nat) (h : LogAt w l a B c d) (t : Int) (h0 : 0 ≤ t) (ht : t ≤ l.long.length) :
    Calls Tryd.prog 86 #[.agg #[.slice (some a) l.long.length c, .int .i64 l.size, .slice B l.knots.length d, .map (some m)], .int .i64 t] w fun e w' => e = .returned (.int .i64 (sumTo l.long t.toNat)) ∧ Below w.heap.size w w' := by
  obtain ⟨t, rfl⟩ := Int.eq_ofNat_of_zero_le h0
  simp only [Int.toNat_natCast]
  have ht' : t ≤ l.long.length := by omega
  have hn := h.ok.turns
  have hc := h.c
  go_enter Tryd.func86, Tryd.ntmps86
  go_wp2
  go_loop [5, 7, 14] (fun n _ i => ∃ k : Nat, k ≤ t ∧ i = .int .i64 k ∧ n = .int .i64 (sumTo l.long k)) (fun _ _ i => t - (intOf i).toNat)
  case atStart => exact ⟨0, Nat.zero_le _, rfl, by simp [sumTo_zero]⟩
  case round =>
    obtain ⟨k, hk, rfl, rfl⟩ := hrel
    by_cases hlt : k < t
    · have hcell := cell_below ((Below.refl _ w).alloc (Nat.le_refl _) (.cells #[.slice (some a) l.long.length c, .int .i64 l.size, .slice B l.knots.length d, .map (some m)] 75)) (h.long k (by omega))
      have h1 := sumTo_bd h.ok k (by omega)
      have h2 := sumTo_bd h.ok (k + 1) (by omega)
      have HC := Lib.hid (sumTo_succ l.long k (by omega))
      rw [HC.out] at h2
      clear h h0
      generalize l.long.getD k 0 = x at *
      go_wp2
      go_round
      case rel => exact ⟨k + 1, by omega, by go_num, by rw [HC.out]⟩
      case measure => simp [intOf]; omega
    · go_wp2
      go_ret
      have : k = t := by omega
      subst this
      exact ⟨rfl, (Below.refl _ _).alloc (Nat.le_refl _) _⟩
/-- 'return l.before(len(l.Long))'. -/
theorem columns_any {w : World} {l : PL} {a : Addr} {B : Option Addr} {c d : Nat} (m : Nat) (h : LogAt w l a B c d) :
    Calls Tryd.prog 58 #[.agg #[.slice (some a) l.long.length c, .int .i64 l.size, .slice B l.knots.length d, .map (some m)]] w fun e w' => e = .returned (.int .i64 l.all) ∧ Below w.heap.size w w' := by
  go_enter Tryd.func58, Tryd.ntmps58
  go_wp2_with fail
  have hb := ((Below.refl _ w).alloc (Nat.le_refl _) (.cells #[.slice (some a) l.long.length c, .int .i64 l.size, .slice B l.knots.length d, .map (some m)] 75))
  refine (before_any m (h.below hb) _ (by omega) (by omega)).mono ?_
  rintro e w' ⟨rfl, hb'⟩
  go_wp2_with fail
  go_ret
  exact ⟨by simp [sumTo_all, PL.all], bb hb hb'⟩
end Go.Proofs.YtigofgdmefobaaaDoor.Peel

/- Walks of package peel: the column of an angle. -/
set_option linter.unusedVariables false
set_option linter.unusedSimpArgs false
namespace Go.Proofs.YtigofgdmefobaaaDoor.Peel
open Go.RowKit
set_option maxHeartbeats 1000000 in
/-- 'return l.before(turn) + angle*l.Long[turn]/api.PeelAngle'. -/
theorem column_any {w : World} {l : PL} {a : Addr} {B : Option Addr} {c d : Nat} (m : Nat) (h : LogAt w l a B c d) (t x : Int) (h0 : 0 ≤ t) (ht : t < l.long.length) (hx0 : 0 ≤ x) (hx : x ≤ 23) :
    Calls Tryd.prog 63 #[.agg #[.slice (some a) l.long.length c, .int .i64 l.size, .slice B l.knots.length d, .map (some m)], .int .i64 t, .int .i64 x] w fun e w' => e = .returned (.int .i64 (l.col t.toNat x)) ∧ Below w.heap.size w w' := by
  obtain ⟨t, rfl⟩ := Int.eq_ofNat_of_zero_le h0
  simp only [Int.toNat_natCast]
  have ht' : t < l.long.length := by omega
  have hn := h.ok.turns
  have hc := h.c
  have hcell := cell_below ((Below.refl _ w).alloc (Nat.le_refl _) (.cells #[.slice (some a) l.long.length c, .int .i64 l.size, .slice B l.knots.length d, .map (some m)] 75)) (h.long t ht')
  have h1 := h.ok.long t ht'
  have h2 := sumTo_bd h.ok t (by omega)
  have H := Lib.hid h
  have HW := Lib.hid (show l.col t x = sumTo l.long t + x * l.long.getD t 0 / 24 from rfl)
  clear h
  generalize l.long.getD t 0 = y at *
  have hm : 0 ≤ x * y := Int.mul_nonneg hx0 (by omega)
  have hm2 : x * y ≤ 23 * y := Int.mul_le_mul_of_nonneg_right hx (by omega)
  have hb := ((Below.refl _ w).alloc (Nat.le_refl _) (.cells #[.slice (some a) l.long.length c, .int .i64 l.size, .slice B l.knots.length d, .map (some m)] 75))
  go_enter Tryd.func63, Tryd.ntmps63
  go_wp2_with fail
  go_region_held3 (fun w' => w'.cell? ⟨w.heap.size, 0, none⟩ = some (.slice (some a) l.long.length c) ∧ w'.cell? ⟨w.heap.size, 1, none⟩ = some (.int .i64 l.size) ∧ w'.cell? ⟨w.heap.size, 2, none⟩ = some (.slice B l.knots.length d) ∧ w'.cell? ⟨w.heap.size, 3, none⟩ = some (.map (some m)) ∧ w'.cell? (a.add t) = some (.int .i64 y))
    (first | go_keep | (go_split_ands; refine ⟨?_, ?_, ?_, ?_, ?_⟩ <;> exact cell_below hb' (by assumption)))
    (first | (go_at_call 86; refine (before_any m (H.out.below (by exact hb.drew)) _ (by omega) (by omega)).mono ?_; rintro e w' ⟨rfl, hb'⟩))
  have e1 : IntKind.i64.wrap (x * y) = x * y := IntWalk.i64_in _ (by omega)
  have e2 : IntKind.i64.wrap ((x * y).tdiv 24) = x * y / 24 := by rw [Int.tdiv_eq_ediv_of_nonneg hm]; exact IntWalk.i64_in _ (by omega)
  have e3 : IntKind.i64.wrap (sumTo l.long t + x * y / 24) = sumTo l.long t + x * y / 24 := IntWalk.i64_in _ (by omega)
  rw [e1, e2, e3]
  clear e1 e2 e3
  rw [← HW.out]
  go_wp2
  go_ret
  exact ⟨rfl, bb hb.drew hb'⟩
end Go.Proofs.YtigofgdmefobaaaDoor.Peel

/- Columns of a ribbon as an array of truth values: what the program's operations on such arrays come to. -/
set_option linter.unusedVariables false
set_option linter.unusedSimpArgs false
namespace Go.Proofs.YtigofgdmefobaaaDoor.Peel
open Go.RowKit

/-- An array of 72 truth values. -/
def rl (r : Nat → Bool) : List Value := (List.range 72).map fun i => .bool (r i)
def rv (r : Nat → Bool) : Array Value := (rl r).toArray
theorem rl_length (r : Nat → Bool) : (rl r).length = 72 := by simp [rl]
theorem rv_size (r : Nat → Bool) : (rv r).size = 72 := by simp [rv, rl]
theorem rv_get (r : Nat → Bool) (i : Nat) (h : i < 72) : (rv r)[i]? = some (.bool (r i)) := by simp [rv, rl, h]
theorem rv_set (r : Nat → Bool) (i : Nat) (b : Bool) : (rv r).setIfInBounds i (.bool b) = rv (fun k => if k = i then b else r k) := by
  apply Array.ext_getElem?
  intro j
  rw [Array.getElem?_setIfInBounds]
  rcases Nat.lt_or_ge j 72 with hj | hj
  · rw [rv_get _ j hj, rv_get _ j hj, rv_size]
    by_cases e : i = j
    · subst e; simp [hj]
    · have e' : ¬ j = i := fun h => e h.symm
      simp [e, e']
  · rw [Array.getElem?_eq_none (by rw [rv_size]; omega), Array.getElem?_eq_none (by rw [rv_size]; omega), rv_size]
    by_cases e : i = j
    · subst e; simp; omega
    · simp [e]
theorem rv_one (r : Nat → Bool) : (rv r).all (·.oneCell') = true := by simp [rv, rl, Value.oneCell']
theorem rv_congr {r s : Nat → Bool} (h : ∀ i, i < 72 → r i = s i) : rv r = rv s := by
  unfold rv rl
  congr 1
  apply List.map_congr_left
  intro i hi
  rw [h i (by simpa using hi)]
theorem rv_ext {r s : Nat → Bool} (h : rv r = rv s) (i : Nat) (hi : i < 72) : r i = s i := by
  have := congrArg (fun a => a[i]?) h
  simp only [rv_get _ i hi] at this
  simpa using this
def none72 : Nat → Bool := fun _ => false

theorem infoRib : (Tryd.prog.info? 86).map (fun i => (i.zero, i.size)) = some (some (.agg (rv none72)), 72) := by kernel_rfl
theorem zeroRib (w : World) : (zeroValue 86).run Tryd.prog w = .ok (.agg (rv none72)) w := (zero_of_info infoRib).1 w
theorem zeroCells : Tryd.zeroCells86 = rv none72 := by kernel_rfl
theorem sizeRib : (Tryd.prog.info? 86).map (·.size) = some 72 := (zero_of_info infoRib).2
theorem undRib : Tryd.prog.underlying 86 = some (.array 72 4) := by kernel_rfl
attribute [irreducible] rv rl

/-- A whole array read out of its block. -/
theorem load_rib {w : World} {g : Nat} {r : Nat → Bool} (h : w.heap[g]? = some (.cells (rv r) 86 (0, 0))) :
    (Instr.loadAt 86 (.pointer (some ⟨g, 0, none⟩))).run Tryd.prog w = .ok (.agg (rv r)) w := by
  simp only [Instr.loadAt, Instr.sureAddr, Sem.run_bind, Sem.run_pure, Result.andThen]
  exact run_loadVar_row w g _ _ _ (0, 0) _ h undRib rfl (by rw [rv_size]; exact sizeRib)
/-- A whole array stored into its block. -/
theorem store_rib {w : World} {g : Nat} {r s : Nat → Bool} (h : w.heap[g]? = some (.cells (rv r) 86 (0, 0))) :
    (Instr.storeAt 86 (.pointer (some ⟨g, 0, none⟩)) (.agg (rv s))).run Tryd.prog w = .ok () (w.setRow g (rv s)) := by
  simp only [Instr.storeAt, Instr.sureAddr, Sem.run_bind, Sem.run_pure, Result.andThen]
  exact run_storeVar_row _ _ _ _ _ _ h (by rw [rv_size]; exact sizeRib) (by rw [rv_size, rv_size]) (rv_one s)
/-- An element of an array value. -/
theorem index_rib {w : World} {r : Nat → Bool} {i : Int} (h0 : 0 ≤ i) (h1 : i < 72) :
    (Instr.index 86 (.agg (rv r)) (.int .i64 i)).run Tryd.prog w = .ok (.bool (r i.toNat)) w := by
  have hs : (sizeOf 4).run Tryd.prog w = .ok 1 w := by kernel_rfl
  have ha : (isAgg 4).run Tryd.prog w = .ok false w := by kernel_rfl
  have hg := rv_get r i.toNat (by omega)
  simp [Instr.index, asIntOf, Sem.run_bind, run_underlying undRib, Result.andThen_ok, h0, h1, hs, part, ha, hg]
/-- Do two arrays hold the same? -/
def same72 (r s : Nat → Bool) : Bool := (List.range 72).all fun i => r i == s i
theorem same72_iff (r s : Nat → Bool) : same72 r s = true ↔ ∀ i, i < 72 → r i = s i := by simp [same72]
theorem part_rib {w : World} (r : Nat → Bool) (i : Nat) (h : i < 72) : (part 4 (rv r) i).run Tryd.prog w = .ok (.bool (r i)) w := by
  have ha : (isAgg 4).run Tryd.prog w = .ok false w := by kernel_rfl
  simp [part, ha, rv_get r i h]
theorem equal_rib_loop {w : World} (r s : Nat → Bool) (d : Nat) (l : List Nat) (hl : ∀ i ∈ l, i < 72) :
    Sem.run Tryd.prog (forIn l ((none, ()) : Option Bool × Unit) (fun i _ => do
        let a ← part 4 (rv r) (i * 1)
        let b ← part 4 (rv s) (i * 1)
        let e ← Op.equalIn (d + 1) 4 a b
        if (!e) = true then pure (.done (some false, ())) else pure (.yield (none, ()))) : Sem (Option Bool × Unit)) w
      = .ok (if l.all (fun i => r i == s i) then (none, ()) else (some false, ())) w := by
  induction l with
  | nil => simp
  | cons i l ih =>
    have hi := hl i (by simp)
    have hb := run_equalIn_bool' (P := Tryd.prog) w d 4 (r i) (s i) (by kernel_rfl)
    simp only [List.forIn_cons, Sem.run_bind, Nat.mul_one, part_rib _ _ hi, Result.andThen_ok, hb, Sem.run_ite, Sem.run_pure, List.all_cons]
    by_cases h : (r i == s i) = true
    · simp only [h, Bool.not_true, Bool.false_eq_true, if_false, Result.andThen_ok, Bool.true_and]
      have := ih (fun j hj => hl j (by simp [hj]))
      simpa using this
    · have h' : (r i == s i) = false := by simpa using h
      simp [h']
theorem equal_rib {w : World} (r s : Nat → Bool) : (Op.equal 86 (.agg (rv r)) (.agg (rv s))).run Tryd.prog w = .ok (same72 r s) w := by
  have hs : (sizeOf 4).run Tryd.prog w = .ok 1 w := by kernel_rfl
  have hl := equal_rib_loop (w := w) r s 9998 (List.range' 0 72) (by intro i hi; simp at hi; omega)
  have he : (List.range' 0 72).all (fun i => r i == s i) = same72 r s := by rw [← List.range_eq_range']; rfl
  unfold Op.equal Op.maxDepth
  rw [Op.equalIn]
  simp only [Sem.run_bind, run_underlying undRib, Result.andThen_ok, hs]
  rw [Std.Legacy.Range.forIn_eq_forIn_range']
  simp only [Std.Legacy.Range.size, Nat.sub_zero, Nat.add_sub_cancel, Nat.div_one]
  rw [hl, he]
  cases same72 r s <;> simp
theorem neq_rib {w : World} (x y : Operand) (r s : Nat → Bool) : Sem.run Tryd.prog (do eqGuard .neq 86 x y (.agg (rv r)) (.agg (rv s)); binOp .neq 86 (.agg (rv r)) (.agg (rv s))) w = .ok (.bool (!same72 r s)) w := by
  have hg : (eqGuard .neq 86 x y (.agg (rv r)) (.agg (rv s))).run Tryd.prog w = .ok () w := by
    have h2 : Tryd.prog.eqGuardType Tryd.prog.depth 86 = false := by kernel_rfl
    simp [eqGuard, h2]
  simp [Sem.run_bind, hg, binOp, equal_rib]
theorem heap_alloc_if (w : World) (o : Obj) (i : Nat) : (w.alloc o).heap[i]? = if i = w.heap.size then some o else w.heap[i]? := by
  show (w.heap.push o)[i]? = _
  rw [Array.getElem?_push]
theorem heap_setRow_if (w : World) (g : Nat) (old cs : Array Value) (t : TypeId) (i : Nat) (h : w.heap[g]? = some (.cells old t (0, 0))) : (w.setRow g cs).heap[i]? = if i = g then some (.cells cs t (0, 0)) else w.heap[i]? := by
  by_cases e : i = g
  · subst e; rw [if_pos rfl]; exact setRow_heap w i old cs t (0, 0) h
  · rw [if_neg e]; exact setRow_other w g i cs e
/-- One block has been written, nothing else. -/
structure Only (g : Nat) (w w1 : World) : Prop where
  os : w1.os = w.os
  tape : w1.tape = w.tape
  output : w1.output = w.output
  size : w1.heap.size = w.heap.size
  block : ∀ i, i ≠ g → w1.heap[i]? = w.heap[i]?
theorem Only.below {g B : Nat} {w w1 : World} (h : Only g w w1) (hB : B ≤ g) : Below B w w1 :=
  ⟨h.os, h.tape, h.output, by rw [h.size]; exact Nat.le_refl _, fun i hi => h.block i (by omega)⟩
theorem only_setRow (w : World) (g : Nat) (cs : Array Value) : Only g w (w.setRow g cs) :=
  ⟨rfl, rfl, rfl, size_setRow _ _ _, fun i hi => setRow_other w g i cs hi⟩
section
variable {ops : Array Oper} {rest : List Oper} {o : Oper} {a : Act} {Q : Exit → Act → World → Prop} {W : World}
theorem gate_load (T : TypeId) {x : Operand} (_ho : o.op = .load T x) (h : wpList Tryd.prog ops Q (o :: rest) a W) : wpList Tryd.prog ops Q (o :: rest) a W := h
theorem gate_store (T : TypeId) {p x : Operand} (_ho : o.op = .store T p x) (h : wpList Tryd.prog ops Q (o :: rest) a W) : wpList Tryd.prog ops Q (o :: rest) a W := h
theorem gate_alloc (T : TypeId) (_ho : o.op = .alloc T) (h : wpList Tryd.prog ops Q (o :: rest) a W) : wpList Tryd.prog ops Q (o :: rest) a W := h
theorem gate_box (T : TypeId) {x : Operand} (_ho : o.op = .box T x) (h : wpList Tryd.prog ops Q (o :: rest) a W) : wpList Tryd.prog ops Q (o :: rest) a W := h
/-- An array of a ribbon is made. -/
theorem ev_alloc_rib (hgd : o.guard = none) (ho : o.op = .alloc 86)
    (h : wpList Tryd.prog ops Q rest (a.put o.dst (.pointer (some ⟨W.heap.size, 0, none⟩))) (W.alloc (.cells (rv none72) 86))) : wpList Tryd.prog ops Q (o :: rest) a W := by
  refine wpList_plain hgd fun K hK => ?_
  have hr : (Instr.alloc 86 true (.tuple #[])).run Tryd.prog W = .ok (.pointer (some ⟨W.heap.size, 0, none⟩)) (W.alloc (.cells (rv none72) 86)) := by
    simp [Instr.alloc, Sem.run_bind, zeroRib, newVar, newRow, Value.cells, run_newObj_alloc, zeroCells]
  unfold Oper.wp execOp
  simp only [ho, Sem.run_bind, Sem.run_pure, Result.andThen_ok, hr]
  exact hK _ _ h
/-- An array is put into a block of its own. -/
theorem ev_box_rib (hgd : o.guard = none) (x : Operand) (ho : o.op = .box 86 x) (r : Nat → Bool) (hx : a.eval x = .agg (rv r))
    (h : wpList Tryd.prog ops Q rest (a.put o.dst (.pointer (some ⟨W.heap.size, 0, none⟩))) (W.alloc (.cells (rv r) 86))) : wpList Tryd.prog ops Q (o :: rest) a W := by
  refine wpList_plain hgd fun K hK => ?_
  have hr : (Instr.box 86 (.agg (rv r))).run Tryd.prog W = .ok (.pointer (some ⟨W.heap.size, 0, none⟩)) (W.alloc (.cells (rv r) 86)) := by
    simp [Instr.box, Sem.run_bind, newVar, newRow, Value.cells, run_newObj_alloc]
  unfold Oper.wp execOp
  simp only [ho, hx, Sem.run_bind, Sem.run_pure, Result.andThen_ok, hr]
  exact hK _ _ h
theorem ev_load_rib (hgd : o.guard = none) (x : Operand) (ho : o.op = .load 86 x) (g : Nat) (hx : a.eval x = .pointer (some ⟨g, 0, none⟩)) (r : Nat → Bool)
    (hg : W.heap[g]? = some (.cells (rv r) 86 (0, 0)))
    (h : wpList Tryd.prog ops Q rest (a.put o.dst (.agg (rv r))) W) : wpList Tryd.prog ops Q (o :: rest) a W := by
  refine wpList_plain hgd fun K hK => ?_
  unfold Oper.wp execOp
  simp only [ho, hx, Sem.run_bind, Sem.run_pure, Result.andThen_ok, load_rib hg]
  exact hK _ _ h
theorem ev_store_rib (hgd : o.guard = none) (hd : o.dst = none) (p x : Operand) (ho : o.op = .store 86 p x) (g : Nat) (hp : a.eval p = .pointer (some ⟨g, 0, none⟩)) (r s : Nat → Bool)
    (hx : a.eval x = .agg (rv s)) (hg : W.heap[g]? = some (.cells (rv r) 86 (0, 0)))
    (h : wpList Tryd.prog ops Q rest a (W.setRow g (rv s))) : wpList Tryd.prog ops Q (o :: rest) a W := by
  refine wpList_plain hgd fun K hK => ?_
  unfold Oper.wp execOp
  simp only [ho, hp, hx, Sem.run_bind, Sem.run_pure, Result.andThen_ok, store_rib (s := s) hg]
  show K (a.put o.dst undef) _
  rw [hd]
  exact hK _ _ h
end
end Go.Proofs.YtigofgdmefobaaaDoor.Peel

/- Walks of package peel: small functions, closures, and how a log is asked. -/
set_option linter.unusedVariables false
set_option linter.unusedSimpArgs false
namespace Go.Proofs.YtigofgdmefobaaaDoor.Peel
open Go.RowKit

theorem in_any (n a b : Int) (w : World) :
    Calls Tryd.prog 59 #[.int .i64 n, .int .i64 a, .int .i64 b] w fun e w' => e = .returned (.bool (decide (a ≤ n ∧ n ≤ b))) ∧ w = w' := by
  by_cases h : a ≤ n
  · go_enter Tryd.func59, Tryd.ntmps59
    go_wp2
    go_ret
    exact ⟨by simp [h], rfl⟩
  · go_enter Tryd.func59, Tryd.ntmps59
    go_wp2
    go_ret
    exact ⟨by simp; omega, rfl⟩

/-- A new log in the calculation: its marks are a new, empty map. -/
def Opened (w : World) (v0 v1 v2 : Value) (e : Ending) (w' : World) : Prop :=
  ∃ m : Nat, e = .returned (.agg #[v0, v1, v2, .map (some m)]) ∧ Below w.heap.size w w' ∧ w'.heap[m]? = some (.map #[] 0) ∧ w.heap.size ≤ m
theorem opened_any (A B : Option Addr) (n c k d : Nat) (s : Int) (w : World) :
    Calls Tryd.prog 82 #[.agg #[.slice A n c, .int .i64 s, .slice B k d]] w (Opened w (.slice A n c) (.int .i64 s) (.slice B k d)) := by
  have hmm := @run_makeMap Tryd.prog
  go_enter Tryd.func82, Tryd.ntmps82
  go_wp2
  refine bodyPost_ret (v := .agg #[.slice A n c, .int .i64 s, .slice B k d, .map (some (w.heap.size + 1 + 1))]) (by simp [results, Tryd.results82, go_sem]) rfl ?_
  exact ⟨_, rfl, (((Below.refl _ _).alloc (Nat.le_refl _) _).alloc (by simp) _).alloc (by simp; omega) _, by have := heap_alloc_new ((w.alloc (.cells #[.slice A n c, .int .i64 s, .slice B k d] 25)).alloc (.cells #[.slice A n c, .int .i64 s, .slice B k d, .map (some (w.heap.size + 1 + 1))] 75)) (.map #[] 0); simpa using this, by omega⟩

theorem clean_any (w : World) :
    Calls Tryd.prog 90 #[] w fun e w' => e = .returned (.agg (rv none72)) ∧ Below w.heap.size w w' := by
  go_enter Tryd.func90, Tryd.ntmps90
  go_wp2_with (first | ((with_reducible refine gate_alloc 86 rfl ?_); refine ev_alloc_rib rfl rfl ?_) | ((with_reducible refine gate_load 86 rfl ?_); refine ev_load_rib rfl _ rfl _ rfl none72 (by simp only [heap_alloc_if, World.size_alloc, heap_drew, if_true]; repeat (first | rw [if_neg (by omega)] | rw [if_pos (by omega)])) ?_) | ((with_reducible refine gate_store 86 rfl ?_); refine ev_store_rib rfl rfl _ _ rfl _ rfl none72 none72 rfl (by simp only [heap_alloc_if, World.size_alloc, heap_drew, if_true]; repeat (first | rw [if_neg (by omega)] | rw [if_pos (by omega)])) ?_))
  have hg : (((w.alloc (.cells (rv none72) 86)).alloc (.cells (rv none72) 86)).setRow w.heap.size (rv none72)).heap[w.heap.size]? = some (.cells (rv none72) 86 (0, 0)) := by
    rw [heap_setRow_if _ _ (rv none72) _ 86 _ (by simp only [heap_alloc_if, World.size_alloc, heap_drew, if_true]; repeat (first | rw [if_neg (by omega)] | rw [if_pos (by omega)])), if_pos rfl]
  exact bodyPost_ret (results_cell_row rfl _ _ _ _ _ _ _ rfl hg undRib rfl (by rw [rv_size]; exact sizeRib)) rfl ⟨rfl, (((Below.refl _ _).alloc (Nat.le_refl _) _).alloc (by simp) _).trans ((only_setRow _ _ _).below (by simp))⟩
end Go.Proofs.YtigofgdmefobaaaDoor.Peel

/- Walks of package peel: a log is checked. -/
set_option linter.unusedVariables false
set_option linter.unusedSimpArgs false
namespace Go.Proofs.YtigofgdmefobaaaDoor.Peel
open Go.RowKit

theorem in_yes (n a b : Int) (w : World) (h : a ≤ n ∧ n ≤ b) :
    Calls Tryd.prog 59 #[.int .i64 n, .int .i64 a, .int .i64 b] w fun e w' => e = .returned (.bool true) ∧ w = w' := by
  refine (in_any n a b w).mono ?_
  rintro e w' ⟨rfl, rfl⟩
  exact ⟨by simp [h], rfl⟩
theorem in_no (n a b : Int) (w : World) (h : ¬ (a ≤ n ∧ n ≤ b)) :
    Calls Tryd.prog 59 #[.int .i64 n, .int .i64 a, .int .i64 b] w fun e w' => e = .returned (.bool false) ∧ w = w' := by
  refine (in_any n a b w).mono ?_
  rintro e w' ⟨rfl, rfl⟩
  exact ⟨by simp [h], rfl⟩
theorem spans_yes (s : Sp) (n m : Int) (w : World) (h : s.Ok 0 n m) (hn : n ≤ 4611686018427387904) :
    Calls Tryd.prog 60 #[.agg #[.int .i64 s.lo, .int .i64 s.hi], .int .i64 0, .int .i64 n, .int .i64 m] w fun e w' => e = .returned (.bool true) ∧ Below w.heap.size w w' := by
  obtain ⟨h1, h2, h3, h4⟩ := h
  go_enter Tryd.func60, Tryd.ntmps60
  go_wp2_with fail
  refine (in_yes _ _ _ _ ⟨h1, h2⟩).mono ?_
  rintro e w' ⟨rfl, rfl⟩
  go_wp2_with fail
  go_ret
  exact ⟨rfl, (Below.refl _ _).alloc (Nat.le_refl _) _⟩
theorem spans_no (s : Sp) (n m : Int) (w : World) (h : ¬ s.Ok 0 n m) (hn : n ≤ 4611686018427387904) :
    Calls Tryd.prog 60 #[.agg #[.int .i64 s.lo, .int .i64 s.hi], .int .i64 0, .int .i64 n, .int .i64 m] w fun e w' => e = .returned (.bool false) ∧ Below w.heap.size w w' := by
  by_cases h12 : 0 ≤ s.lo ∧ s.lo ≤ s.hi
  · by_cases h3 : s.hi ≤ n
    · by_cases h4 : s.hi - s.lo ≤ m
      · exact absurd ⟨h12.1, h12.2, h3, h4⟩ h
      · go_enter Tryd.func60, Tryd.ntmps60
        go_wp2_with fail
        refine (in_yes _ _ _ _ h12).mono ?_
        rintro e w' ⟨rfl, rfl⟩
        obtain ⟨h1, h2⟩ := h12
        go_wp2_with fail
        go_ret
        exact ⟨by simp [h4], (Below.refl _ _).alloc (Nat.le_refl _) _⟩
    · go_enter Tryd.func60, Tryd.ntmps60
      go_wp2_with fail
      refine (in_yes _ _ _ _ h12).mono ?_
      rintro e w' ⟨rfl, rfl⟩
      go_wp2_with fail
      go_ret
      exact ⟨rfl, (Below.refl _ _).alloc (Nat.le_refl _) _⟩
  · go_enter Tryd.func60, Tryd.ntmps60
    go_wp2_with fail
    refine (in_no _ _ _ _ h12).mono ?_
    rintro e w' ⟨rfl, rfl⟩
    go_wp2_with fail
    go_ret
    exact ⟨rfl, (Below.refl _ _).alloc (Nat.le_refl _) _⟩

theorem add_succ (a : Addr) (j : Nat) : a.add (j + 1) = ⟨a.block, a.off + (j + 1), none⟩ := by simp [Addr.add]
theorem add_zero (a : Addr) : a.add 0 = a := by simp [Addr.add]
theorem bcell {B : Nat} {W w1 : World} (hb : Below B W w1) : (∀ b o, b < B → w1.cell? ⟨b, o, none⟩ = W.cell? ⟨b, o, none⟩) ∧ (∀ b o, b < B → w1.frozen? ⟨b, o, none⟩ = W.frozen? ⟨b, o, none⟩) :=
  ⟨fun b o h => hb.cell (p := ⟨b, o, none⟩) h, fun b o h => hb.frozen (p := ⟨b, o, none⟩) h⟩
theorem heap_box {w wr : World} {o : Obj} (h : Below (w.heap.size + 1) (w.alloc o) wr) : wr.heap[w.heap.size]? = some o := (h.block _ (by omega)).trans (heap_alloc_new w o)
theorem box_cell {w wr : World} {cs : Array Value} {t : TypeId} {fr : Nat × Nat} (h : Below (w.heap.size + 1) (w.alloc (.cells cs t fr)) wr) (i : Nat) : wr.cell? ⟨w.heap.size, i, none⟩ = cs[i]? := cell_of_row wr _ i cs t fr (heap_box h)
/-- A log lies in memory, valid or not. -/
structure RawAt (w : World) (l : PL) (A B : Option Addr) (c d : Nat) : Prop where
  long : ∀ k, k < l.long.length → ∃ a, A = some a ∧ w.cell? (a.add k) = some (.int .i64 (l.long.getD k 0))
  knots : ∀ k x, l.knots[k]? = some x → ∃ b, B = some b ∧ w.cell? (b.add (k * 4)) = some (.int .i64 x.a.lo) ∧ w.cell? ⟨(b.add (k * 4)).block, (b.add (k * 4)).off + 1, none⟩ = some (.int .i64 x.a.hi) ∧ w.cell? ⟨(b.add (k * 4)).block, (b.add (k * 4)).off + 2, none⟩ = some (.int .i64 x.f.lo) ∧ w.cell? ⟨(b.add (k * 4)).block, (b.add (k * 4)).off + 3, none⟩ = some (.int .i64 x.f.hi)
  c : l.long.length ≤ c
  d : l.knots.length ≤ d
  n : l.long.length ≤ 4611686018427387904
  m : l.knots.length ≤ 4611686018427387904
theorem RawAt.below {w w1 : World} {l : PL} {A B : Option Addr} {c d : Nat} (h : RawAt w l A B c d) (hb : Below w.heap.size w w1) : RawAt w1 l A B c d where
  long := fun k hk => by
    obtain ⟨a, e, h0⟩ := h.long k hk
    exact ⟨a, e, cell_below hb h0⟩
  knots := fun k x hx => by
    obtain ⟨b, e, h0, h1, h2, h3⟩ := h.knots k x hx
    exact ⟨b, e, cell_below hb h0, cell_below hb h1, cell_below hb h2, cell_below hb h3⟩
  c := h.c
  d := h.d
  n := h.n
  m := h.m
theorem RawAt.at {w : World} {l : PL} {A B : Option Addr} {c d : Nat} (h : RawAt w l A B c d) (ok : l.Ok) : ∃ a, A = some a ∧ LogAt w l a B c d := by
  obtain ⟨a, rfl, _⟩ := h.long 0 ok.turns1
  refine ⟨a, rfl, ok, fun k hk => ?_, h.knots, h.c, h.d⟩
  obtain ⟨a', e, h0⟩ := h.long k hk
  injection e with e
  rw [e]; exact h0
theorem LogAt.raw {w : World} {l : PL} {a : Addr} {B : Option Addr} {c d : Nat} (h : LogAt w l a B c d) : RawAt w l (some a) B c d where
  long := fun k hk => ⟨a, rfl, h.long k hk⟩
  knots := h.knots
  c := h.c
  d := h.d
  n := by have := h.ok.turns; omega
  m := by have := h.ok.knots3; omega

/-- What a number of a turn must be. -/
def LongOk (xs : List Int) (k : Nat) : Prop := (1 ≤ xs.getD k 0 ∧ xs.getD k 0 ≤ 12) ∧ (k = 0 ∨ xs.getD k 0 ≤ xs.getD (k - 1) 0)
def HeadOk (l : PL) : Prop := (1 ≤ (l.long.length : Int) ∧ (l.long.length : Int) ≤ 6) ∧ (1 ≤ l.size ∧ l.size ≤ 6) ∧ l.knots.length ≤ 3
def KnotOk (l : PL) (k : Nat) : Prop := ∀ x, l.knots[k]? = some x → x.Ok l.long.length
theorem ok_iff (l : PL) : l.Ok ↔ HeadOk l ∧ (∀ k, k < l.long.length → LongOk l.long k) ∧ ∀ k, k < l.knots.length → KnotOk l k := by
  constructor
  · intro h
    refine ⟨⟨⟨by have := h.turns1; omega, by have := h.turns; omega⟩, ⟨h.size1, h.size6⟩, h.knots3⟩, fun k hk => ⟨h.long k hk, ?_⟩, fun k hk x hx => h.knots x (List.mem_of_getElem? hx)⟩
    rcases Nat.eq_zero_or_pos k with h0 | h0
    · exact .inl h0
    · exact .inr (h.down k h0 hk)
  · rintro ⟨⟨⟨h1, h2⟩, ⟨h3, h4⟩, h5⟩, h6, h7⟩
    refine ⟨by omega, by omega, h3, h4, h5, fun k hk => (h6 k hk).1, fun k h0 hk => ?_, fun x hx => ?_⟩
    · rcases (h6 k hk).2 with h | h
      · omega
      · exact h
    · obtain ⟨k, hk, rfl⟩ := List.mem_iff_getElem.1 hx
      exact h7 k hk _ (List.getElem?_eq_getElem hk)
/-- What Check answers. -/
def CheckPost (l : PL) (w : World) (e : Ending) (w' : World) : Prop := (l.Ok ∧ e = .returned (.int .i64 0) ∨ ¬ l.Ok ∧ e = .returned (.int .i64 10)) ∧ Below w.heap.size w w'
def Upto (b0 : Prop) (P : Nat → Prop) (k : Nat) (b : Bool) : Prop := b = true ↔ b0 ∧ ∀ j, j < k → P j
theorem Upto.zero {b0 : Prop} {P : Nat → Prop} {b : Bool} (h : b = true ↔ b0) : Upto b0 P 0 b := by
  unfold Upto; rw [h]; simp
theorem Upto.yes {b0 : Prop} {P : Nat → Prop} {k : Nat} {b : Bool} (h : Upto b0 P k b) (hp : P k) : Upto b0 P (k + 1) b := by
  unfold Upto at *
  rw [h]
  constructor
  · rintro ⟨h0, h1⟩
    exact ⟨h0, fun j hj => by rcases Nat.lt_or_ge j k with h | h; exact h1 j h; (have : j = k := by omega); subst this; exact hp⟩
  · rintro ⟨h0, h1⟩
    exact ⟨h0, fun j hj => h1 j (by omega)⟩
theorem Upto.no {b0 : Prop} {P : Nat → Prop} {k : Nat} (hp : ¬ P k) : Upto b0 P (k + 1) false := by
  unfold Upto
  constructor
  · intro h; cases h
  · rintro ⟨_, h⟩
    exact absurd (h k (by omega)) hp
theorem Upto.keep {b0 : Prop} {P : Nat → Prop} {k : Nat} (h : Upto b0 P k false) : Upto b0 P (k + 1) false := by
  unfold Upto at *
  constructor
  · intro h; cases h
  · rintro ⟨h0, h1⟩
    exact h.2 ⟨h0, fun j hj => h1 j (by omega)⟩
end Go.Proofs.YtigofgdmefobaaaDoor.Peel

/- Walks of package peel: Check. -/
set_option linter.unusedVariables false
set_option linter.unusedSimpArgs false
namespace Go.Proofs.YtigofgdmefobaaaDoor.Peel
open Go.RowKit
theorem head_yes {l : PL} (h1 : 1 ≤ (l.long.length : Int) ∧ (l.long.length : Int) ≤ 6) (h2 : 1 ≤ l.size ∧ l.size ≤ 6) : decide ((l.knots.length : Int) ≤ 3) = true ↔ HeadOk l := by
  rw [decide_eq_true_iff]
  exact ⟨fun h => ⟨h1, h2, by omega⟩, fun h => by have := h.2.2; omega⟩
theorem head_no {l : PL} (h : ¬ HeadOk l) : false = true ↔ HeadOk l := ⟨fun e => (by cases e), fun k => absurd k h⟩
set_option maxHeartbeats 1000000 in
theorem check_any {w : World} {l : PL} {A B : Option Addr} {c d : Nat} (h : RawAt w l A B c d) :
    Calls Tryd.prog 17 #[.agg #[.slice A l.long.length c, .int .i64 l.size, .slice B l.knots.length d]] w (CheckPost l w) := by
  have hn := h.n
  have hm := h.m
  have hc := h.c
  have hd := h.d
  have H := Lib.hid h
  clear h
  have hB := (Below.refl _ w).alloc (Nat.le_refl _) (.cells #[.slice A l.long.length c, .int .i64 l.size, .slice B l.knots.length d] 25)
  go_enter Tryd.func17, Tryd.ntmps17
  -- the three tests at the head
  go_upto_region 1 with (fail)
  go_cut [3] (fun b wc => ∃ b0 : Bool, b = .bool b0 ∧ (b0 = true ↔ HeadOk l) ∧ wc = w.alloc (.cells #[.slice A l.long.length c, .int .i64 l.size, .slice B l.knots.length d] 25))
  case first =>
    by_cases h1 : 1 ≤ (l.long.length : Int) ∧ (l.long.length : Int) ≤ 6
    · by_cases h2 : 1 ≤ l.size ∧ l.size ≤ 6
      · go_wp2_with fail
        refine (in_yes _ _ _ _ h1).mono ?_
        rintro e w' ⟨rfl, rfl⟩
        go_wp2_with fail
        refine (in_yes _ _ _ _ h2).mono ?_
        rintro e w' ⟨rfl, rfl⟩
        go_wp2_with fail
        go_meet
        case rel => exact ⟨_, rfl, head_yes h1 h2, rfl⟩
      · go_wp2_with fail
        refine (in_yes _ _ _ _ h1).mono ?_
        rintro e w' ⟨rfl, rfl⟩
        go_wp2_with fail
        refine (in_no _ _ _ _ h2).mono ?_
        rintro e w' ⟨rfl, rfl⟩
        go_wp2_with fail
        go_meet
        case rel => exact ⟨_, rfl, head_no (fun h => h2 h.2.1), rfl⟩
    · go_wp2_with fail
      refine (in_no _ _ _ _ h1).mono ?_
      rintro e w' ⟨rfl, rfl⟩
      go_wp2_with fail
      go_meet
      case rel => exact ⟨_, rfl, head_no (fun h => h1 h.1), rfl⟩
  case rest =>
    obtain ⟨b0, rfl, hb0, rfl⟩ := hcut
    go_wp2_with fail
    go_loop [3, 4, 5, 26] (fun b _ _ i => ∃ (k : Nat) (b1 : Bool), k ≤ l.long.length ∧ i = .int .i64 k ∧ b = .bool b1 ∧ Upto (HeadOk l) (LongOk l.long) k b1) (fun _ _ _ i => l.long.length - (intOf i).toNat)
    case atStart => exact ⟨0, b0, Nat.zero_le _, rfl, rfl, Upto.zero hb0⟩
    case round =>
      obtain ⟨k, b1, hk, rfl, rfl, hu⟩ := hrel
      by_cases hlt : k < l.long.length
      · obtain ⟨a, rfl, hcell⟩ := H.out.below hB |>.long k hlt
        have hprev : ∀ j, k = j + 1 → (w.alloc (.cells #[.slice (some a) l.long.length c, .int .i64 l.size, .slice B l.knots.length d] 25)).cell? (a.add j) = some (.int .i64 (l.long.getD j 0)) := fun j hj => by
          obtain ⟨a', e, h0⟩ := (H.out.below hB).long j (by omega)
          injection e with e
          subst e
          exact h0
        have HK := Lib.hid (show LongOk l.long k ↔ (1 ≤ l.long.getD k 0 ∧ l.long.getD k 0 ≤ 12) ∧ (k = 0 ∨ l.long.getD k 0 ≤ l.long.getD (k - 1) 0) from Iff.rfl)
        generalize l.long.getD k 0 = x at *
        cases b1 with
        | false =>
          go_wp2_with fail
          go_round
          case rel => exact ⟨k + 1, false, by omega, by go_num, rfl, hu.keep⟩
          case measure => simp [intOf]; omega
        | true =>
          by_cases hx : 1 ≤ x ∧ x ≤ 12
          · rcases Nat.eq_zero_or_pos k with hk0 | hk0
            · subst hk0
              rw [add_zero] at hcell
              go_wp2_with fail
              refine (in_yes _ _ _ _ hx).mono ?_
              rintro e w' ⟨rfl, rfl⟩
              go_wp2_with fail
              go_round
              case rel => exact ⟨1, true, by omega, rfl, rfl, hu.yes (HK.out.2 ⟨hx, .inl (by trivial)⟩)⟩
              case measure => simp [intOf]; omega
            · obtain ⟨j, rfl⟩ : ∃ j, k = j + 1 := ⟨k - 1, by omega⟩
              have hp := hprev j rfl
              rw [add_succ] at hcell
              simp only [Nat.add_sub_cancel] at HK
              have hj0 : ((j : Int) + 1 == 0) = false := by simp; omega
              clear hprev
              generalize l.long.getD j 0 = y at *
              by_cases hxy : x ≤ y
              · go_wp2_with fail
                refine (in_yes _ _ _ _ hx).mono ?_
                rintro e w' ⟨rfl, rfl⟩
                go_wp2_with fail
                go_round
                case rel => exact ⟨j + 1 + 1, true, by omega, by go_num, by simp [hxy], hu.yes (HK.out.2 ⟨hx, .inr hxy⟩)⟩
                case measure => simp [intOf]; omega
              · go_wp2_with fail
                refine (in_yes _ _ _ _ hx).mono ?_
                rintro e w' ⟨rfl, rfl⟩
                go_wp2_with fail
                go_round
                case rel => exact ⟨j + 1 + 1, false, by omega, by go_num, by simp [hxy], Upto.no (fun h => by rcases (HK.out.1 h).2 with h | h <;> omega)⟩
                case measure => simp [intOf]; omega
          · go_wp2_with fail
            refine (in_no _ _ _ _ hx).mono ?_
            rintro e w' ⟨rfl, rfl⟩
            go_wp2_with fail
            go_round
            case rel => exact ⟨k + 1, false, by omega, by go_num, rfl, Upto.no (fun h => hx (HK.out.1 h).1)⟩
            case measure => simp [intOf]; omega
      · obtain rfl : k = l.long.length := by omega
        have HU := Lib.hid hu
        clear hu hlt
        go_wp2_with fail
        go_loopw [3, 7, 54] (fun b _ i wr => ∃ (k : Nat) (b2 : Bool), k ≤ l.knots.length ∧ i = .int .i64 k ∧ b = .bool b2 ∧ Upto (HeadOk l ∧ ∀ j, j < l.long.length → LongOk l.long j) (KnotOk l) k b2 ∧ Below (w.heap.size + 1) (w.alloc (.cells #[.slice A l.long.length c, .int .i64 l.size, .slice B l.knots.length d] 25)) wr) (fun _ _ i _ => l.knots.length - (intOf i).toNat)
        case atStart => exact ⟨0, b1, Nat.zero_le _, rfl, rfl, Upto.zero HU.out, Below.refl _ _⟩
        case round =>
          obtain ⟨k, b2, hk, rfl, rfl, hu, hbr⟩ := hrel
          by_cases hlt : k < l.knots.length
          · obtain ⟨x, hx⟩ : ∃ x, l.knots[k]? = some x := ⟨_, List.getElem?_eq_getElem hlt⟩
            have hsz : w.heap.size < wr.heap.size := by have := hbr.size; simp at this; omega
            obtain ⟨b, rfl, k0, k1, k2, k3⟩ := ((H.out.below hB).below (by simpa using hbr)).knots k x hx
            obtain ⟨hcr, hfr⟩ := bcell hbr
            have HX := Lib.hid hx
            clear hx
            have HU2 := Lib.hid hu
            clear hu
            have HBR := Lib.hid hbr
            clear hbr
            cases b2 with
            | false =>
              go_wp2_with fail
              go_roundw
              case rel => exact ⟨k + 1, false, by omega, by go_num, rfl, HU2.out.keep, HBR.out.alloc (by omega) _⟩
              case measure => simp [intOf]; omega
            | true =>
              by_cases ha : x.a.Ok 0 23 3
              · by_cases hf : x.f.Ok 0 l.long.length 1
                · go_wp2_with fail
                  refine (spans_yes x.a 23 3 _ ha (by omega)).mono ?_
                  rintro e w' ⟨rfl, hb1⟩
                  obtain ⟨hc1, hf1⟩ := bcell hb1
                  have hz1 : wr.heap.size + 1 ≤ w'.heap.size := by have := hb1.size; simpa using this
                  have HB1 := Lib.hid hb1
                  clear hb1
                  go_wp2_with fail
                  refine (spans_yes x.f _ 1 _ hf (by omega)).mono ?_
                  rintro e w2 ⟨rfl, hb2⟩
                  have HB2 := Lib.hid hb2
                  clear hb2
                  go_wp2_with fail
                  go_roundw
                  case rel => exact ⟨k + 1, true, by omega, by go_num, rfl, HU2.out.yes (fun y hy => by rw [HX.out] at hy; injection hy with hy; subst hy; exact ⟨ha, hf⟩), ((HBR.out.alloc (by omega) _).trans (HB1.out.mono (by simp; omega))).trans (HB2.out.mono (by omega))⟩
                  case measure => simp [intOf]; omega
                · go_wp2_with fail
                  refine (spans_yes x.a 23 3 _ ha (by omega)).mono ?_
                  rintro e w' ⟨rfl, hb1⟩
                  obtain ⟨hc1, hf1⟩ := bcell hb1
                  have hz1 : wr.heap.size + 1 ≤ w'.heap.size := by have := hb1.size; simpa using this
                  have HB1 := Lib.hid hb1
                  clear hb1
                  go_wp2_with fail
                  refine (spans_no x.f _ 1 _ hf (by omega)).mono ?_
                  rintro e w2 ⟨rfl, hb2⟩
                  have HB2 := Lib.hid hb2
                  clear hb2
                  go_wp2_with fail
                  go_roundw
                  case rel => exact ⟨k + 1, false, by omega, by go_num, rfl, Upto.no (fun h => hf (h x HX.out).f), ((HBR.out.alloc (by omega) _).trans (HB1.out.mono (by simp; omega))).trans (HB2.out.mono (by omega))⟩
                  case measure => simp [intOf]; omega
              · go_wp2_with fail
                refine (spans_no x.a 23 3 _ ha (by omega)).mono ?_
                rintro e w' ⟨rfl, hb1⟩
                have HB1 := Lib.hid hb1
                clear hb1
                go_wp2_with fail
                go_roundw
                case rel => exact ⟨k + 1, false, by omega, by go_num, rfl, Upto.no (fun h => ha (h x HX.out).a), (HBR.out.alloc (by omega) _).trans (HB1.out.mono (by simp; omega))⟩
                case measure => simp [intOf]; omega
          · obtain rfl : k = l.knots.length := by omega
            have HU2 := Lib.hid hu
            clear hu
            cases b2 with
            | true =>
              go_wp2_with fail
              go_ret
              exact ⟨.inl ⟨(ok_iff l).2 (by have := HU2.out.1 rfl; exact ⟨this.1.1, this.1.2, this.2⟩), rfl⟩, hB.trans (hbr.mono (by simp))⟩
            | false =>
              go_wp2_with fail
              go_ret
              exact ⟨.inr ⟨fun h => (by have := HU2.out.2 ⟨⟨((ok_iff l).1 h).1, ((ok_iff l).1 h).2.1⟩, ((ok_iff l).1 h).2.2⟩; cases this), rfl⟩, hB.trans (hbr.mono (by simp))⟩
end Go.Proofs.YtigofgdmefobaaaDoor.Peel

/- Walks of package peel: cuttings, and what may be asked. -/
set_option linter.unusedVariables false
set_option linter.unusedSimpArgs false
namespace Go.Proofs.YtigofgdmefobaaaDoor.Peel
open Go.RowKit
/-- A list of numbers lies in memory. -/
structure CutAt (w : World) (cs : List Int) (C : Option Addr) (n : Nat) : Prop where
  at_ : ∀ k, k < cs.length → ∃ a, C = some a ∧ w.cell? (a.add k) = some (.int .i64 (cs.getD k 0))
  cap : cs.length ≤ n
  len : cs.length ≤ 4611686018427387904
theorem CutAt.below {w w1 : World} {cs : List Int} {C : Option Addr} {n : Nat} (h : CutAt w cs C n) (hb : Below w.heap.size w w1) : CutAt w1 cs C n where
  at_ := fun k hk => by
    obtain ⟨a, e, h0⟩ := h.at_ k hk
    exact ⟨a, e, cell_below hb h0⟩
  cap := h.cap
  len := h.len
set_option maxHeartbeats 1000000 in
theorem isCut_any {w : World} {l : PL} {a : Addr} {B : Option Addr} {c d : Nat} (m : Nat) (h : LogAt w l a B c d) {cs : List Int} {C : Option Addr} {n : Nat} (hC : CutAt w cs C n) :
    Calls Tryd.prog 68 #[.agg #[.slice (some a) l.long.length c, .int .i64 l.size, .slice B l.knots.length d, .map (some m)], .slice C cs.length n] w fun e w' => e = .returned (.bool (l.isCut 0 cs)) ∧ Below w.heap.size w w' := by
  have hcap := hC.cap
  have hlen := hC.len
  have hs1 := h.ok.size1
  have hs6 := h.ok.size6
  have hall := all_bd h.ok
  have H := Lib.hid h
  have HC := Lib.hid hC
  clear h hC
  have hB := (Below.refl _ w).alloc (Nat.le_refl _) (.cells #[.slice (some a) l.long.length c, .int .i64 l.size, .slice B l.knots.length d, .map (some m)] 75)
  go_enter Tryd.func68, Tryd.ntmps68
  go_wp2_with fail
  go_loopw [5, 7, 10] (fun f _ i wr => ∃ (k : Nat) (b : Int), k ≤ cs.length ∧ i = .int .i64 k ∧ f = .int .i64 b ∧ 0 ≤ b ∧ b ≤ 72 ∧ Hid (l.isCut 0 cs = l.isCut b (cs.drop k)) ∧ Below (w.heap.size + 1) (w.alloc (.cells #[.slice (some a) l.long.length c, .int .i64 l.size, .slice B l.knots.length d, .map (some m)] 75)) wr) (fun _ _ i _ => cs.length - (intOf i).toNat)
  case atStart => exact ⟨0, 0, Nat.zero_le _, rfl, rfl, by omega, by omega, Lib.hid (by simp), Below.refl _ _⟩
  case round =>
    obtain ⟨k, b, hk, rfl, rfl, hb0, hb1, HE, hbr⟩ := hrel
    by_cases hlt : k < cs.length
    · have hsz : w.heap.size < wr.heap.size := by have := hbr.size; simp at this; omega
      have hwr := hB.trans (hbr.mono (Nat.le_succ _))
      obtain ⟨ca, rfl, hcell⟩ := (HC.out.below hwr).at_ k hlt
      have HI := Lib.hid (isCut_at l b cs k hlt)
      have hlog := H.out.below hwr
      have q0 : wr.cell? ⟨w.heap.size, 0, none⟩ = some (.slice (some a) l.long.length c) := (box_cell hbr 0).trans rfl
      have q1 : wr.cell? ⟨w.heap.size, 1, none⟩ = some (.int .i64 l.size) := (box_cell hbr 1).trans rfl
      have q2 : wr.cell? ⟨w.heap.size, 2, none⟩ = some (.slice B l.knots.length d) := (box_cell hbr 2).trans rfl
      have q3 : wr.cell? ⟨w.heap.size, 3, none⟩ = some (.map (some m)) := (box_cell hbr 3).trans rfl
      have HBR := Lib.hid hbr
      have HL := Lib.hid hlog
      clear hbr hlog
      generalize cs.getD k 0 = x at *
      go_upto_region 5 with (fail)
      go_region_held3 (fun w' => w'.cell? ⟨w.heap.size, 0, none⟩ = some (.slice (some a) l.long.length c) ∧ w'.cell? ⟨w.heap.size, 1, none⟩ = some (.int .i64 l.size) ∧ w'.cell? ⟨w.heap.size, 2, none⟩ = some (.slice B l.knots.length d) ∧ w'.cell? ⟨w.heap.size, 3, none⟩ = some (.map (some m)))
        (first | go_keep | (go_split_ands; refine ⟨?_, ?_, ?_, ?_⟩ <;> exact cell_below hb' (by assumption)))
        (first | (go_at_call 58; refine (columns_any m (HL.out.below (by exact (Below.refl _ _).drew))).mono ?_; rintro e w' ⟨rfl, hb'⟩) | (go_at_call 59; refine (in_any _ _ _ _).mono ?_; rintro e w' ⟨rfl, rfl⟩))
      rw [show IntKind.i64.wrap (l.all - l.size) = l.all - l.size from IntWalk.i64_in _ (by omega)]
      have hW := ((HBR.out.drew).trans (hb'.mono hsz))
      have HBW := Lib.hid hW
      have HB' := Lib.hid (bb hwr.drew hb')
      clear hW hb'
      by_cases hx : b ≤ x ∧ x ≤ l.all - l.size
      · have hx1 := hx.1
        have hx2 := hx.2
        rw [decide_eq_true hx1, decide_eq_true hx2]
        simp only [Bool.and_self, Bool.not_true, Bool.or_self]
        go_wp2_with fail
        go_roundw
        case rel => exact ⟨k + 1, x + l.size, by omega, by go_num, rfl, by omega, by omega, Lib.hid (by rw [HE.out, HI.out]; simp [hx1, hx2]), HBW.out⟩
        case measure => simp [intOf]; omega
      · have hx' : (!decide (b ≤ x) || !decide (x ≤ l.all - l.size)) = true := by simp; omega
        rw [hx']
        go_wp2_with fail
        go_ret
        exact ⟨by rw [HE.out, HI.out]; simp; omega, HB'.out⟩
    · obtain rfl : k = cs.length := by omega
      go_wp2_with fail
      go_ret
      exact ⟨by rw [HE.out]; simp [PL.isCut], hB.trans (hbr.mono (Nat.le_succ _))⟩

/-- What may be asked: a function value, and what it answers of a valid log. -/
def Right (g : Nat) (caps : Array Value) (w : World) (l : PL) (a : Addr) (B : Option Addr) (c d : Nat) (b : Bool) : Prop :=
  (∀ args w, (callFunc g args).run Tryd.prog w = .ok (.enter g args) w) ∧ ∀ (w1 : World) (m : Nat), Below w.heap.size w w1 →
    Calls Tryd.prog g (#[.agg #[.slice (some a) l.long.length c, .int .i64 l.size, .slice B l.knots.length d, .map (some m)]] ++ caps) w1 fun e w2 => e = .returned (.bool b) ∧ Below w1.heap.size w1 w2
theorem anything_right (w : World) (l : PL) (a : Addr) (B : Option Addr) (c d : Nat) : Right 57 #[] w l a B c d true := by
  refine ⟨enters_of Tryd.func57 (by kernel_rfl) rfl, fun w1 m hb => ?_⟩
  simp only [Array.append_empty]
  go_enter Tryd.func57, Tryd.ntmps57
  go_wp2_with fail
  go_ret
  exact ⟨rfl, (Below.refl _ _).alloc (Nat.le_refl _) _⟩
theorem cut_right {w : World} {l : PL} {a : Addr} {B : Option Addr} {c d : Nat} (h : LogAt w l a B c d) {cs : List Int} {C : Option Addr} {n : Nat} (hC : CutAt w cs C n) (g : Nat)
    (hg : w.cell? ⟨g, 0, none⟩ = some (.slice C cs.length n)) : Right 70 #[.pointer (some ⟨g, 0, none⟩)] w l a B c d (l.isCut 0 cs) := by
  refine ⟨enters_of Tryd.func70 (by kernel_rfl) rfl, fun w1 m hb => ?_⟩
  have hg1 := cell_below hb hg
  have hl1 := h.below hb
  have hC1 := hC.below hb
  have hB := (Below.refl _ w1).alloc (Nat.le_refl _) (.cells #[.slice (some a) l.long.length c, .int .i64 l.size, .slice B l.knots.length d, .map (some m)] 75)
  have HL := Lib.hid (hl1.below hB)
  have HC := Lib.hid (hC1.below hB)
  clear h hC hl1 hC1 hg hb
  have hlt := World.block_lt_of_cell? w1 _ hg1
  simp only [List.push_toArray, List.append_toArray, List.cons_append, List.nil_append]
  go_enter Tryd.func70, Tryd.ntmps70
  go_wp2_with fail
  refine (isCut_any m HL.out HC.out).mono ?_
  rintro e w' ⟨rfl, hb'⟩
  go_wp2_with fail
  go_ret
  exact ⟨rfl, bb hB hb'⟩
theorem cut_right' {w : World} {l : PL} {a : Addr} {B : Option Addr} {c d : Nat} (h : LogAt w l a B c d) {cs : List Int} {C : Option Addr} {n : Nat} (hC : CutAt w cs C n) (g : Nat)
    (hg : w.cell? ⟨g, 0, none⟩ = some (.slice C cs.length n)) : Right 77 #[.pointer (some ⟨g, 0, none⟩)] w l a B c d (l.isCut 0 cs) := by
  refine ⟨enters_of Tryd.func77 (by kernel_rfl) rfl, fun w1 m hb => ?_⟩
  have hg1 := cell_below hb hg
  have hl1 := h.below hb
  have hC1 := hC.below hb
  have hB := (Below.refl _ w1).alloc (Nat.le_refl _) (.cells #[.slice (some a) l.long.length c, .int .i64 l.size, .slice B l.knots.length d, .map (some m)] 75)
  have HL := Lib.hid (hl1.below hB)
  have HC := Lib.hid (hC1.below hB)
  clear h hC hl1 hC1 hg hb
  have hlt := World.block_lt_of_cell? w1 _ hg1
  simp only [List.push_toArray, List.append_toArray, List.cons_append, List.nil_append]
  go_enter Tryd.func77, Tryd.ntmps77
  go_wp2_with fail
  refine (isCut_any m HL.out HC.out).mono ?_
  rintro e w' ⟨rfl, hb'⟩
  go_wp2_with fail
  go_ret
  exact ⟨rfl, bb hB hb'⟩
end Go.Proofs.YtigofgdmefobaaaDoor.Peel

/- Walks of package peel: a log is asked. -/
set_option linter.unusedVariables false
set_option linter.unusedSimpArgs false
namespace Go.Proofs.YtigofgdmefobaaaDoor.Peel
open Go.RowKit
theorem column_right {w : World} {l : PL} {a : Addr} {B : Option Addr} {c d : Nat} (h : LogAt w l a B c d) (t x : Int) (g k : Nat)
    (hg : w.cell? ⟨g, 0, none⟩ = some (.int .i64 t)) (hk : w.cell? ⟨k, 0, none⟩ = some (.int .i64 x)) :
    Right 62 #[.pointer (some ⟨g, 0, none⟩), .pointer (some ⟨k, 0, none⟩)] w l a B c d (decide ((0 ≤ t ∧ t ≤ (l.long.length : Int) - 1) ∧ (0 ≤ x ∧ x ≤ 23))) := by
  refine ⟨enters_of Tryd.func62 (by kernel_rfl) rfl, fun w1 m hb => ?_⟩
  have hg1 := cell_below hb hg
  have hk1 := cell_below hb hk
  have hn := h.ok.turns
  have hB := (Below.refl _ w1).alloc (Nat.le_refl _) (.cells #[.slice (some a) l.long.length c, .int .i64 l.size, .slice B l.knots.length d, .map (some m)] 75)
  have hlt := World.block_lt_of_cell? w1 _ hg1
  have hlt2 := World.block_lt_of_cell? w1 _ hk1
  clear hg hk hb h
  simp only [List.push_toArray, List.append_toArray, List.cons_append, List.nil_append]
  by_cases ht : 0 ≤ t ∧ t ≤ (l.long.length : Int) - 1
  · go_enter Tryd.func62, Tryd.ntmps62
    go_wp2_with fail
    refine (in_yes _ _ _ _ ht).mono ?_
    rintro e w' ⟨rfl, rfl⟩
    go_wp2_with fail
    refine (in_any _ _ _ _).mono ?_
    rintro e w' ⟨rfl, rfl⟩
    go_wp2_with fail
    go_ret
    exact ⟨by simp [ht], hB⟩
  · go_enter Tryd.func62, Tryd.ntmps62
    go_wp2_with fail
    refine (in_no _ _ _ _ ht).mono ?_
    rintro e w' ⟨rfl, rfl⟩
    go_wp2_with fail
    go_ret
    exact ⟨by simp [ht], hB⟩
theorem knotty_right {w : World} {l : PL} {a : Addr} {B : Option Addr} {c d : Nat} (h : LogAt w l a B c d) (x : Int) (g : Nat)
    (hg : w.cell? ⟨g, 0, none⟩ = some (.int .i64 x)) :
    Right 65 #[.pointer (some ⟨g, 0, none⟩)] w l a B c d (decide (0 ≤ x ∧ x ≤ l.all - 1)) := by
  refine ⟨enters_of Tryd.func65 (by kernel_rfl) rfl, fun w1 m hb => ?_⟩
  have hg1 := cell_below hb hg
  have hl1 := h.below hb
  have hall := all_bd h.ok
  have hB := (Below.refl _ w1).alloc (Nat.le_refl _) (.cells #[.slice (some a) l.long.length c, .int .i64 l.size, .slice B l.knots.length d, .map (some m)] 75)
  have HL := Lib.hid (hl1.below hB)
  have hg2 := cell_below hB hg1
  have hlt := World.block_lt_of_cell? w1 _ hg1
  clear hl1 hg hb h
  simp only [List.push_toArray, List.append_toArray, List.cons_append, List.nil_append]
  go_enter Tryd.func65, Tryd.ntmps65
  go_wp2_with fail
  go_region_held3 (fun w' => w'.cell? ⟨w1.heap.size, 0, none⟩ = some (.slice (some a) l.long.length c) ∧ w'.cell? ⟨w1.heap.size, 1, none⟩ = some (.int .i64 l.size) ∧ w'.cell? ⟨w1.heap.size, 2, none⟩ = some (.slice B l.knots.length d) ∧ w'.cell? ⟨w1.heap.size, 3, none⟩ = some (.map (some m)) ∧ w'.cell? ⟨g, 0, none⟩ = some (.int .i64 x))
    (first | go_keep | (go_split_ands; refine ⟨?_, ?_, ?_, ?_, ?_⟩ <;> exact cell_below hb' (by assumption)))
    (first | (go_at_call 58; refine (columns_any m (HL.out.below (by exact (Below.refl _ _).drew))).mono ?_; rintro e w' ⟨rfl, hb'⟩) | (go_at_call 59; refine (in_any _ _ _ _).mono ?_; rintro e w' ⟨rfl, rfl⟩))
  rw [show IntKind.i64.wrap (l.all - 1) = l.all - 1 from IntWalk.i64_in _ (by omega)]
  have HW := Lib.hid (bb hB.drew hb')
  clear hb'
  go_wp2_with fail
  go_ret
  exact ⟨by simp, HW.out⟩
/-- Two results, the first one a log in the calculation in a block of its own. -/
theorem results_log {fn : Func} {p q : Tmp} (h : fn.results = #[.cell p 75, .tmp q]) (tmps : Array Value) (w : World) (g : Nat) (v0 v1 v2 v3 v : Value)
    (hp : tmps.getD p undef = .pointer (some ⟨g, 0, none⟩)) (hq : tmps.getD q undef = v) (hg : w.heap[g]? = some (.cells #[v0, v1, v2, v3] 75 (0, 0))) :
    (results fn tmps).run Tryd.prog w = .ok (.tuple #[.agg #[v0, v1, v2, v3], v]) w := by
  have hp' : tmps[p]?.getD undef = .pointer (some ⟨g, 0, none⟩) := by simpa using hp
  have hq' : tmps[q]?.getD undef = v := by simpa using hq
  have hl := run_loadVar_row (P := Tryd.prog) w g 75 75 #[v0, v1, v2, v3] (0, 0) _ hg Tryd.underlying75 rfl (by kernel_rfl)
  simp [results, h, hp', hq', asAddr, hl]
theorem blk_lt' {w : World} {g : Nat} {o : Obj} (h : w.heap[g]? = some o) : g < w.heap.size := (Array.getElem?_eq_some_iff.1 h).1
theorem heap_set4 {w : World} {g : Nat} {t : TypeId} {u0 u1 u2 u3 : Value} (h : w.heap[g]? = some (.cells #[u0, u1, u2, u3] t (0, 0))) (v0 v1 v2 v3 : Value) :
    ((((w.setCell ⟨g, 0, none⟩ v0).setCell ⟨g, 1, none⟩ v1).setCell ⟨g, 2, none⟩ v2).setCell ⟨g, 3, none⟩ v3).heap[g]? = some (.cells #[v0, v1, v2, v3] t (0, 0)) := by
  have h0 := heap_setCell_same _ _ 0 _ _ v0 h
  have h1 := heap_setCell_same _ _ 1 _ _ v1 h0
  have h2 := heap_setCell_same _ _ 2 _ _ v2 h1
  have h3 := heap_setCell_same _ _ 3 _ _ v3 h2
  exact h3
theorem below_set4 {w W : World} (h : Below w.heap.size w W) {g : Nat} (hg : w.heap.size ≤ g) (v0 v1 v2 v3 : Value) :
    Below w.heap.size w ((((W.setCell ⟨g, 0, none⟩ v0).setCell ⟨g, 1, none⟩ v1).setCell ⟨g, 2, none⟩ v2).setCell ⟨g, 3, none⟩ v3) :=
  (((h.setCell hg _).setCell hg _).setCell hg _).setCell hg _
/-- What is handed back of a log that is wrong, or a wrong question. -/
def zeroLog : Value := .agg #[.slice none 0 0, .int .i64 0, .slice none 0 0, .map none]
theorem asked_bad {w : World} {l : PL} {A B : Option Addr} {c d : Nat} (h : RawAt w l A B c d) (g : Nat) (caps : Array Value) (hbad : ¬ l.Ok) :
    Calls Tryd.prog 56 #[.agg #[.slice A l.long.length c, .int .i64 l.size, .slice B l.knots.length d], .func (.func g) #[] caps] w fun e w' => e = .returned (.tuple #[zeroLog, .int .i64 10]) ∧ Below w.heap.size w w' := by
  have hB := ((Below.refl _ w).alloc (Nat.le_refl _) (.cells #[.slice A l.long.length c, .int .i64 l.size, .slice B l.knots.length d] 25)).alloc (by simp) (.cells #[.slice none 0 0, .int .i64 0, .slice none 0 0, .map none] 75)
  have H := Lib.hid (h.below hB)
  clear h
  go_enter Tryd.func56, Tryd.ntmps56
  go_wp2_with fail
  refine (check_any H.out).mono ?_
  rintro e w' ⟨(⟨ho, _⟩ | ⟨_, rfl⟩), hb'⟩
  · exact absurd ho hbad
  obtain ⟨hc1, hf1⟩ := bcell hb'
  have hz1 : w.heap.size + 1 + 1 ≤ w'.heap.size := by have := hb'.size; simpa using this
  have HB1 := Lib.hid (bb hB hb')
  clear hb'
  go_wp2_with fail
  refine bodyPost_ret (v := .tuple #[.agg #[.slice none 0 0, .int .i64 0, .slice none 0 0, .map none], .int .i64 10]) (by simp [results, Tryd.results56, go_sem, hc1, hz1]) rfl ⟨rfl, ?_⟩
  exact (((HB1.out.setCell (by simp) _).setCell (by simp) _).setCell (by simp) _).setCell (by simp) _
theorem check_ok {w : World} {l : PL} {A B : Option Addr} {c d : Nat} (h : RawAt w l A B c d) (ok : l.Ok) :
    Calls Tryd.prog 17 #[.agg #[.slice A l.long.length c, .int .i64 l.size, .slice B l.knots.length d]] w fun e w' => e = .returned (.int .i64 0) ∧ Below w.heap.size w w' := by
  refine (check_any h).mono ?_
  rintro e w' ⟨(⟨_, rfl⟩ | ⟨hn, _⟩), hb'⟩
  · exact ⟨rfl, hb'⟩
  · exact absurd ok hn
theorem asked_no {w : World} {l : PL} {a : Addr} {B : Option Addr} {c d : Nat} (h : LogAt w l a B c d) (g : Nat) (caps : Array Value) (hr : Right g caps w l a B c d false) :
    Calls Tryd.prog 56 #[.agg #[.slice (some a) l.long.length c, .int .i64 l.size, .slice B l.knots.length d], .func (.func g) #[] caps] w fun e w' => e = .returned (.tuple #[zeroLog, .int .i64 11]) ∧ Below w.heap.size w w' := by
  obtain ⟨eg, hr⟩ := hr
  have hB := ((Below.refl _ w).alloc (Nat.le_refl _) (.cells #[.slice (some a) l.long.length c, .int .i64 l.size, .slice B l.knots.length d] 25)).alloc (by simp) (.cells #[.slice none 0 0, .int .i64 0, .slice none 0 0, .map none] 75)
  have hbox := heap_alloc2_new w (.cells #[.slice (some a) l.long.length c, .int .i64 l.size, .slice B l.knots.length d] 25) (.cells #[.slice none 0 0, .int .i64 0, .slice none 0 0, .map none] 75)
  have HX := Lib.hid hbox
  have H := Lib.hid (h.raw.below hB)
  have HR := Lib.hid hr
  have HO := Lib.hid h.ok
  clear h hr hbox
  go_enter Tryd.func56, Tryd.ntmps56
  go_wp2_with fail
  refine (check_ok H.out HO.out).mono ?_
  rintro e w' ⟨rfl, hb'⟩
  obtain ⟨hc1, hf1⟩ := bcell hb'
  have hz1 : w.heap.size + 1 + 1 ≤ w'.heap.size := by have := hb'.size; simpa using this
  have HB1 := Lib.hid hb'
  clear hb'
  go_wp2_with fail
  refine (opened_any _ _ _ _ _ _ _ _).mono ?_
  rintro e w2 ⟨m, rfl, hb2, hm2, hms⟩
  obtain ⟨hc2, hf2⟩ := bcell hb2
  have hz2 : w.heap.size + 1 + 1 ≤ w2.heap.size := by have := hb2.size; omega
  have HB2 := Lib.hid (bb HB1.out hb2)
  clear hb2 hm2 hms
  go_wp2_with fail
  have hb3 := (Below.refl _ w2).alloc (Nat.le_refl _) (.cells #[.slice (some a) l.long.length c, .int .i64 l.size, .slice B l.knots.length d, .map (some m)] 75)
  refine (HR.out _ m (bb (bb hB HB2.out) hb3)).mono ?_
  rintro e w3 ⟨rfl, hb4⟩
  have hz3 : w.heap.size + 1 + 1 ≤ w3.heap.size := by have := hb4.size; simp at this; omega
  have HB3 := Lib.hid (bb (bb HB2.out hb3) hb4)
  clear hb3 hb4
  have hw3 := (HB3.out.block _ (by simp)).trans HX.out
  have q0 := (cell_of_row _ _ 0 _ _ _ hw3).trans rfl
  have q1 := (cell_of_row _ _ 1 _ _ _ hw3).trans rfl
  have q2 := (cell_of_row _ _ 2 _ _ _ hw3).trans rfl
  have q3 := (cell_of_row _ _ 3 _ _ _ hw3).trans rfl
  have r0 := frozen_of_row _ _ 0 _ _ hw3
  have r1 := frozen_of_row _ _ 1 _ _ hw3
  have r2 := frozen_of_row _ _ 2 _ _ hw3
  have r3 := frozen_of_row _ _ 3 _ _ hw3
  clear hw3
  go_wp2_with fail
  have h4 := heap_set4 ((HB3.out.block _ (by simp)).trans HX.out) (.slice none 0 0) (.int .i64 0) (.slice none 0 0) (.map none)
  exact bodyPost_ret (results_log rfl _ _ _ _ _ _ _ _ rfl rfl h4) rfl ⟨rfl, below_set4 (bb hB HB3.out) (by omega) _ _ _ _⟩
/-- A log that may be asked: in the calculation it is the same, with new marks. -/
def AskedPost (l : PL) (a : Addr) (B : Option Addr) (c d : Nat) (w : World) (e : Ending) (w' : World) : Prop :=
  ∃ m : Nat, e = .returned (.tuple #[.agg #[.slice (some a) l.long.length c, .int .i64 l.size, .slice B l.knots.length d, .map (some m)], .int .i64 0]) ∧ Below w.heap.size w w' ∧ w'.heap[m]? = some (.map #[] 0) ∧ w.heap.size ≤ m
theorem asked_yes {w : World} {l : PL} {a : Addr} {B : Option Addr} {c d : Nat} (h : LogAt w l a B c d) (g : Nat) (caps : Array Value) (hr : Right g caps w l a B c d true) :
    Calls Tryd.prog 56 #[.agg #[.slice (some a) l.long.length c, .int .i64 l.size, .slice B l.knots.length d], .func (.func g) #[] caps] w (AskedPost l a B c d w) := by
  obtain ⟨eg, hr⟩ := hr
  have hB := ((Below.refl _ w).alloc (Nat.le_refl _) (.cells #[.slice (some a) l.long.length c, .int .i64 l.size, .slice B l.knots.length d] 25)).alloc (by simp) (.cells #[.slice none 0 0, .int .i64 0, .slice none 0 0, .map none] 75)
  have hbox := heap_alloc2_new w (.cells #[.slice (some a) l.long.length c, .int .i64 l.size, .slice B l.knots.length d] 25) (.cells #[.slice none 0 0, .int .i64 0, .slice none 0 0, .map none] 75)
  have HX := Lib.hid hbox
  have H := Lib.hid (h.raw.below hB)
  have HR := Lib.hid hr
  have HO := Lib.hid h.ok
  clear h hr hbox
  go_enter Tryd.func56, Tryd.ntmps56
  go_wp2_with fail
  refine (check_ok H.out HO.out).mono ?_
  rintro e w' ⟨rfl, hb'⟩
  obtain ⟨hc1, hf1⟩ := bcell hb'
  have hz1 : w.heap.size + 1 + 1 ≤ w'.heap.size := by have := hb'.size; simpa using this
  have HB1 := Lib.hid hb'
  clear hb'
  go_wp2_with fail
  refine (opened_any _ _ _ _ _ _ _ _).mono ?_
  rintro e w2 ⟨m, rfl, hb2, hm2, hms⟩
  obtain ⟨hc2, hf2⟩ := bcell hb2
  have hz2 : w.heap.size + 1 + 1 ≤ w2.heap.size := by have := hb2.size; omega
  have HB2 := Lib.hid (bb HB1.out hb2)
  have HM := Lib.hid hm2
  have hmz := blk_lt' hm2
  clear hb2 hm2
  go_wp2_with fail
  have hb3 := (Below.refl _ w2).alloc (Nat.le_refl _) (.cells #[.slice (some a) l.long.length c, .int .i64 l.size, .slice B l.knots.length d, .map (some m)] 75)
  refine (HR.out _ m (bb (bb hB HB2.out) hb3)).mono ?_
  rintro e w3 ⟨rfl, hb4⟩
  have hz3 : w2.heap.size + 1 ≤ w3.heap.size := by have := hb4.size; simpa using this
  have HB34 := Lib.hid (bb hb3 hb4)
  have HBX := Lib.hid hb4
  have HB3 := Lib.hid (bb (bb HB2.out hb3) hb4)
  clear hb3 hb4
  have b0 := (box_cell (by simpa using HBX.out) 0).trans rfl
  have b1 := (box_cell (by simpa using HBX.out) 1).trans rfl
  have b2 := (box_cell (by simpa using HBX.out) 2).trans rfl
  have b3 := (box_cell (by simpa using HBX.out) 3).trans rfl
  have hw3 := (HB3.out.block _ (by simp)).trans HX.out
  have q0 := (cell_of_row _ _ 0 _ _ _ hw3).trans rfl
  have q1 := (cell_of_row _ _ 1 _ _ _ hw3).trans rfl
  have q2 := (cell_of_row _ _ 2 _ _ _ hw3).trans rfl
  have q3 := (cell_of_row _ _ 3 _ _ _ hw3).trans rfl
  have r0 := frozen_of_row _ _ 0 _ _ hw3
  have r1 := frozen_of_row _ _ 1 _ _ hw3
  have r2 := frozen_of_row _ _ 2 _ _ hw3
  have r3 := frozen_of_row _ _ 3 _ _ hw3
  clear hw3
  go_wp2_with fail
  have h4 := heap_set4 ((HB3.out.block _ (by simp)).trans HX.out) (.slice (some a) l.long.length c) (.int .i64 l.size) (.slice B l.knots.length d) (.map (some m))
  have hM : ((((w3.setCell ⟨w.heap.size + 1, 0, none⟩ (.slice (some a) l.long.length c)).setCell ⟨w.heap.size + 1, 1, none⟩ (.int .i64 l.size)).setCell ⟨w.heap.size + 1, 2, none⟩ (.slice B l.knots.length d)).setCell ⟨w.heap.size + 1, 3, none⟩ (.map (some m))).heap[m]? = some (.map #[] 0) := by
    rw [Below.heap_setCell _ _ _ _ (by simp; omega), Below.heap_setCell _ _ _ _ (by simp; omega), Below.heap_setCell _ _ _ _ (by simp; omega), Below.heap_setCell _ _ _ _ (by simp; omega)]
    exact (HB34.out.block m hmz).trans HM.out
  exact bodyPost_ret (results_log rfl _ _ _ _ _ _ _ _ rfl rfl h4) rfl ⟨m, rfl, below_set4 (bb hB HB3.out) (by omega) _ _ _ _, hM, by omega⟩
end Go.Proofs.YtigofgdmefobaaaDoor.Peel

/- Walks of package peel: Ribbon, Column, IsCut. -/
set_option linter.unusedVariables false
set_option linter.unusedSimpArgs false
namespace Go.Proofs.YtigofgdmefobaaaDoor.Peel
open Go.RowKit
/-- The answers. -/
def ribbonS (l : PL) : Int × Int := if l.Ok then (l.all, 0) else (0, 10)
def columnS (l : PL) (t x : Int) : Int × Int := if l.Ok then (if (0 ≤ t ∧ t ≤ (l.long.length : Int) - 1) ∧ (0 ≤ x ∧ x ≤ 23) then (l.col t.toNat x, 0) else (0, 11)) else (0, 10)
def isCutS (l : PL) (cs : List Int) : Bool × Int := if l.Ok then (l.isCut 0 cs, 0) else (false, 10)

theorem ribbon_any {w : World} {l : PL} {A B : Option Addr} {c d : Nat} (h : RawAt w l A B c d) :
    Calls Tryd.prog 15 #[.agg #[.slice A l.long.length c, .int .i64 l.size, .slice B l.knots.length d]] w fun e w' => e = .returned (.tuple #[.int .i64 (ribbonS l).1, .int .i64 (ribbonS l).2]) ∧ Below w.heap.size w w' := by
  by_cases ok : l.Ok
  · obtain ⟨a, rfl, hl⟩ := h.at ok
    have hB := (Below.refl _ w).alloc (Nat.le_refl _) (.cells #[.slice (some a) l.long.length c, .int .i64 l.size, .slice B l.knots.length d] 25)
    have H := Lib.hid (hl.below hB)
    have HO := Lib.hid (show ribbonS l = (l.all, 0) from if_pos ok)
    clear h hl
    rw [HO.out]
    go_enter Tryd.func15, Tryd.ntmps15
    go_wp2_with fail
    refine (asked_yes H.out _ _ (anything_right _ l a B c d)).mono ?_
    rintro e w1 ⟨m, rfl, hb1, _, _⟩
    have hb2 := (Below.refl _ w1).alloc (Nat.le_refl _) (.cells #[.slice (some a) l.long.length c, .int .i64 l.size, .slice B l.knots.length d, .map (some m)] 75)
    have HL := Lib.hid ((H.out.below hb1).below hb2)
    have HB := Lib.hid (bb (bb hB hb1) hb2)
    clear hb1 hb2
    go_wp2_with fail
    refine (columns_any m HL.out).mono ?_
    rintro e w2 ⟨rfl, hb3⟩
    have HB3 := Lib.hid hb3
    clear hb3
    go_wp2_with fail
    go_ret2
    exact ⟨rfl, bb HB.out HB3.out⟩
  · have hB := (Below.refl _ w).alloc (Nat.le_refl _) (.cells #[.slice A l.long.length c, .int .i64 l.size, .slice B l.knots.length d] 25)
    have H := Lib.hid (h.below hB)
    have HO := Lib.hid (show ribbonS l = (0, 10) from if_neg ok)
    clear h
    rw [HO.out]
    go_enter Tryd.func15, Tryd.ntmps15
    go_wp2_with fail
    refine (asked_bad H.out _ _ ok).mono ?_
    rintro e w1 ⟨rfl, hb1⟩
    have HB := Lib.hid (bb hB hb1)
    clear hb1
    unfold zeroLog
    go_wp2_with fail
    go_ret2
    exact ⟨rfl, (HB.out.alloc HB.out.size _)⟩

theorem isCutApi_any {w : World} {l : PL} {A B : Option Addr} {c d : Nat} (h : RawAt w l A B c d) {cs : List Int} {C : Option Addr} {n : Nat} (hC : CutAt w cs C n) :
    Calls Tryd.prog 24 #[.agg #[.slice A l.long.length c, .int .i64 l.size, .slice B l.knots.length d], .slice C cs.length n] w fun e w' => e = .returned (.tuple #[.bool (isCutS l cs).1, .int .i64 (isCutS l cs).2]) ∧ Below w.heap.size w w' := by
  by_cases ok : l.Ok
  · obtain ⟨a, rfl, hl⟩ := h.at ok
    have hB := (Below.refl _ w).alloc (Nat.le_refl _) (.cells #[.slice (some a) l.long.length c, .int .i64 l.size, .slice B l.knots.length d] 25)
    have H := Lib.hid (hl.below hB)
    have HC := Lib.hid (hC.below hB)
    have HO := Lib.hid (show isCutS l cs = (l.isCut 0 cs, 0) from if_pos ok)
    clear h hl hC
    rw [HO.out]
    go_enter Tryd.func24, Tryd.ntmps24
    go_wp2_with fail
    refine (asked_yes H.out _ _ (anything_right _ l a B c d)).mono ?_
    rintro e w1 ⟨m, rfl, hb1, _, _⟩
    have hb2 := (Below.refl _ w1).alloc (Nat.le_refl _) (.cells #[.slice (some a) l.long.length c, .int .i64 l.size, .slice B l.knots.length d, .map (some m)] 75)
    have HL := Lib.hid ((H.out.below hb1).below hb2)
    have HC2 := Lib.hid ((HC.out.below hb1).below hb2)
    have HB := Lib.hid (bb (bb hB hb1) hb2)
    clear hb1 hb2
    go_wp2_with fail
    refine (isCut_any m HL.out HC2.out).mono ?_
    rintro e w2 ⟨rfl, hb3⟩
    have HB3 := Lib.hid hb3
    clear hb3
    go_wp2_with fail
    go_ret2
    exact ⟨rfl, bb HB.out HB3.out⟩
  · have hB := (Below.refl _ w).alloc (Nat.le_refl _) (.cells #[.slice A l.long.length c, .int .i64 l.size, .slice B l.knots.length d] 25)
    have H := Lib.hid (h.below hB)
    have HO := Lib.hid (show isCutS l cs = (false, 10) from if_neg ok)
    clear h
    rw [HO.out]
    go_enter Tryd.func24, Tryd.ntmps24
    go_wp2_with fail
    refine (asked_bad H.out _ _ ok).mono ?_
    rintro e w1 ⟨rfl, hb1⟩
    have HB := Lib.hid (bb hB hb1)
    clear hb1
    unfold zeroLog
    go_wp2_with fail
    go_ret2
    exact ⟨rfl, (HB.out.alloc HB.out.size _)⟩
theorem columnApi_any {w : World} {l : PL} {A B : Option Addr} {c d : Nat} (h : RawAt w l A B c d) (t x : Int) :
    Calls Tryd.prog 19 #[.agg #[.slice A l.long.length c, .int .i64 l.size, .slice B l.knots.length d], .int .i64 t, .int .i64 x] w fun e w' => e = .returned (.tuple #[.int .i64 (columnS l t x).1, .int .i64 (columnS l t x).2]) ∧ Below w.heap.size w w' := by
  by_cases ok : l.Ok
  · obtain ⟨a, rfl, hl⟩ := h.at ok
    have hB := (((Below.refl _ w).alloc (Nat.le_refl _) (.cells #[.slice (some a) l.long.length c, .int .i64 l.size, .slice B l.knots.length d] 25)).alloc (by simp) (.cells #[.int .i64 t] 3)).alloc (by simp; omega) (.cells #[.int .i64 x] 3)
    have H := Lib.hid (hl.below hB)
    have hg : (((w.alloc (.cells #[.slice (some a) l.long.length c, .int .i64 l.size, .slice B l.knots.length d] 25)).alloc (.cells #[.int .i64 t] 3)).alloc (.cells #[.int .i64 x] 3)).heap[w.heap.size + 1]? = some (.cells #[.int .i64 t] 3 (0, 0)) := (by simp only [heap_alloc_if, World.size_alloc, heap_drew, if_true]; repeat (first | rw [if_neg (by omega)] | rw [if_pos (by omega)]))
    have hk : (((w.alloc (.cells #[.slice (some a) l.long.length c, .int .i64 l.size, .slice B l.knots.length d] 25)).alloc (.cells #[.int .i64 t] 3)).alloc (.cells #[.int .i64 x] 3)).heap[w.heap.size + 1 + 1]? = some (.cells #[.int .i64 x] 3 (0, 0)) := (by simp only [heap_alloc_if, World.size_alloc, heap_drew, if_true]; repeat (first | rw [if_neg (by omega)] | rw [if_pos (by omega)]))
    have HR := Lib.hid (column_right H.out t x (w.heap.size + 1) (w.heap.size + 1 + 1) ((cell_of_row _ _ 0 _ _ _ hg).trans rfl) ((cell_of_row _ _ 0 _ _ _ hk).trans rfl))
    have HG := Lib.hid hg
    have HK := Lib.hid hk
    clear h hl hg hk
    by_cases hin : (0 ≤ t ∧ t ≤ (l.long.length : Int) - 1) ∧ (0 ≤ x ∧ x ≤ 23)
    · have HO := Lib.hid (show columnS l t x = (l.col t.toNat x, 0) by unfold columnS; rw [if_pos ok, if_pos hin])
      rw [HO.out]
      rw [decide_eq_true hin] at HR
      go_enter Tryd.func19, Tryd.ntmps19
      go_wp2_with fail
      refine (asked_yes H.out _ _ HR.out).mono ?_
      rintro e w1 ⟨m, rfl, hb1, _, _⟩
      have q1 : w1.cell? ⟨w.heap.size + 1, 0, none⟩ = some (.int .i64 t) := cell_below hb1 ((cell_of_row _ _ 0 _ _ _ HG.out).trans rfl)
      have q2 : w1.cell? ⟨w.heap.size + 1 + 1, 0, none⟩ = some (.int .i64 x) := cell_below hb1 ((cell_of_row _ _ 0 _ _ _ HK.out).trans rfl)
      have hz : w.heap.size + 1 + 1 + 1 ≤ w1.heap.size := by have := hb1.size; simpa using this
      have hz1 : w.heap.size + 1 < w1.heap.size := by omega
      have hz2 : w.heap.size + 1 + 1 < w1.heap.size := by omega
      have hb2 := (Below.refl _ w1).alloc (Nat.le_refl _) (.cells #[.slice (some a) l.long.length c, .int .i64 l.size, .slice B l.knots.length d, .map (some m)] 75)
      have HL := Lib.hid ((H.out.below hb1).below hb2)
      have HB := Lib.hid (bb (bb hB hb1) hb2)
      clear hb1 hb2
      go_wp2_with fail
      refine (column_any m HL.out t x hin.1.1 (by omega) hin.2.1 hin.2.2).mono ?_
      rintro e w2 ⟨rfl, hb3⟩
      have HB3 := Lib.hid hb3
      clear hb3
      go_wp2_with fail
      go_ret2
      exact ⟨rfl, bb HB.out HB3.out⟩
    · have HO := Lib.hid (show columnS l t x = (0, 11) by unfold columnS; rw [if_pos ok, if_neg hin])
      rw [HO.out]
      rw [decide_eq_false hin] at HR
      go_enter Tryd.func19, Tryd.ntmps19
      go_wp2_with fail
      refine (asked_no H.out _ _ HR.out).mono ?_
      rintro e w1 ⟨rfl, hb1⟩
      have HB := Lib.hid (bb hB hb1)
      clear hb1
      unfold zeroLog
      go_wp2_with fail
      go_ret2
      exact ⟨rfl, (HB.out.alloc HB.out.size _)⟩
  · have hB := (((Below.refl _ w).alloc (Nat.le_refl _) (.cells #[.slice A l.long.length c, .int .i64 l.size, .slice B l.knots.length d] 25)).alloc (by simp) (.cells #[.int .i64 t] 3)).alloc (by simp; omega) (.cells #[.int .i64 x] 3)
    have H := Lib.hid (h.below hB)
    have HO := Lib.hid (show columnS l t x = (0, 10) from if_neg ok)
    clear h
    rw [HO.out]
    go_enter Tryd.func19, Tryd.ntmps19
    go_wp2_with fail
    refine (asked_bad H.out _ _ ok).mono ?_
    rintro e w1 ⟨rfl, hb1⟩
    have HB := Lib.hid (bb hB hb1)
    clear hb1
    unfold zeroLog
    go_wp2_with fail
    go_ret2
    exact ⟨rfl, (HB.out.alloc HB.out.size _)⟩
end Go.Proofs.YtigofgdmefobaaaDoor.Peel

/- Walks of package peel: the ends of where a knot can be. -/
set_option linter.unusedVariables false
set_option linter.unusedSimpArgs false
namespace Go.Proofs.YtigofgdmefobaaaDoor.Peel
open Go.RowKit
theorem two_alloc_cell {w : World} {p : Addr} {v : Value} (A B : Obj) (h : w.cell? p = some v) : ((w.alloc A).alloc B).drew.cell? p = some v :=
  cell_below ((((Below.refl _ w).alloc (Nat.le_refl _) A).alloc (by simp) B).drew) h
set_option maxHeartbeats 1000000 in
theorem first_any {w : World} {l : PL} {a : Addr} {B : Option Addr} {c d : Nat} (m : Nat) (h : LogAt w l a B c d) (k : Nat) (x : Kn) (hk : l.knots[k]? = some x) :
    Calls Tryd.prog 113 #[.agg #[.slice (some a) l.long.length c, .int .i64 l.size, .slice B l.knots.length d, .map (some m)], .int .i64 k] w fun e w' => e = .returned (.agg #[.int .i64 x.a.lo, .int .i64 x.f.lo]) ∧ Below w.heap.size w w' := by
  have hlt : k < l.knots.length := (List.getElem?_eq_some_iff.1 hk).1
  have hn := h.ok.knots3
  have hd := h.d
  have hB := ((Below.refl _ w).alloc (Nat.le_refl _) (.cells #[.slice (some a) l.long.length c, .int .i64 l.size, .slice B l.knots.length d, .map (some m)] 75)).alloc (by simp) (.cells #[.int .i64 0, .int .i64 0] 102)
  obtain ⟨b, rfl, k0w, k1w, k2w, k3w⟩ := h.knots k x hk
  have k0 := cell_below hB k0w
  have k2 := cell_below hB k2w
  have l0 : (b.add (k * 4)).block < w.heap.size := World.block_lt_of_cell? w _ k0w
  have e0 : ∀ A B : Obj, ((w.alloc A).alloc B).cell? (b.add (k * 4)) = some (.int .i64 x.a.lo) := fun A B => two_alloc_cell A B k0w
  have e2 : ∀ A B : Obj, ((w.alloc A).alloc B).cell? ⟨(b.add (k * 4)).block, (b.add (k * 4)).off + 2, none⟩ = some (.int .i64 x.f.lo) := fun A B => two_alloc_cell A B k2w
  clear k0 k2 k0w k1w k2w k3w
  clear h hk
  have hk0 : (0 : Int) ≤ (k : Int) := Int.natCast_nonneg _
  have hk1 : (k : Int) < (l.knots.length : Int) := by omega
  go_enter Tryd.func113, Tryd.ntmps113
  go_wp2_with fail
  go_region_held3 (fun w' => w'.cell? ⟨w.heap.size, 0, none⟩ = some (.slice (some a) l.long.length c) ∧ w'.cell? ⟨w.heap.size, 1, none⟩ = some (.int .i64 l.size) ∧ w'.cell? ⟨w.heap.size, 2, none⟩ = some (.slice (some b) l.knots.length d) ∧ w'.cell? ⟨w.heap.size, 3, none⟩ = some (.map (some m)) ∧ w'.cell? (b.add (k * 4)) = some (.int .i64 x.a.lo) ∧ w'.cell? ⟨(b.add (k * 4)).block, (b.add (k * 4)).off + 2, none⟩ = some (.int .i64 x.f.lo))
    (go_keep) (fail)
  go_wp2_with fail
  exact bodyPost_ret (v := .agg #[.int .i64 x.a.lo, .int .i64 x.f.lo]) (by simp [results, Tryd.results113, go_sem]) rfl ⟨rfl, (((Below.refl _ w).alloc (Nat.le_refl _) _).alloc (by simp) _).drew⟩
set_option maxHeartbeats 1000000 in
theorem last_any {w : World} {l : PL} {a : Addr} {B : Option Addr} {c d : Nat} (m : Nat) (h : LogAt w l a B c d) (k : Nat) (x : Kn) (hk : l.knots[k]? = some x) :
    Calls Tryd.prog 114 #[.agg #[.slice (some a) l.long.length c, .int .i64 l.size, .slice B l.knots.length d, .map (some m)], .int .i64 k] w fun e w' => e = .returned (.agg #[.int .i64 x.a.hi, .int .i64 x.f.hi]) ∧ Below w.heap.size w w' := by
  have hlt : k < l.knots.length := (List.getElem?_eq_some_iff.1 hk).1
  have hn := h.ok.knots3
  have hd := h.d
  have hB := ((Below.refl _ w).alloc (Nat.le_refl _) (.cells #[.slice (some a) l.long.length c, .int .i64 l.size, .slice B l.knots.length d, .map (some m)] 75)).alloc (by simp) (.cells #[.int .i64 0, .int .i64 0] 102)
  obtain ⟨b, rfl, k0w, k1w, k2w, k3w⟩ := h.knots k x hk
  have k0 := cell_below hB k1w
  have k2 := cell_below hB k2w
  have l0 : (b.add (k * 4)).block < w.heap.size := World.block_lt_of_cell? w _ k0w
  have e0 : ∀ A B : Obj, ((w.alloc A).alloc B).cell? ⟨(b.add (k * 4)).block, (b.add (k * 4)).off + 1, none⟩ = some (.int .i64 x.a.hi) := fun A B => two_alloc_cell A B k1w
  have e2 : ∀ A B : Obj, ((w.alloc A).alloc B).cell? ⟨(b.add (k * 4)).block, (b.add (k * 4)).off + 3, none⟩ = some (.int .i64 x.f.hi) := fun A B => two_alloc_cell A B k3w
  clear k0 k2 k0w k1w k2w k3w
  clear h hk
  have hk0 : (0 : Int) ≤ (k : Int) := Int.natCast_nonneg _
  have hk1 : (k : Int) < (l.knots.length : Int) := by omega
  go_enter Tryd.func114, Tryd.ntmps114
  go_wp2_with fail
  go_region_held3 (fun w' => w'.cell? ⟨w.heap.size, 0, none⟩ = some (.slice (some a) l.long.length c) ∧ w'.cell? ⟨w.heap.size, 1, none⟩ = some (.int .i64 l.size) ∧ w'.cell? ⟨w.heap.size, 2, none⟩ = some (.slice (some b) l.knots.length d) ∧ w'.cell? ⟨w.heap.size, 3, none⟩ = some (.map (some m)) ∧ w'.cell? ⟨(b.add (k * 4)).block, (b.add (k * 4)).off + 1, none⟩ = some (.int .i64 x.a.hi) ∧ w'.cell? ⟨(b.add (k * 4)).block, (b.add (k * 4)).off + 3, none⟩ = some (.int .i64 x.f.hi))
    (go_keep) (fail)
  go_wp2_with fail
  exact bodyPost_ret (v := .agg #[.int .i64 x.a.hi, .int .i64 x.f.hi]) (by simp [results, Tryd.results114, go_sem]) rfl ⟨rfl, (((Below.refl _ w).alloc (Nat.le_refl _) _).alloc (by simp) _).drew⟩
end Go.Proofs.YtigofgdmefobaaaDoor.Peel
