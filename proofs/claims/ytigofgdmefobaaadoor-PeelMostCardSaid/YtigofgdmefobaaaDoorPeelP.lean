/- Walks of package peel: the best cutting, if some columns have a knot. -/
import Derived.Test.YtigofgdmefobaaaDoorPeelO
import Derived.Laws.AppendOwn
import Derived.Scope
set_option linter.unusedVariables false
set_option linter.unusedSimpArgs false
namespace Go.Proofs.YtigofgdmefobaaaDoor.Peel
open Go.RowKit

/-- Each piece as soon as it can be. -/
def PL.cutF (l : PL) (r : Nat → Bool) : Nat → Nat → List Int
  | 0, _ => []
  | f + 1, c => if (c : Int) + l.size ≤ l.all then
      match (List.range l.size.toNat).find? (fun k => r (c + k)) with
      | some k => l.cutF r f (c + k + 1)
      | none => (c : Int) :: l.cutF r f (c + l.size.toNat)
    else []
def PL.cut (l : PL) (r : Nat → Bool) : List Int := l.cutF r 73 0
theorem cutF_fuel (l : PL) (h1 : 1 ≤ l.size) (ha : l.all ≤ 72) (r : Nat → Bool) : ∀ (f g c : Nat), 73 ≤ f + c → 73 ≤ g + c → l.cutF r f c = l.cutF r g c := by
  intro f
  induction f with
  | zero =>
    intro g c hf hg
    cases g with
    | zero => rfl
    | succ g =>
      have : ¬ ((c : Int) + l.size ≤ l.all) := by omega
      simp [PL.cutF, this]
  | succ f ih =>
    intro g c hf hg
    cases g with
    | zero =>
      have : ¬ ((c : Int) + l.size ≤ l.all) := by omega
      simp [PL.cutF, this]
    | succ g =>
      unfold PL.cutF
      by_cases hc : (c : Int) + l.size ≤ l.all
      · rw [if_pos hc, if_pos hc]
        cases hfind : (List.range l.size.toNat).find? (fun k => r (c + k)) with
        | none => simp only [ih g (c + l.size.toNat) (by omega) (by omega)]
        | some k => simp only [ih g (c + k + 1) (by omega) (by omega)]
      · rw [if_neg hc, if_neg hc]
theorem cutF_stop (l : PL) (r : Nat → Bool) (c : Nat) (f : Nat) (h : ¬ ((c : Int) + l.size ≤ l.all)) : l.cutF r f c = [] := by
  cases f with
  | zero => rfl
  | succ f => simp [PL.cutF, h]
theorem cutF_knot (l : PL) (h1 : 1 ≤ l.size) (ha : l.all ≤ 72) (r : Nat → Bool) (c k : Nat) (h : (c : Int) + l.size ≤ l.all) (hk : (k : Int) < l.size) (hfree : ∀ j, j < k → r (c + j) = false) (hr : r (c + k) = true) :
    l.cutF r (73 - c) c = l.cutF r (73 - (c + k + 1)) (c + k + 1) := by
  have hf : (List.range l.size.toNat).find? (fun k => r (c + k)) = some k := by
    rw [List.find?_eq_some_iff_append]
    refine ⟨hr, List.range k, (List.range' (k + 1) (l.size.toNat - k - 1)), ?_, ?_⟩
    · rw [List.range_eq_range', List.range_eq_range', show l.size.toNat = k + (1 + (l.size.toNat - k - 1)) by omega, ← List.range'_append_1]
      congr 1
      rw [← List.range'_append_1]
      simp
    · intro j hj
      simp [hfree j (by simpa using hj)]
  rw [show 73 - c = (72 - c) + 1 by omega]
  conv => lhs; unfold PL.cutF
  rw [if_pos h, hf]
  exact cutF_fuel l h1 ha r _ _ _ (by omega) (by omega)
theorem cutF_free (l : PL) (h1 : 1 ≤ l.size) (ha : l.all ≤ 72) (r : Nat → Bool) (c : Nat) (h : (c : Int) + l.size ≤ l.all) (hfree : ∀ j : Nat, (j : Int) < l.size → r (c + j) = false) :
    l.cutF r (73 - c) c = (c : Int) :: l.cutF r (73 - (c + l.size.toNat)) (c + l.size.toNat) := by
  have hf : (List.range l.size.toNat).find? (fun k => r (c + k)) = none := by
    rw [List.find?_eq_none]
    intro j hj
    simp at hj
    simp [hfree j (by omega)]
  rw [show 73 - c = (72 - c) + 1 by omega]
  conv => lhs; unfold PL.cutF
  rw [if_pos h, hf]
  simp only
  rw [cutF_fuel l h1 ha r _ (73 - (c + l.size.toNat)) _ (by omega) (by omega)]

theorem rv_rl (r : Nat → Bool) : (rl r).toArray = rv r := by unfold rv; rfl
theorem rangeAt_below {w w1 : World} {b o : Nat} {cs : List Value} (hb : Below w.heap.size w w1) (h : w.rangeAt b o cs) : w1.rangeAt b o cs := fun j v hv => cell_below hb (h j v hv)
theorem rangeAt_rib {w : World} {g : Nat} {r : Nat → Bool} (h : w.heap[g]? = some (.cells (rv r) 86 (0, 0))) : w.rangeAt g 0 (rl r) := fun j v hv => by
  rw [Nat.zero_add]
  refine cell_row' h ?_
  rw [← rv_rl]
  simpa using hv
theorem cutAt_of_owns {w : World} {base : Nat} {ao : Option Addr} {cv : Nat} {cs : List Int} (h : w.ownsRow base 3 1 (.slice ao cs.length cv) cs.length (cs.map (Value.int .i64))) (hl : cs.length ≤ 100) : CutAt w cs ao cv := by
  refine ⟨fun k hk => ?_, ?_, by omega⟩
  · rcases h.2 with ⟨h1, h2⟩ | ⟨g, cap, cur, h1, _⟩
    · omega
    · injection h1 with e1 e2 e3
      subst e1
      refine ⟨_, rfl, ?_⟩
      refine h.cells (g := g) rfl k _ ?_
      simp [List.getD_eq_getElem?_getD, List.getElem?_eq_getElem hk]
  · rcases h.2 with ⟨h1, h2⟩ | ⟨g, cap, cur, h1, _, _, h4, _⟩
    · injection h1 with e1 e2 e3
      omega
    · injection h1 with e1 e2 e3
      omega
theorem grown_of_below {w w1 : World} (h : Below w.heap.size w w1) : w.grownBy w1 none := ⟨h.os, h.tape, h.output, h.size, fun k hk _ => h.block k hk⟩
theorem owns_below {w w1 : World} {base : Nat} {e : TypeId} {size n : Nat} {v : Value} {xs : List Value} (hb : Below w.heap.size w w1) (h : w.ownsRow base e size v n xs) : w1.ownsRow base e size v n xs :=
  h.kept (grown_of_below hb) (by cases v.ownBlock <;> simp)
theorem cell_one_here (w : World) (v : Value) (t : TypeId) : ∀ j u, [v][j]? = some u → (w.alloc (.cells #[v] t)).cell? ((⟨w.heap.size, 0, none⟩ : Addr).add j) = some u := by
  intro j u h
  cases j with
  | zero =>
    simp at h
    subst h
    rw [add_zero]
    exact cell_new' rfl rfl
  | succ j => simp at h
/-- An operation is taken first: its number, its temporary and its value are told. -/
theorem held_take {md : Region.Mode} {ops : Array Oper} {Q : Exit → Act → World → Prop} {S : World → Prop} {fuel : Nat} {listed : Array Bool} {tm : Array Value} {ds : List Deferred} {w : World} (i d : Nat) (v : Value) {oi : Oper} (hi : ops[i]? = some oi) (hd : oi.dst = some d)
    (hs : Region.noSelect ops = true) (hf : Region.free md ops listed i = true) (hr : (Region.ready md ops listed).contains i = true)
    (hQ : ∀ c a w, Q (.panic c) (a.put oi.dst v) w → Q (.panic c) a w) (hy : YieldsIf Tryd.prog ops S oi v { tmps := tm, defers := ds }) (hS : S w)
    (h : wpAnyH Tryd.prog md ops Q S fuel (listed.setIfInBounds i true) { tmps := tm.setIfInBounds d v, defers := ds } w) : wpAnyH Tryd.prog md ops Q S (fuel + 1) listed { tmps := tm, defers := ds } w := by
  refine wpAnyH_take hi hs hf hr hQ hy hS ?_
  rw [hd]
  exact h
theorem infoInt : (Tryd.prog.info? 3).map (fun i => (i.zero, i.size, i.bytes)) = some (some (.int .i64 0), 1, 8) := by kernel_rfl
set_option maxRecDepth 8000 in
set_option maxHeartbeats 4000000 in
theorem cut_any {w : World} {l : PL} {a : Addr} {B : Option Addr} {c d : Nat} (m : Nat) (h : LogAt w l a B c d) (r : Nat → Bool) :
    Calls Tryd.prog 79 #[.agg #[.slice (some a) l.long.length c, .int .i64 l.size, .slice B l.knots.length d, .map (some m)], .agg (rv r)] w fun e w' => ∃ ao cv, e = .returned (.slice ao (l.cut r).length cv) ∧ Below w.heap.size w w' ∧ CutAt w' (l.cut r) ao cv ∧ (ao = none → l.cut r = []) := by
  have h1 := h.ok.size1
  have h6 := h.ok.size6
  have ha := all_bd h.ok
  obtain ⟨i0, hi, hz0, hz1, hz2⟩ := info_parts infoInt
  have hundI := Tryd.underlying22
  have hB := ((Below.refl _ w).alloc (Nat.le_refl _) (.cells #[.slice (some a) l.long.length c, .int .i64 l.size, .slice B l.knots.length d, .map (some m)] 75)).alloc (by simp) (.cells (rv r) 86)
  have H := Lib.hid (h.below hB)
  have HB := Lib.hid hB
  clear h hB
  go_enter Tryd.func79, Tryd.ntmps79
  go_wp2_with (first | ((with_reducible refine gate_box 86 rfl ?_); refine ev_box_rib rfl _ rfl r rfl ?_))
  refine wp_scope_straight ?_
  go_upto_region 2 with (fail)
  have q0 : ((w.alloc (.cells #[.slice (some a) l.long.length c, .int .i64 l.size, .slice B l.knots.length d, .map (some m)] 75)).alloc (.cells (rv r) 86)).cell? ⟨w.heap.size, 0, none⟩ = some (.slice (some a) l.long.length c) := cell_row' (i := 0) (by (repeat (first | with_reducible assumption | with_reducible exact row_new | with_reducible refine row_drew ?_ | with_reducible apply row_same | with_reducible refine row_diff ?_ (by first | omega | (simp only [World.size_alloc, size_setRow, size_drew', World.size_setCell]; omega)) | with_reducible refine row_far ?_ (by (try dsimp only); first | omega | (simp only [World.size_alloc, size_setRow, size_drew', World.size_setCell]; omega)) | with_reducible refine row_new' (by first | (simp only [World.size_alloc, size_setRow, size_drew', World.size_setCell]; done) | omega | (simp only [World.size_alloc, size_setRow, size_drew', World.size_setCell]; omega)) | with_reducible refine row_old ?_ | with_reducible refine row_below (by assumption) ?_ (by first | omega | (simp only [World.size_alloc, size_setRow, size_drew', World.size_setCell]; omega))))) rfl
  have q1 : ((w.alloc (.cells #[.slice (some a) l.long.length c, .int .i64 l.size, .slice B l.knots.length d, .map (some m)] 75)).alloc (.cells (rv r) 86)).cell? ⟨w.heap.size, 1, none⟩ = some (.int .i64 l.size) := cell_row' (i := 1) (by (repeat (first | with_reducible assumption | with_reducible exact row_new | with_reducible refine row_drew ?_ | with_reducible apply row_same | with_reducible refine row_diff ?_ (by first | omega | (simp only [World.size_alloc, size_setRow, size_drew', World.size_setCell]; omega)) | with_reducible refine row_far ?_ (by (try dsimp only); first | omega | (simp only [World.size_alloc, size_setRow, size_drew', World.size_setCell]; omega)) | with_reducible refine row_new' (by first | (simp only [World.size_alloc, size_setRow, size_drew', World.size_setCell]; done) | omega | (simp only [World.size_alloc, size_setRow, size_drew', World.size_setCell]; omega)) | with_reducible refine row_old ?_ | with_reducible refine row_below (by assumption) ?_ (by first | omega | (simp only [World.size_alloc, size_setRow, size_drew', World.size_setCell]; omega))))) rfl
  have q2 : ((w.alloc (.cells #[.slice (some a) l.long.length c, .int .i64 l.size, .slice B l.knots.length d, .map (some m)] 75)).alloc (.cells (rv r) 86)).cell? ⟨w.heap.size, 2, none⟩ = some (.slice B l.knots.length d) := cell_row' (i := 2) (by (repeat (first | with_reducible assumption | with_reducible exact row_new | with_reducible refine row_drew ?_ | with_reducible apply row_same | with_reducible refine row_diff ?_ (by first | omega | (simp only [World.size_alloc, size_setRow, size_drew', World.size_setCell]; omega)) | with_reducible refine row_far ?_ (by (try dsimp only); first | omega | (simp only [World.size_alloc, size_setRow, size_drew', World.size_setCell]; omega)) | with_reducible refine row_new' (by first | (simp only [World.size_alloc, size_setRow, size_drew', World.size_setCell]; done) | omega | (simp only [World.size_alloc, size_setRow, size_drew', World.size_setCell]; omega)) | with_reducible refine row_old ?_ | with_reducible refine row_below (by assumption) ?_ (by first | omega | (simp only [World.size_alloc, size_setRow, size_drew', World.size_setCell]; omega))))) rfl
  have q3 : ((w.alloc (.cells #[.slice (some a) l.long.length c, .int .i64 l.size, .slice B l.knots.length d, .map (some m)] 75)).alloc (.cells (rv r) 86)).cell? ⟨w.heap.size, 3, none⟩ = some (.map (some m)) := cell_row' (i := 3) (by (repeat (first | with_reducible assumption | with_reducible exact row_new | with_reducible refine row_drew ?_ | with_reducible apply row_same | with_reducible refine row_diff ?_ (by first | omega | (simp only [World.size_alloc, size_setRow, size_drew', World.size_setCell]; omega)) | with_reducible refine row_far ?_ (by (try dsimp only); first | omega | (simp only [World.size_alloc, size_setRow, size_drew', World.size_setCell]; omega)) | with_reducible refine row_new' (by first | (simp only [World.size_alloc, size_setRow, size_drew', World.size_setCell]; done) | omega | (simp only [World.size_alloc, size_setRow, size_drew', World.size_setCell]; omega)) | with_reducible refine row_old ?_ | with_reducible refine row_below (by assumption) ?_ (by first | omega | (simp only [World.size_alloc, size_setRow, size_drew', World.size_setCell]; omega))))) rfl
  have rr : ((w.alloc (.cells #[.slice (some a) l.long.length c, .int .i64 l.size, .slice B l.knots.length d, .map (some m)] 75)).alloc (.cells (rv r) 86)).heap[w.heap.size + 1]? = some (.cells (rv r) 86 (0, 0)) := by (repeat (first | with_reducible assumption | with_reducible exact row_new | with_reducible refine row_drew ?_ | with_reducible apply row_same | with_reducible refine row_diff ?_ (by first | omega | (simp only [World.size_alloc, size_setRow, size_drew', World.size_setCell]; omega)) | with_reducible refine row_far ?_ (by (try dsimp only); first | omega | (simp only [World.size_alloc, size_setRow, size_drew', World.size_setCell]; omega)) | with_reducible refine row_new' (by first | (simp only [World.size_alloc, size_setRow, size_drew', World.size_setCell]; done) | omega | (simp only [World.size_alloc, size_setRow, size_drew', World.size_setCell]; omega)) | with_reducible refine row_old ?_ | with_reducible refine row_below (by assumption) ?_ (by first | omega | (simp only [World.size_alloc, size_setRow, size_drew', World.size_setCell]; omega))))
  have r0 : ((w.alloc (.cells #[.slice (some a) l.long.length c, .int .i64 l.size, .slice B l.knots.length d, .map (some m)] 75)).alloc (.cells (rv r) 86)).heap[w.heap.size]? = some (.cells #[.slice (some a) l.long.length c, .int .i64 l.size, .slice B l.knots.length d, .map (some m)] 75 (0, 0)) := by (repeat (first | with_reducible assumption | with_reducible exact row_new | with_reducible refine row_drew ?_ | with_reducible apply row_same | with_reducible refine row_diff ?_ (by first | omega | (simp only [World.size_alloc, size_setRow, size_drew', World.size_setCell]; omega)) | with_reducible refine row_far ?_ (by (try dsimp only); first | omega | (simp only [World.size_alloc, size_setRow, size_drew', World.size_setCell]; omega)) | with_reducible refine row_new' (by first | (simp only [World.size_alloc, size_setRow, size_drew', World.size_setCell]; done) | omega | (simp only [World.size_alloc, size_setRow, size_drew', World.size_setCell]; omega)) | with_reducible refine row_old ?_ | with_reducible refine row_below (by assumption) ?_ (by first | omega | (simp only [World.size_alloc, size_setRow, size_drew', World.size_setCell]; omega))))
  have z2 : ((w.alloc (.cells #[.slice (some a) l.long.length c, .int .i64 l.size, .slice B l.knots.length d, .map (some m)] 75)).alloc (.cells (rv r) 86)).heap.size = w.heap.size + 2 := by simp
  generalize ((w.alloc (.cells #[.slice (some a) l.long.length c, .int .i64 l.size, .slice B l.knots.length d, .map (some m)] 75)).alloc (.cells (rv r) 86)) = W2 at *
  have R0 := Lib.hid r0
  have RR := Lib.hid rr
  have hw1 : IntKind.i64.wrap (l.all - l.size) = l.all - l.size := IntWalk.i64_in _ (by omega)
  clear r0 rr
  go_region_held3 (fun w' => w'.cell? ⟨w.heap.size, 0, none⟩ = some (.slice (some a) l.long.length c) ∧ w'.cell? ⟨w.heap.size, 1, none⟩ = some (.int .i64 l.size) ∧ w'.cell? ⟨w.heap.size, 2, none⟩ = some (.slice B l.knots.length d) ∧ w'.cell? ⟨w.heap.size, 3, none⟩ = some (.map (some m)))
    (first | go_keep | (go_split_ands; refine ⟨?_, ?_, ?_, ?_⟩ <;> exact cell_below hb' (by assumption)))
    ((go_at_call 58; refine (columns_any m (H.out.below (by exact (Below.refl _ _).drew))).mono ?_; rintro e w3 ⟨rfl, hb'⟩))
  have hb3 : Below W2.heap.size W2 w3 := (Below.refl _ W2).drew.trans hb'
  have z3 : w.heap.size + 2 ≤ w3.heap.size := by have := hb3.size; omega
  have R3 := Lib.hid (row_below hb3 R0.out (by omega))
  have RR3 := Lib.hid (row_below hb3 RR.out (by omega))
  have HB3 := Lib.hid (bb HB.out hb3)
  have hsame : ∀ i, i < 72 → same72 r none72 = true → r i = false := fun i hi h => by rw [(same72_iff r none72).1 h i hi]; rfl
  have HS := Lib.hid hsame
  clear hb3 q0 q1 q2 q3 R0 RR HB hsame z2 hw1
  have HC0 := Lib.hid (show [] ++ l.cutF r (73 - 0) 0 = l.cut r from rfl)
  go_wp2_with fail
  refine wp_label ?_
  go_wp2_with fail
  go_loopw [5, 7] (fun v p wr => ∃ (c : Nat) (pre : List Int) (ao : Option Addr) (cv : Nat), p = .int .i64 c ∧ c ≤ 72 ∧ pre.length ≤ c ∧ v = .slice ao pre.length cv ∧ wr.ownsRow (w.heap.size + 2) 3 1 v pre.length (pre.map (Value.int .i64)) ∧ Below (w.heap.size + 2) w3 wr ∧ pre ++ l.cutF r (73 - c) c = l.cut r)
    (fun _ p _ => 72 - (intOf p).toNat)
  case atStart => exact ⟨0, [], none, 0, rfl, by omega, by simp, rfl, World.ownsRow_nil _ _ _ _, Below.refl _ _, HC0.out⟩
  case round =>
    obtain ⟨x, pre, ao, cv, rfl, hx, hpre, rfl, hown, hbr, hcut⟩ := hrel
    have HO := Lib.hid hown
    have HBR := Lib.hid hbr
    have HCUT := Lib.hid hcut
    have zr := hbr.size
    have rl0 := row_below hbr R3.out (by omega)
    have rr0 := row_below hbr RR3.out (by omega)
    have c1 : wr.cell? ⟨w.heap.size, 1, none⟩ = some (.int .i64 l.size) := cell_row' rl0 rfl
    clear hown hbr hcut
    by_cases hle : (x : Int) ≤ l.all - l.size
    · have hw2 : (x : Int) + l.size ≤ l.all := by omega
      go_wp2_with fail
      have hbw : Below w.heap.size w wr := HB3.out.trans (HBR.out.mono (by omega))
      have HBW := Lib.hid hbw
      have RLW := Lib.hid rl0
      have RRW := Lib.hid rr0
      have hneq : ∀ w : World, (Op.equalIn 10000 86 (.agg (rl r).toArray) (.agg (rv none72))).run Tryd.prog w = .ok (same72 r none72) w := fun w => by rw [rv_rl]; exact equal_rib r none72
      have hundR := undRib
      have hsizR : (Tryd.prog.info? 86).map (·.size) = some (rl r).length := by rw [rl_length]; exact sizeRib
      clear rl0 rr0 hbw c1
      go_loopw [7, 21] (fun q p wi => q = .int .i64 x ∧ ∃ k : Nat, p = .int .i64 k ∧ (k : Int) ≤ l.size ∧ (∀ j, j < k → r (x + j) = false) ∧ Below wr.heap.size wr wi) (fun _ p _ => l.size.toNat - (intOf p).toNat)
      case atStart => exact ⟨rfl, 0, rfl, by omega, fun j hj => by omega, Below.refl _ _⟩
      case round =>
        obtain ⟨rfl, k, rfl, hk, hfree, hbi⟩ := hrel
        have HFREE := Lib.hid hfree
        have HBI := Lib.hid hbi
        have zi := hbi.size
        have rr1 := row_below hbi RRW.out (by omega)
        have rl1 := row_below hbi RLW.out (by omega)
        clear hfree
        by_cases hklt : (k : Int) < l.size
        · go_upto_region 8 with (fail)
          have e0 := rangeAt_rib rr1
          obtain ⟨y, hy⟩ : ∃ y : Nat, y = x + k := ⟨_, rfl⟩
          have HY := Lib.hid hy
          have hxy : (x : Int) + (k : Int) = (y : Int) := by omega
          have e1 : wr.cell? ⟨w.heap.size + 1, y, none⟩ = some (.bool (r y)) := cell_row' rr1 (rv_get r y (by omega))
          have b0 : (0 : Int) ≤ (y : Int) := by omega
          have b1 : (y : Int) < 72 := by omega
          have hwy : IntKind.i64.wrap (y : Int) = y := IntWalk.i64_in _ (by omega)
          clear hy
          have HRR1 := Lib.hid rr1
          have HRL1 := Lib.hid rl1
          clear rr1 rl1
          cases hs : same72 r none72
          · simp only [hs] at hneq
            go_region_held3 (fun w' => w'.rangeAt (w.heap.size + 1) 0 (rl r) ∧ w'.cell? ⟨w.heap.size + 1, y, none⟩ = some (.bool (r y)))
              (first | go_keep | (go_split_ands; refine ⟨?_, ?_⟩; exact rangeAt_below hb' (by assumption); exact cell_below hb' (by assumption)))
              ((go_at_call 90; refine (clean_any _).mono ?_; rintro e w' ⟨rfl, hb'⟩))
            have hbi2 := HBI.out.trans (((Below.refl _ wr).drew.trans hb').mono zi)
            have HBI2 := Lib.hid hbi2
            have zi2 := hbi2.size
            clear hbi2 hb'
            cases hry : r y
            · have HN := Lib.hid (show ∀ j, j < k + 1 → r (x + j) = false from fun j hj => by
                rcases Nat.lt_or_ge j k with h | h
                · exact HFREE.out j h
                · obtain rfl : j = k := by omega
                  rw [← HY.out]; exact hry)
              go_wp2_with fail
              go_roundw
              case rel => exact ⟨rfl, k + 1, by go_num, by omega, HN.out, HBI2.out⟩
              case measure => simp [intOf]; omega
            · have HN := Lib.hid (cutF_knot l h1 ha.2 r x k hw2 hklt HFREE.out (by rw [← HY.out]; exact hry))
              clear hxy hwy
              go_wp2_with fail
              go_roundw
              case rel => exact ⟨x + k + 1, pre, ao, cv, by simp; omega, by omega, by omega, rfl, owns_below HBI2.out HO.out, HBR.out.trans (HBI2.out.mono (by have := HBR.out.size; omega)), by rw [← HN.out]; exact HCUT.out⟩
              case measure => simp [intOf]; omega
          · simp only [hs] at hneq
            clear e1 b0 b1 hwy hxy
            refine wp_region_noPanic ?_
            refine wp_region_held_drew (S := fun w' => w'.rangeAt (w.heap.size + 1) 0 (rl r)) (by kernel_rfl) e0 (fun hHeld => ?_)
            refine held_take 0 24 _ rfl rfl (by kernel_rfl) (by kernel_rfl) (by kernel_rfl) (fun _ _ _ h => h) (yieldsIf_load_mid (by rfl) _ _ rfl _ _ rfl (rl r) _ (fun _ h => h) hundR rfl hsizR) hHeld ?_
            simp only [List.setIfInBounds_toArray, List.set_cons_zero, List.set_cons_succ]
            refine wpAnyH_ready (rs := [1]) (by kernel_rfl) (by simp) ?_
            refine AllReadyH.cons rfl (fun K hK => ?_) AllReadyH.nil
            go_simp
            refine (clean_any _).mono ?_
            rintro e w' ⟨rfl, hb'⟩
            dsimp only
            refine hK.out _ _ (rangeAt_below hb' hHeld) (fun hHeld2 => ?_)
            clear hK hHeld
            try simp only [Act.put, List.setIfInBounds_toArray, List.set_cons_zero, List.set_cons_succ]
            refine held_take 2 26 (.bool false) rfl rfl (by kernel_rfl) (by kernel_rfl) (by kernel_rfl) (fun _ _ _ h => h) (Or.inl ⟨by rfl, fun w _ => by go_simp⟩) hHeld2 ?_
            simp only [List.setIfInBounds_toArray, List.set_cons_zero, List.set_cons_succ]
            refine held_take 3 27 (.bool false) rfl rfl (by kernel_rfl) (by kernel_rfl) (by kernel_rfl) (fun _ _ _ h => h) (Or.inl ⟨by rfl, fun w _ => by go_simp⟩) hHeld2 ?_
            simp only [List.setIfInBounds_toArray, List.set_cons_zero, List.set_cons_succ]
            refine held_take 4 28 undef rfl rfl (by kernel_rfl) (by kernel_rfl) (by kernel_rfl) (fun _ _ _ h => h) (Or.inr ⟨by rfl, rfl⟩) hHeld2 ?_
            simp only [List.setIfInBounds_toArray, List.set_cons_zero, List.set_cons_succ]
            refine held_take 5 29 undef rfl rfl (by kernel_rfl) (by kernel_rfl) (by kernel_rfl) (fun _ _ _ h => h) (Or.inr ⟨by rfl, rfl⟩) hHeld2 ?_
            simp only [List.setIfInBounds_toArray, List.set_cons_zero, List.set_cons_succ]
            refine held_take 6 30 undef rfl rfl (by kernel_rfl) (by kernel_rfl) (by kernel_rfl) (fun _ _ _ h => h) (Or.inr ⟨by rfl, rfl⟩) hHeld2 ?_
            simp only [List.setIfInBounds_toArray, List.set_cons_zero, List.set_cons_succ]
            refine held_take 7 31 undef rfl rfl (by kernel_rfl) (by kernel_rfl) (by kernel_rfl) (fun _ _ _ h => h) (Or.inr ⟨by rfl, rfl⟩) hHeld2 ?_
            simp only [List.setIfInBounds_toArray, List.set_cons_zero, List.set_cons_succ]
            refine held_take 8 32 undef rfl rfl (by kernel_rfl) (by kernel_rfl) (by kernel_rfl) (fun _ _ _ h => h) (Or.inr ⟨by rfl, rfl⟩) hHeld2 ?_
            simp only [List.setIfInBounds_toArray, List.set_cons_zero, List.set_cons_succ]
            refine held_take 9 33 (.bool false) rfl rfl (by kernel_rfl) (by kernel_rfl) (by kernel_rfl) (fun _ _ _ h => h) (Or.inl ⟨by rfl, fun w _ => by go_simp⟩) hHeld2 ?_
            simp only [List.setIfInBounds_toArray, List.set_cons_zero, List.set_cons_succ]
            refine wpAnyH_done (by kernel_rfl) ?_ _
            refine NoPanic.normal ?_
            have hbi2 := HBI.out.trans (((Below.refl _ wr).drew.trans hb').mono zi)
            have HBI2 := Lib.hid hbi2
            have zi2 := hbi2.size
            clear hbi2 hb'
            have HN := Lib.hid (show ∀ j, j < k + 1 → r (x + j) = false from fun j hj => HS.out (x + j) (by omega) hs)
            go_wp2_with fail
            go_roundw
            case rel => exact ⟨rfl, k + 1, by go_num, by omega, HN.out, HBI2.out⟩
            case measure => simp [intOf]; omega
        · obtain hks : (k : Int) = l.size := by omega
          have HN := Lib.hid (cutF_free l h1 ha.2 r x hw2 (fun j hj => HFREE.out j (by omega)))
          have hown := owns_below HBI.out HO.out
          have c1 : wr.cell? ⟨w.heap.size, 1, none⟩ = some (.int .i64 l.size) := cell_row' rl1 rfl
          clear rr1 rl1 hneq hundR hsizR hbi
          go_wp2_with (at_builtin; refine wpList_append_own _ rfl _ _ 22 rfl (w.heap.size + 2) 3 i0 (.int .i64 0) 1 8 hundI hi hz0 hz1 hz2 rfl (by decide) _ _ _ rfl (hown.alloc _) ⟨wr.heap.size, 0, none⟩ 1 1 [.int .i64 x] rfl rfl (cell_one_here _ _ _) (fun x hx => by simp at hx; subst hx; rfl) (by unfold maxLen; omega) (by omega) (by simp; omega) ?_; intro v' w5 hown' hgrow hnil; have c1' := hgrow.cell (cell_old c1) (fun e => by have := hown.lt w.heap.size e.symm; omega))
          obtain ⟨g3, cap3, hv3⟩ : ∃ g3 cap3, v' = .slice (some ⟨g3, 0, none⟩) (pre.length + 1) cap3 := by
            rcases hown'.2 with ⟨_, h⟩ | ⟨g3, cap3, _, h, _⟩
            · omega
            · exact ⟨g3, cap3, h⟩
          have hbf : Below (w.heap.size + 2) w3 wr := HBR.out.trans (HBI.out.mono (by omega))
          have hbf2 : Below (w.heap.size + 2) w3 w5 := (hbf.alloc (by omega) _).grown hgrow (by simp; omega) (fun q hq => (hown.lt q hq).1)
          go_roundw
          case rel =>
            refine ⟨x + l.size.toNat, pre ++ [(x : Int)], some ⟨g3, 0, none⟩, cap3, ?_, by omega, by simp; omega, ?_, ?_, hbf2, ?_⟩
            · congr 1; omega
            · rw [hv3]; simp
            · rw [List.map_append, List.length_append]; exact hown'
            · rw [List.append_assoc, List.singleton_append, ← HN.out]; exact HCUT.out
          case measure => simp [intOf]; omega
    · have hnot : ¬ ((x : Int) + l.size ≤ l.all) := by omega
      have HSTOP := Lib.hid (cutF_stop l r x (73 - x) hnot)
      have HFIN := Lib.hid (show pre = l.cut r by rw [← HCUT.out, HSTOP.out]; simp)
      go_wp2_with fail
      go_ret
      refine ⟨ao, cv, by rw [← HFIN.out]; rfl, HB3.out.trans (HBR.out.mono (by omega)), ?_, ?_⟩
      · rw [← HFIN.out]
        exact cutAt_of_owns HO.out (by omega)
      · rintro rfl
        rw [← HFIN.out]
        rcases HO.out.2 with ⟨_, h2⟩ | ⟨g, cap, cur, h2, _⟩
        · exact List.eq_nil_of_length_eq_zero h2
        · cases h2
end Go.Proofs.YtigofgdmefobaaaDoor.Peel
