/- Walks of package peel: the iterator of spots. -/
import Derived.Test.YtigofgdmefobaaaDoorPeelK
import Derived.Test.YtigofgdmefobaaaDoorRow
import Derived.Sort.CutIn
set_option linter.unusedVariables false
set_option linter.unusedSimpArgs false
namespace Go.Proofs.YtigofgdmefobaaaDoor.Peel
open Go.RowKit Go.Proofs.YtigofgdmefobaaaDoor.Iter
attribute [local go_sem] Oper.semAt_some

theorem heap_put {w : World} {p : Addr} {v : Value} {i : Nat} (h : p.block ≠ i) : (w.setCell p v).heap[i]? = w.heap[i]? := Below.heap_setCell w p v i (Ne.symm h)
theorem stays_setCell {T : Nat → Prop} (w : World) (p : Addr) (v : Value) (hp : T p.block) : Stays T w (w.setCell p v) :=
  ⟨Ext.below (Below.setCell (Below.refl 0 w) (Nat.zero_le _) v), fun b _ hb => heap_put (fun e => hb (e ▸ hp))⟩
theorem stays_alloc {T : Nat → Prop} (w : World) (o : Obj) : Stays T w (w.alloc o) := Stays.of_below ((Below.refl _ w).alloc (Nat.le_refl _) o)
theorem size_drew_own (w : World) : w.drew.heap.size = w.heap.size := rfl
theorem bdrew {w w1 : World} (h : Below w.heap.size w w1) : Below w.heap.size w w1.drew := h.drew
theorem balloc {w w1 : World} (h : Below w.heap.size w w1) (o : Obj) : Below w.heap.size w (w1.alloc o) := h.alloc h.size o
theorem bset {w w1 : World} (h : Below w.heap.size w w1) (p : Addr) (v : Value) (hp : w.heap.size ≤ p.block) : Below w.heap.size w (w1.setCell p v) := h.setCell hp v
theorem keeps_cell {T : Nat → Prop} {w w1 : World} (h : Keeps T w w1) {b o : Nat} {v : Value} (hT : T b) (hc : w.cell? ⟨b, o, none⟩ = some v) : w1.cell? ⟨b, o, none⟩ = some v := by
  have := h.block b (World.block_lt_of_cell? w _ hc) hT
  rw [← hc]
  simp only [World.cell?, this]
theorem below_of_keeps {T : Nat → Prop} {w w1 : World} (h : Keeps T w w1) : Ext w w1 := h.ext
theorem blk_set {w : World} {g : Nat} {t : TypeId} {cs : Array Value} (h : w.heap[g]? = some (.cells cs t (0, 0))) (i : Nat) (u : Value) : (w.setCell ⟨g, i, none⟩ u).heap[g]? = some (.cells (cs.setIfInBounds i u) t (0, 0)) := by
  simp [World.setCell, Array.getElem?_modify, h]
def SpotsS (l : PL) (a : Addr) (B : Option Addr) (c d m bl bk k : Nat) (w' : World) : Prop := w'.cell? ⟨bl, 0, none⟩ = some (.slice (some a) l.long.length c) ∧ w'.cell? ⟨bl, 1, none⟩ = some (.int .i64 l.size) ∧ w'.cell? ⟨bl, 2, none⟩ = some (.slice B l.knots.length d) ∧ w'.cell? ⟨bl, 3, none⟩ = some (.map (some m)) ∧ w'.cell? ⟨bk, 0, none⟩ = some (.int .i64 k) ∧ w'.cell? ⟨0, 0, none⟩ = some (.func (.func 113) #[] #[]) ∧ w'.cell? ⟨0, 1, none⟩ = some (.func (.func 114) #[] #[])
theorem spots_S {l : PL} {a : Addr} {B : Option Addr} {c d m bl bk k : Nat} {w w' : World} (h : SpotsS l a B c d m bl bk k w) (hb : Below w.heap.size w w') : SpotsS l a B c d m bl bk k w' :=
  ⟨cell_below hb h.1, cell_below hb h.2.1, cell_below hb h.2.2.1, cell_below hb h.2.2.2.1, cell_below hb h.2.2.2.2.1, cell_below hb h.2.2.2.2.2.1, cell_below hb h.2.2.2.2.2.2⟩
/-- How many rounds are left. -/
def spotLeft (x : Kn) (wr : World) : Value → Nat
  | .pointer (some p) => match wr.cell? ⟨p.block, 0, none⟩, wr.cell? ⟨p.block, 1, none⟩ with
    | some (.int _ A), some (.int _ F) => x.many - ((F - x.f.lo) * x.a.n + (A - x.a.lo)).toNat
    | _, _ => 0
  | _ => 0
theorem spotLeft_eq {x : Kn} {wr : World} {b i : Nat} {A F : Int} (h0 : wr.cell? ⟨b, 0, none⟩ = some (.int .i64 A)) (h1 : wr.cell? ⟨b, 1, none⟩ = some (.int .i64 F)) (hs : Stands x i A F) : spotLeft x wr (.pointer (some ⟨b, 0, none⟩)) = x.many - i := by
  unfold spotLeft
  simp only [h0, h1]
  rw [← hs.at_]; simp
abbrev spotV (s : Int × Int) : Array Value := #[.agg #[.int .i64 s.1, .int .i64 s.2]]
set_option maxHeartbeats 2000000 in
theorem spots_yields (l : PL) (a : Addr) (B : Option Addr) (c d m bl bk k : Nat) (x : Kn) (hx : l.knots[k]? = some x) :
    Iter.Yields Tryd.prog 96 #[.pointer (some ⟨bl, 0, none⟩), .pointer (some ⟨bk, 0, none⟩)] spotV x.spots (fun _ => False) (SpotsNeed l a B c d m bl bk k) := by
  intro L J W hN hJ hY h0
  have HN := Lib.hid hN
  have HY := Lib.hid hY
  have H0 := Lib.hid h0
  have HJ := Lib.hid hJ
  have hxk := Lib.hid (hN.log.ok.knots x (List.mem_of_getElem? hx))
  have HX := Lib.hid hx
  have q0 := hN.q0
  have q1 := hN.q1
  have q2 := hN.q2
  have q3 := hN.q3
  have qk := hN.k
  have e0 := hN.ends.e0
  have e1 := hN.ends.e1
  have lt1 : bl < W.heap.size := World.block_lt_of_cell? W _ q0
  have lt2 : bk < W.heap.size := World.block_lt_of_cell? W _ qk
  have lt3 : 0 < W.heap.size := World.block_lt_of_cell? W _ e0
  clear hN hY h0 hJ hx
  simp only [List.push_toArray, List.append_toArray, List.cons_append, List.nil_append]
  refine callsIn_wide.2 ?_
  go_enter Tryd.func96, Tryd.ntmps96
  go_upto_region 0 with (fail)
  go_cut [4, 5] (fun p4 p5 wc => ∃ b4 b5 : Nat, p4 = .pointer (some ⟨b4, 0, none⟩) ∧ p5 = .pointer (some ⟨b5, 0, none⟩) ∧ W.heap.size ≤ b4 ∧ W.heap.size ≤ b5 ∧ Below W.heap.size W wc ∧
    wc.cell? ⟨b4, 0, none⟩ = some (.int .i64 x.a.lo) ∧ wc.cell? ⟨b4, 1, none⟩ = some (.int .i64 x.f.lo) ∧ wc.cell? ⟨b5, 0, none⟩ = some (.int .i64 x.a.hi) ∧ wc.cell? ⟨b5, 1, none⟩ = some (.int .i64 x.f.hi))
  case first =>
    have hS7 := Lib.hid (show SpotsS l a B c d m bl bk k W from ⟨q0, q1, q2, q3, qk, e0, e1⟩)
    go_wp2_with fail
    go_region_held3 (fun w' => w'.cell? ⟨bl, 0, none⟩ = some (.slice (some a) l.long.length c) ∧ w'.cell? ⟨bl, 1, none⟩ = some (.int .i64 l.size) ∧ w'.cell? ⟨bl, 2, none⟩ = some (.slice B l.knots.length d) ∧ w'.cell? ⟨bl, 3, none⟩ = some (.map (some m)) ∧ w'.cell? ⟨bk, 0, none⟩ = some (.int .i64 k) ∧ w'.cell? ⟨0, 0, none⟩ = some (.func (.func 113) #[] #[]) ∧ w'.cell? ⟨0, 1, none⟩ = some (.func (.func 114) #[] #[]))
      (exact (spots_S hS7.out (by (repeat' (first | exact Below.refl _ _ | assumption | with_reducible refine bdrew ?_ | with_reducible refine balloc ?_ _ | with_reducible refine bset ?_ _ _ (by first | omega | (simp; done) | (simp; omega) | (dsimp only; omega)) | with_reducible refine bb ?_ (by assumption))))))
      (first | (go_at_call 113; refine (first_any m (HN.out.log.below (by (repeat' (first | exact Below.refl _ _ | assumption | with_reducible refine bdrew ?_ | with_reducible refine balloc ?_ _ | with_reducible refine bset ?_ _ _ (by first | omega | (simp; done) | (simp; omega) | (dsimp only; omega)) | with_reducible refine bb ?_ (by assumption))))) k x HX.out).mono ?_; rintro e w' ⟨rfl, hb'⟩; (obtain ⟨hc', hf'⟩ := bcell hb'; have hz' := (hb').size; (try simp only [World.size_alloc, size_drew_own] at hz'); (try (have hz3 := Nat.lt_of_succ_le hz'; try (have hz4 := Nat.lt_of_succ_lt hz3))); (try (have hz1 : (W).heap.size < (w').heap.size := by omega)); (try (have hz2 : (W).heap.size + 1 < (w').heap.size := by omega)))) | (go_at_call 114; refine (last_any m (HN.out.log.below (by (repeat' (first | exact Below.refl _ _ | assumption | with_reducible refine bdrew ?_ | with_reducible refine balloc ?_ _ | with_reducible refine bset ?_ _ _ (by first | omega | (simp; done) | (simp; omega) | (dsimp only; omega)) | with_reducible refine bb ?_ (by assumption))))) k x HX.out).mono ?_; rintro e w' ⟨rfl, hb'⟩; (obtain ⟨hc', hf'⟩ := bcell hb'; have hz' := (hb').size; (try simp only [World.size_alloc, size_drew_own] at hz'); (try (have hz3 := Nat.lt_of_succ_le hz'; try (have hz4 := Nat.lt_of_succ_lt hz3))); (try (have hz1 : (W).heap.size < (w').heap.size := by omega)); (try (have hz2 : (W).heap.size + 1 < (w').heap.size := by omega)))))
    all_goals (go_wp2_with fail; go_meet; case rel => (refine ⟨_, _, rfl, rfl, ?_, ?_, by (repeat' (first | exact Below.refl _ _ | assumption | with_reducible refine bdrew ?_ | with_reducible refine balloc ?_ _ | with_reducible refine bset ?_ _ _ (by first | omega | (simp; done) | (simp; omega) | (dsimp only; omega)) | with_reducible refine bb ?_ (by assumption))), ?_, ?_, ?_, ?_⟩ <;> first | omega | (repeat (first | with_reducible assumption | with_reducible refine cell_drew' ?_ | with_reducible refine cset_same ?_ | with_reducible refine cset_off ?_ (by decide) | with_reducible refine cset_blk ?_ (by (try dsimp only); first | omega | (simp only [World.size_alloc, size_setRow, size_drew', World.size_setCell]; omega)) | with_reducible refine cell_new' (by first | rfl | (simp only [World.size_alloc, size_setRow, size_drew', World.size_setCell]; done) | omega | (simp only [World.size_alloc, size_setRow, size_drew', World.size_setCell]; omega)) ?_ | with_reducible refine cell_old ?_ | with_reducible refine cell_belowB (by assumption) ?_ (by first | omega | (simp only [World.size_alloc, size_setRow, size_drew', World.size_setCell]; omega)) | with_reducible exact some_of (by assumption) | with_reducible refine some_drew ?_ | with_reducible refine some_set ?_ rfl | with_reducible exact some_new (by first | rfl | (simp only [World.size_alloc, size_setRow, size_drew', World.size_setCell]; done) | omega | (simp only [World.size_alloc, size_setRow, size_drew', World.size_setCell]; omega)) (by simp; done) | with_reducible refine some_old ?_ | with_reducible refine some_below (by assumption) ?_ (by first | omega | (simp only [World.size_alloc, size_setRow, size_drew', World.size_setCell]; omega)) | rfl)) | (simp; done) | (simp; omega) | (go_simp; done)))
  case rest =>
  obtain ⟨b4, b5, rfl, rfl, hb4, hb5, hB, f0, f1, t0, t1⟩ := hcut
  have z4 : b4 < wc.heap.size := World.block_lt_of_cell? wc _ f0
  have z5 : b5 < wc.heap.size := World.block_lt_of_cell? wc _ t0
  go_upto_region 1 with (fail)
  go_wp2_with fail
  refine (wpIn_wide (n := 0)).1 ?_
  gi_loopw [6] (fun p wr => ∃ (i bs : Nat) (T : Nat → Prop) (A F : Int), p = .pointer (some ⟨bs, 0, none⟩) ∧ W.heap.size ≤ bs ∧ Stands x i A F ∧ T bs ∧ T b4 ∧ T b5 ∧ bs ≠ b4 ∧ bs ≠ b5 ∧ (∀ b, T b → b < wr.heap.size) ∧ J i T wr ∧ SpotsNeed l a B c d m bl bk k wr ∧
      wr.heap[bs]? = some (.cells #[.int .i64 A, .int .i64 F] 102 (0, 0)) ∧ wr.cell? ⟨b4, 0, none⟩ = some (.int .i64 x.a.lo) ∧ wr.cell? ⟨b4, 1, none⟩ = some (.int .i64 x.f.lo) ∧ wr.cell? ⟨b5, 0, none⟩ = some (.int .i64 x.a.hi) ∧ wr.cell? ⟨b5, 1, none⟩ = some (.int .i64 x.f.hi))
    (fun p wr => spotLeft x wr p)
  case atStart =>
    have hst : Below W.heap.size W (wc.alloc (.cells #[.int .i64 x.a.lo, .int .i64 x.f.lo] 102)) := hB.alloc hB.size _
    exact ⟨0, wc.heap.size, (fun b => b = wc.heap.size ∨ b = b4 ∨ b = b5), x.a.lo, x.f.lo, rfl, hB.size, Stands.first hxk.out, .inl rfl, .inr (.inl rfl), .inr (.inr rfl), by omega, by omega, (fun b hb => by rcases hb with h | h | h <;> simp <;> omega),
      HJ.out 0 _ _ W _ H0.out (Stays.of_below hst) (fun b hb _ h => by omega), HN.out.below hst, heap_alloc_new _ _, cell_below ((Below.refl _ wc).alloc (Nat.le_refl _) _) f0, cell_below ((Below.refl _ wc).alloc (Nat.le_refl _) _) f1, cell_below ((Below.refl _ wc).alloc (Nat.le_refl _) _) t0, cell_below ((Below.refl _ wc).alloc (Nat.le_refl _) _) t1⟩
  case round =>
    clear f0 f1 t0 t1 z4 z5 hB
    obtain ⟨i, bs, T, A, F, rfl, hbs, hst, Tbs, Tb4, Tb5, nbs4, nbs5, hbd, hJ, hN, hrow, f0, f1, t0, t1⟩ := hrel
    have s0 : wr.cell? ⟨bs, 0, none⟩ = some (.int .i64 A) := cell_of_row wr bs 0 _ _ _ hrow
    have s1 : wr.cell? ⟨bs, 1, none⟩ = some (.int .i64 F) := cell_of_row wr bs 1 _ _ _ hrow
    have g0 : wr.frozen? ⟨bs, 0, none⟩ = false := frozen_of_row wr bs 0 _ _ hrow
    have g1 : wr.frozen? ⟨bs, 1, none⟩ = false := frozen_of_row wr bs 1 _ _ hrow
    have HR := Lib.hid hrow
    have HBD := Lib.hid hbd
    clear hbd
    have HM := Lib.hid (spotLeft_eq s0 s1 hst)
    have HNr := Lib.hid hN
    have HJr := Lib.hid hJ
    have zs : bs < wr.heap.size := World.block_lt_of_cell? wr _ s0
    have z4 : b4 < wr.heap.size := World.block_lt_of_cell? wr _ f0
    have z5 : b5 < wr.heap.size := World.block_lt_of_cell? wr _ t0
    have A0 : 0 ≤ A := by have := hxk.out.a.low; have := hst.a0; omega
    have A1 : A ≤ 24 := by have := hxk.out.a.high; have := hst.a1; omega
    have F0 : 0 ≤ F := by have := hxk.out.f.low; have := hst.f0; omega
    have F1 : F ≤ 6 := by have := hxk.out.f.high; have := HN.out.log.ok.turns; have := hst.f1; omega
    clear hrow hN hJ
    gi_upto_if 26 with (fail)
    gi_cut [6] from 18 (fun p wd => ∃ A F : Int, p = .pointer (some ⟨bs, 0, none⟩) ∧ A ≤ x.a.hi ∧ Stands x i A F ∧ (∀ b, T b → b < wd.heap.size) ∧ J i T wd ∧ SpotsNeed l a B c d m bl bk k wd ∧ wd.heap[bs]? = some (.cells #[.int .i64 A, .int .i64 F] 102 (0, 0)) ∧
      wd.cell? ⟨b4, 0, none⟩ = some (.int .i64 x.a.lo) ∧ wd.cell? ⟨b4, 1, none⟩ = some (.int .i64 x.f.lo) ∧ wd.cell? ⟨b5, 0, none⟩ = some (.int .i64 x.a.hi) ∧ wd.cell? ⟨b5, 1, none⟩ = some (.int .i64 x.f.hi))
    case first =>
      by_cases hA : x.a.hi < A
      · gi_wp2
        gi_meet
        case rel =>
          have hs2 : Stays T wr ((wr.setCell ⟨bs, 0, none⟩ (.int .i64 x.a.lo)).setCell ⟨bs, 1, none⟩ (.int .i64 (F + 1))) := (stays_setCell wr _ _ Tbs).trans (stays_setCell _ _ _ Tbs)
          have hb2 : Below W.heap.size wr ((wr.setCell ⟨bs, 0, none⟩ (.int .i64 x.a.lo)).setCell ⟨bs, 1, none⟩ (.int .i64 (F + 1))) := ((Below.refl _ wr).setCell hbs _).setCell hbs _
          have hf : ∀ b o v, b ≠ bs → wr.cell? ⟨b, o, none⟩ = some v → ((wr.setCell ⟨bs, 0, none⟩ (.int .i64 x.a.lo)).setCell ⟨bs, 1, none⟩ (.int .i64 (F + 1))).cell? ⟨b, o, none⟩ = some v := by
            intro b o v hne hv
            have : ((wr.setCell ⟨bs, 0, none⟩ (.int .i64 x.a.lo)).setCell ⟨bs, 1, none⟩ (.int .i64 (F + 1))).heap[b]? = wr.heap[b]? := (heap_put (Ne.symm hne)).trans (heap_put (Ne.symm hne))
            rw [← hv]; simp only [World.cell?, this]
          exact ⟨x.a.lo, F + 1, rfl, by have := hxk.out.a.ends; omega, hst.over hxk.out hA, (fun b hb => Nat.lt_of_lt_of_le (HBD.out b hb) hs2.ext.size), HJ.out i T T wr _ HJr.out hs2 (fun b _ h => h), HN.out.far HNr.out hb2, blk_set (blk_set HR.out 0 _) 1 _, hf _ _ _ (Ne.symm nbs4) f0, hf _ _ _ (Ne.symm nbs4) f1, hf _ _ _ (Ne.symm nbs5) t0, hf _ _ _ (Ne.symm nbs5) t1⟩
      · gi_wp2
        gi_meet
        case rel => exact ⟨A, F, rfl, by omega, hst, HBD.out, HJr.out, HNr.out, HR.out, f0, f1, t0, t1⟩
    case rest =>
      clear f0 f1 t0 t1 s0 s1 g0 g1 zs z4 z5 A0 A1 F0 F1 hst HR HNr HJr HBD
      obtain ⟨A, F, rfl, hA, hst, hbd, hJ, hN, hrow, f0, f1, t0, t1⟩ := hcut
      have s0 : wc.cell? ⟨bs, 0, none⟩ = some (.int .i64 A) := cell_of_row wc bs 0 _ _ _ hrow
      have s1 : wc.cell? ⟨bs, 1, none⟩ = some (.int .i64 F) := cell_of_row wc bs 1 _ _ _ hrow
      have zs : bs < wc.heap.size := World.block_lt_of_cell? wc _ s0
      have A0 : 0 ≤ A := by have := hxk.out.a.low; have := hst.a0; omega
      have A1 : A ≤ 24 := by have := hxk.out.a.high; have := hst.a1; omega
      have hq : x.spots[i]? = some (A, F) := by rw [x.spots_get i hst.n, hst.spot hxk.out hA]
      obtain ⟨fn, tmps, assign, body, hy, hR⟩ := HY.out i (A, F) T wc hq hJ hN hbd
      have HBD := Lib.hid hbd
      clear hJ hN hrow hq hbd
      by_cases hl : A = x.a.hi ∧ F = x.f.hi
      · have HZ := Lib.hid (hst.last hxk.out hl)
        obtain ⟨rfl, rfl⟩ := hl
        dsimp only [spotV] at hy
        gi_wp2
        refine ⟨rfl, hR.mono ?_⟩
        rintro e W2 ⟨rfl, hJ2, hk2, hN2⟩
        have hsz := hk2.ext.size
        have f0' := keeps_cell hk2 Tb4 f0
        have f1' := keeps_cell hk2 Tb4 f1
        have t0' := keeps_cell hk2 Tb5 t0
        have t1' := keeps_cell hk2 Tb5 t1
        have s0' := keeps_cell hk2 Tbs s0
        have s1' := keeps_cell hk2 Tbs s1
        gi_wp2
        refine bodyPost_ret (results_none rfl _ _ _) rfl ?_
        exact ⟨⟨_, rfl⟩, hN2, T, by rw [x.spots_len, ← HZ.out]; exact hJ2⟩
      · have hnx := hst.next hxk.out hA hl
        dsimp only [spotV] at hy
        gi_wp2
        refine ⟨rfl, hR.mono ?_⟩
        rintro e W2 ⟨rfl, hJ2, hk2, hN2⟩
        have hsz := hk2.ext.size
        have f0' := keeps_cell hk2 Tb4 f0
        have f1' := keeps_cell hk2 Tb4 f1
        have t0' := keeps_cell hk2 Tb5 t0
        have t1' := keeps_cell hk2 Tb5 t1
        have s0' := keeps_cell hk2 Tbs s0
        have s1' := keeps_cell hk2 Tbs s1
        by_cases hA' : A = x.a.hi
        · subst hA'
          have hF : F ≠ x.f.hi := fun e => hl ⟨rfl, e⟩
          clear hl
          gi_wp2
          go_roundw
          case rel =>
            have z4 : b4 < W2.heap.size := World.block_lt_of_cell? W2 _ f0'
            have z5 : b5 < W2.heap.size := World.block_lt_of_cell? W2 _ t0'
            have hal := fun o => (Below.refl _ W2).alloc (Nat.le_refl _) o
            exact ⟨i + 1, W2.heap.size, fun b => T b ∨ b = W2.heap.size, _, F, rfl, by omega, hnx, .inr rfl, .inl Tb4, .inl Tb5, by omega, by omega, (fun b hb => by rcases hb with h | h; (have := HBD.out b h; simp; omega); (subst h; simp)),
              HJ.out (i + 1) T _ W2 _ hJ2 (stays_alloc W2 _) (fun b hb hn h => by rcases h with h | h; exact hn h; omega), hN2.below (hal _), heap_alloc_new _ _, cell_below (hal _) f0', cell_below (hal _) f1', cell_below (hal _) t0', cell_below (hal _) t1'⟩
          case measure =>
            have hrow := heap_alloc_new W2 (.cells #[.int .i64 (x.a.hi + 1), .int .i64 F] 102)
            have e1 := spotLeft_eq (x := x) (cell_of_row _ _ 0 _ _ _ hrow) (cell_of_row _ _ 1 _ _ _ hrow) hnx
            have hn := hnx.n
            show spotLeft x _ (.pointer (some ⟨W2.heap.size, 0, none⟩)) < spotLeft x wr (.pointer (some ⟨bs, 0, none⟩))
            rw [e1, HM.out]
            omega
        · clear hl
          gi_wp2
          go_roundw
          case rel =>
            have z4 : b4 < W2.heap.size := World.block_lt_of_cell? W2 _ f0'
            have z5 : b5 < W2.heap.size := World.block_lt_of_cell? W2 _ t0'
            have hal := fun o => (Below.refl _ W2).alloc (Nat.le_refl _) o
            exact ⟨i + 1, W2.heap.size, fun b => T b ∨ b = W2.heap.size, _, F, rfl, by omega, hnx, .inr rfl, .inl Tb4, .inl Tb5, by omega, by omega, (fun b hb => by rcases hb with h | h; (have := HBD.out b h; simp; omega); (subst h; simp)),
              HJ.out (i + 1) T _ W2 _ hJ2 (stays_alloc W2 _) (fun b hb hn h => by rcases h with h | h; exact hn h; omega), hN2.below (hal _), heap_alloc_new _ _, cell_below (hal _) f0', cell_below (hal _) f1', cell_below (hal _) t0', cell_below (hal _) t1'⟩
          case measure =>
            have hrow := heap_alloc_new W2 (.cells #[.int .i64 (A + 1), .int .i64 F] 102)
            have e1 := spotLeft_eq (x := x) (cell_of_row _ _ 0 _ _ _ hrow) (cell_of_row _ _ 1 _ _ _ hrow) hnx
            have hn := hnx.n
            show spotLeft x _ (.pointer (some ⟨W2.heap.size, 0, none⟩)) < spotLeft x wr (.pointer (some ⟨bs, 0, none⟩))
            rw [e1, HM.out]
            omega
end Go.Proofs.YtigofgdmefobaaaDoor.Peel
