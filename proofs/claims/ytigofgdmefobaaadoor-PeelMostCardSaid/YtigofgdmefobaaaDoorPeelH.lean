/- Walks of package peel: a log is asked. -/
import Derived.Test.YtigofgdmefobaaaDoorPeelG
set_option linter.unusedVariables false
set_option linter.unusedSimpArgs false
namespace Go.Proofs.YtigofgdmefobaaaDoor.Peel
open Go.RowKit
theorem column_right {w : World} {l : PL} {a : Addr} {B : Option Addr} {c d : Nat} (h : LogAt w l a B c d) (t x : Int) (g k : Nat)
    (hg : w.cell? ⟨g, 0, none⟩ = some (.int .i64 t)) (hk : w.cell? ⟨k, 0, none⟩ = some (.int .i64 x)) :
    Right 62 #[.pointer (some ⟨g, 0, none⟩), .pointer (some ⟨k, 0, none⟩)] w l a B c d (decide ((0 ≤ t ∧ t ≤ (l.long.length : Int) - 1) ∧ (0 ≤ x ∧ x ≤ 23))) := by
  refine ⟨enters_of Tryd.func62 (by kernel_rfl) rfl, fun w1 m hb => ?_⟩
  have hg1 := cell_below hb hg
  have hk1 := cell_below hb hk
  have hn := h.ok.turns
  have hB := (Below.refl _ w1).alloc (Nat.le_refl _) (.cells #[.slice (some a) l.long.length c, .int .i64 l.size, .slice B l.knots.length d, .map (some m)] 75)
  have hlt := World.block_lt_of_cell? w1 _ hg1
  have hlt2 := World.block_lt_of_cell? w1 _ hk1
  clear hg hk hb h
  simp only [List.push_toArray, List.append_toArray, List.cons_append, List.nil_append]
  by_cases ht : 0 ≤ t ∧ t ≤ (l.long.length : Int) - 1
  · go_enter Tryd.func62, Tryd.ntmps62
    go_wp2_with fail
    refine (in_yes _ _ _ _ ht).mono ?_
    rintro e w' ⟨rfl, rfl⟩
    go_wp2_with fail
    refine (in_any _ _ _ _).mono ?_
    rintro e w' ⟨rfl, rfl⟩
    go_wp2_with fail
    go_ret
    exact ⟨by simp [ht], hB⟩
  · go_enter Tryd.func62, Tryd.ntmps62
    go_wp2_with fail
    refine (in_no _ _ _ _ ht).mono ?_
    rintro e w' ⟨rfl, rfl⟩
    go_wp2_with fail
    go_ret
    exact ⟨by simp [ht], hB⟩
theorem knotty_right {w : World} {l : PL} {a : Addr} {B : Option Addr} {c d : Nat} (h : LogAt w l a B c d) (x : Int) (g : Nat)
    (hg : w.cell? ⟨g, 0, none⟩ = some (.int .i64 x)) :
    Right 65 #[.pointer (some ⟨g, 0, none⟩)] w l a B c d (decide (0 ≤ x ∧ x ≤ l.all - 1)) := by
  refine ⟨enters_of Tryd.func65 (by kernel_rfl) rfl, fun w1 m hb => ?_⟩
  have hg1 := cell_below hb hg
  have hl1 := h.below hb
  have hall := all_bd h.ok
  have hB := (Below.refl _ w1).alloc (Nat.le_refl _) (.cells #[.slice (some a) l.long.length c, .int .i64 l.size, .slice B l.knots.length d, .map (some m)] 75)
  have HL := Lib.hid (hl1.below hB)
  have hg2 := cell_below hB hg1
  have hlt := World.block_lt_of_cell? w1 _ hg1
  clear hl1 hg hb h
  simp only [List.push_toArray, List.append_toArray, List.cons_append, List.nil_append]
  go_enter Tryd.func65, Tryd.ntmps65
  go_wp2_with fail
  go_region_held3 (fun w' => w'.cell? ⟨w1.heap.size, 0, none⟩ = some (.slice (some a) l.long.length c) ∧ w'.cell? ⟨w1.heap.size, 1, none⟩ = some (.int .i64 l.size) ∧ w'.cell? ⟨w1.heap.size, 2, none⟩ = some (.slice B l.knots.length d) ∧ w'.cell? ⟨w1.heap.size, 3, none⟩ = some (.map (some m)) ∧ w'.cell? ⟨g, 0, none⟩ = some (.int .i64 x))
    (first | go_keep | (go_split_ands; refine ⟨?_, ?_, ?_, ?_, ?_⟩ <;> exact cell_below hb' (by assumption)))
    (first | (go_at_call 58; refine (columns_any m (HL.out.below (by exact (Below.refl _ _).drew))).mono ?_; rintro e w' ⟨rfl, hb'⟩) | (go_at_call 59; refine (in_any _ _ _ _).mono ?_; rintro e w' ⟨rfl, rfl⟩))
  rw [show IntKind.i64.wrap (l.all - 1) = l.all - 1 from IntWalk.i64_in _ (by omega)]
  have HW := Lib.hid (bb hB.drew hb')
  clear hb'
  go_wp2_with fail
  go_ret
  exact ⟨by simp, HW.out⟩
/-- Two results, the first one a log in the calculation in a block of its own. -/
theorem results_log {fn : Func} {p q : Tmp} (h : fn.results = #[.cell p 75, .tmp q]) (tmps : Array Value) (w : World) (g : Nat) (v0 v1 v2 v3 v : Value)
    (hp : tmps.getD p undef = .pointer (some ⟨g, 0, none⟩)) (hq : tmps.getD q undef = v) (hg : w.heap[g]? = some (.cells #[v0, v1, v2, v3] 75 (0, 0))) :
    (results fn tmps).run Tryd.prog w = .ok (.tuple #[.agg #[v0, v1, v2, v3], v]) w := by
  have hp' : tmps[p]?.getD undef = .pointer (some ⟨g, 0, none⟩) := by simpa using hp
  have hq' : tmps[q]?.getD undef = v := by simpa using hq
  have hl := run_loadVar_row (P := Tryd.prog) w g 75 75 #[v0, v1, v2, v3] (0, 0) _ hg Tryd.underlying75 rfl (by kernel_rfl)
  simp [results, h, hp', hq', asAddr, hl]
theorem blk_lt' {w : World} {g : Nat} {o : Obj} (h : w.heap[g]? = some o) : g < w.heap.size := (Array.getElem?_eq_some_iff.1 h).1
theorem heap_set4 {w : World} {g : Nat} {t : TypeId} {u0 u1 u2 u3 : Value} (h : w.heap[g]? = some (.cells #[u0, u1, u2, u3] t (0, 0))) (v0 v1 v2 v3 : Value) :
    ((((w.setCell ⟨g, 0, none⟩ v0).setCell ⟨g, 1, none⟩ v1).setCell ⟨g, 2, none⟩ v2).setCell ⟨g, 3, none⟩ v3).heap[g]? = some (.cells #[v0, v1, v2, v3] t (0, 0)) := by
  have h0 := heap_setCell_same _ _ 0 _ _ v0 h
  have h1 := heap_setCell_same _ _ 1 _ _ v1 h0
  have h2 := heap_setCell_same _ _ 2 _ _ v2 h1
  have h3 := heap_setCell_same _ _ 3 _ _ v3 h2
  exact h3
theorem below_set4 {w W : World} (h : Below w.heap.size w W) {g : Nat} (hg : w.heap.size ≤ g) (v0 v1 v2 v3 : Value) :
    Below w.heap.size w ((((W.setCell ⟨g, 0, none⟩ v0).setCell ⟨g, 1, none⟩ v1).setCell ⟨g, 2, none⟩ v2).setCell ⟨g, 3, none⟩ v3) :=
  (((h.setCell hg _).setCell hg _).setCell hg _).setCell hg _
/-- What is handed back of a log that is wrong, or a wrong question. -/
def zeroLog : Value := .agg #[.slice none 0 0, .int .i64 0, .slice none 0 0, .map none]
theorem asked_bad {w : World} {l : PL} {A B : Option Addr} {c d : Nat} (h : RawAt w l A B c d) (g : Nat) (caps : Array Value) (hbad : ¬ l.Ok) :
    Calls Tryd.prog 56 #[.agg #[.slice A l.long.length c, .int .i64 l.size, .slice B l.knots.length d], .func (.func g) #[] caps] w fun e w' => e = .returned (.tuple #[zeroLog, .int .i64 10]) ∧ Below w.heap.size w w' := by
  have hB := ((Below.refl _ w).alloc (Nat.le_refl _) (.cells #[.slice A l.long.length c, .int .i64 l.size, .slice B l.knots.length d] 25)).alloc (by simp) (.cells #[.slice none 0 0, .int .i64 0, .slice none 0 0, .map none] 75)
  have H := Lib.hid (h.below hB)
  clear h
  go_enter Tryd.func56, Tryd.ntmps56
  go_wp2_with fail
  refine (check_any H.out).mono ?_
  rintro e w' ⟨(⟨ho, _⟩ | ⟨_, rfl⟩), hb'⟩
  · exact absurd ho hbad
  obtain ⟨hc1, hf1⟩ := bcell hb'
  have hz1 : w.heap.size + 1 + 1 ≤ w'.heap.size := by have := hb'.size; simpa using this
  have HB1 := Lib.hid (bb hB hb')
  clear hb'
  go_wp2_with fail
  refine bodyPost_ret (v := .tuple #[.agg #[.slice none 0 0, .int .i64 0, .slice none 0 0, .map none], .int .i64 10]) (by simp [results, Tryd.results56, go_sem, hc1, hz1]) rfl ⟨rfl, ?_⟩
  exact (((HB1.out.setCell (by simp) _).setCell (by simp) _).setCell (by simp) _).setCell (by simp) _
theorem check_ok {w : World} {l : PL} {A B : Option Addr} {c d : Nat} (h : RawAt w l A B c d) (ok : l.Ok) :
    Calls Tryd.prog 17 #[.agg #[.slice A l.long.length c, .int .i64 l.size, .slice B l.knots.length d]] w fun e w' => e = .returned (.int .i64 0) ∧ Below w.heap.size w w' := by
  refine (check_any h).mono ?_
  rintro e w' ⟨(⟨_, rfl⟩ | ⟨hn, _⟩), hb'⟩
  · exact ⟨rfl, hb'⟩
  · exact absurd ok hn
theorem asked_no {w : World} {l : PL} {a : Addr} {B : Option Addr} {c d : Nat} (h : LogAt w l a B c d) (g : Nat) (caps : Array Value) (hr : Right g caps w l a B c d false) :
    Calls Tryd.prog 56 #[.agg #[.slice (some a) l.long.length c, .int .i64 l.size, .slice B l.knots.length d], .func (.func g) #[] caps] w fun e w' => e = .returned (.tuple #[zeroLog, .int .i64 11]) ∧ Below w.heap.size w w' := by
  obtain ⟨eg, hr⟩ := hr
  have hB := ((Below.refl _ w).alloc (Nat.le_refl _) (.cells #[.slice (some a) l.long.length c, .int .i64 l.size, .slice B l.knots.length d] 25)).alloc (by simp) (.cells #[.slice none 0 0, .int .i64 0, .slice none 0 0, .map none] 75)
  have hbox := heap_alloc2_new w (.cells #[.slice (some a) l.long.length c, .int .i64 l.size, .slice B l.knots.length d] 25) (.cells #[.slice none 0 0, .int .i64 0, .slice none 0 0, .map none] 75)
  have HX := Lib.hid hbox
  have H := Lib.hid (h.raw.below hB)
  have HR := Lib.hid hr
  have HO := Lib.hid h.ok
  clear h hr hbox
  go_enter Tryd.func56, Tryd.ntmps56
  go_wp2_with fail
  refine (check_ok H.out HO.out).mono ?_
  rintro e w' ⟨rfl, hb'⟩
  obtain ⟨hc1, hf1⟩ := bcell hb'
  have hz1 : w.heap.size + 1 + 1 ≤ w'.heap.size := by have := hb'.size; simpa using this
  have HB1 := Lib.hid hb'
  clear hb'
  go_wp2_with fail
  refine (opened_any _ _ _ _ _ _ _ _).mono ?_
  rintro e w2 ⟨m, rfl, hb2, hm2, hms⟩
  obtain ⟨hc2, hf2⟩ := bcell hb2
  have hz2 : w.heap.size + 1 + 1 ≤ w2.heap.size := by have := hb2.size; omega
  have HB2 := Lib.hid (bb HB1.out hb2)
  clear hb2 hm2 hms
  go_wp2_with fail
  have hb3 := (Below.refl _ w2).alloc (Nat.le_refl _) (.cells #[.slice (some a) l.long.length c, .int .i64 l.size, .slice B l.knots.length d, .map (some m)] 75)
  refine (HR.out _ m (bb (bb hB HB2.out) hb3)).mono ?_
  rintro e w3 ⟨rfl, hb4⟩
  have hz3 : w.heap.size + 1 + 1 ≤ w3.heap.size := by have := hb4.size; simp at this; omega
  have HB3 := Lib.hid (bb (bb HB2.out hb3) hb4)
  clear hb3 hb4
  have hw3 := (HB3.out.block _ (by simp)).trans HX.out
  have q0 := (cell_of_row _ _ 0 _ _ _ hw3).trans rfl
  have q1 := (cell_of_row _ _ 1 _ _ _ hw3).trans rfl
  have q2 := (cell_of_row _ _ 2 _ _ _ hw3).trans rfl
  have q3 := (cell_of_row _ _ 3 _ _ _ hw3).trans rfl
  have r0 := frozen_of_row _ _ 0 _ _ hw3
  have r1 := frozen_of_row _ _ 1 _ _ hw3
  have r2 := frozen_of_row _ _ 2 _ _ hw3
  have r3 := frozen_of_row _ _ 3 _ _ hw3
  clear hw3
  go_wp2_with fail
  have h4 := heap_set4 ((HB3.out.block _ (by simp)).trans HX.out) (.slice none 0 0) (.int .i64 0) (.slice none 0 0) (.map none)
  exact bodyPost_ret (results_log rfl _ _ _ _ _ _ _ _ rfl rfl h4) rfl ⟨rfl, below_set4 (bb hB HB3.out) (by omega) _ _ _ _⟩
/-- A log that may be asked: in the calculation it is the same, with new marks. -/
def AskedPost (l : PL) (a : Addr) (B : Option Addr) (c d : Nat) (w : World) (e : Ending) (w' : World) : Prop :=
  ∃ m : Nat, e = .returned (.tuple #[.agg #[.slice (some a) l.long.length c, .int .i64 l.size, .slice B l.knots.length d, .map (some m)], .int .i64 0]) ∧ Below w.heap.size w w' ∧ w'.heap[m]? = some (.map #[] 0) ∧ w.heap.size ≤ m
theorem asked_yes {w : World} {l : PL} {a : Addr} {B : Option Addr} {c d : Nat} (h : LogAt w l a B c d) (g : Nat) (caps : Array Value) (hr : Right g caps w l a B c d true) :
    Calls Tryd.prog 56 #[.agg #[.slice (some a) l.long.length c, .int .i64 l.size, .slice B l.knots.length d], .func (.func g) #[] caps] w (AskedPost l a B c d w) := by
  obtain ⟨eg, hr⟩ := hr
  have hB := ((Below.refl _ w).alloc (Nat.le_refl _) (.cells #[.slice (some a) l.long.length c, .int .i64 l.size, .slice B l.knots.length d] 25)).alloc (by simp) (.cells #[.slice none 0 0, .int .i64 0, .slice none 0 0, .map none] 75)
  have hbox := heap_alloc2_new w (.cells #[.slice (some a) l.long.length c, .int .i64 l.size, .slice B l.knots.length d] 25) (.cells #[.slice none 0 0, .int .i64 0, .slice none 0 0, .map none] 75)
  have HX := Lib.hid hbox
  have H := Lib.hid (h.raw.below hB)
  have HR := Lib.hid hr
  have HO := Lib.hid h.ok
  clear h hr hbox
  go_enter Tryd.func56, Tryd.ntmps56
  go_wp2_with fail
  refine (check_ok H.out HO.out).mono ?_
  rintro e w' ⟨rfl, hb'⟩
  obtain ⟨hc1, hf1⟩ := bcell hb'
  have hz1 : w.heap.size + 1 + 1 ≤ w'.heap.size := by have := hb'.size; simpa using this
  have HB1 := Lib.hid hb'
  clear hb'
  go_wp2_with fail
  refine (opened_any _ _ _ _ _ _ _ _).mono ?_
  rintro e w2 ⟨m, rfl, hb2, hm2, hms⟩
  obtain ⟨hc2, hf2⟩ := bcell hb2
  have hz2 : w.heap.size + 1 + 1 ≤ w2.heap.size := by have := hb2.size; omega
  have HB2 := Lib.hid (bb HB1.out hb2)
  have HM := Lib.hid hm2
  have hmz := blk_lt' hm2
  clear hb2 hm2
  go_wp2_with fail
  have hb3 := (Below.refl _ w2).alloc (Nat.le_refl _) (.cells #[.slice (some a) l.long.length c, .int .i64 l.size, .slice B l.knots.length d, .map (some m)] 75)
  refine (HR.out _ m (bb (bb hB HB2.out) hb3)).mono ?_
  rintro e w3 ⟨rfl, hb4⟩
  have hz3 : w2.heap.size + 1 ≤ w3.heap.size := by have := hb4.size; simpa using this
  have HB34 := Lib.hid (bb hb3 hb4)
  have HBX := Lib.hid hb4
  have HB3 := Lib.hid (bb (bb HB2.out hb3) hb4)
  clear hb3 hb4
  have b0 := (box_cell (by simpa using HBX.out) 0).trans rfl
  have b1 := (box_cell (by simpa using HBX.out) 1).trans rfl
  have b2 := (box_cell (by simpa using HBX.out) 2).trans rfl
  have b3 := (box_cell (by simpa using HBX.out) 3).trans rfl
  have hw3 := (HB3.out.block _ (by simp)).trans HX.out
  have q0 := (cell_of_row _ _ 0 _ _ _ hw3).trans rfl
  have q1 := (cell_of_row _ _ 1 _ _ _ hw3).trans rfl
  have q2 := (cell_of_row _ _ 2 _ _ _ hw3).trans rfl
  have q3 := (cell_of_row _ _ 3 _ _ _ hw3).trans rfl
  have r0 := frozen_of_row _ _ 0 _ _ hw3
  have r1 := frozen_of_row _ _ 1 _ _ hw3
  have r2 := frozen_of_row _ _ 2 _ _ hw3
  have r3 := frozen_of_row _ _ 3 _ _ hw3
  clear hw3
  go_wp2_with fail
  have h4 := heap_set4 ((HB3.out.block _ (by simp)).trans HX.out) (.slice (some a) l.long.length c) (.int .i64 l.size) (.slice B l.knots.length d) (.map (some m))
  have hM : ((((w3.setCell ⟨w.heap.size + 1, 0, none⟩ (.slice (some a) l.long.length c)).setCell ⟨w.heap.size + 1, 1, none⟩ (.int .i64 l.size)).setCell ⟨w.heap.size + 1, 2, none⟩ (.slice B l.knots.length d)).setCell ⟨w.heap.size + 1, 3, none⟩ (.map (some m))).heap[m]? = some (.map #[] 0) := by
    rw [Below.heap_setCell _ _ _ _ (by simp; omega), Below.heap_setCell _ _ _ _ (by simp; omega), Below.heap_setCell _ _ _ _ (by simp; omega), Below.heap_setCell _ _ _ _ (by simp; omega)]
    exact (HB34.out.block m hmz).trans HM.out
  exact bodyPost_ret (results_log rfl _ _ _ _ _ _ _ _ rfl rfl h4) rfl ⟨m, rfl, below_set4 (bb hB HB3.out) (by omega) _ _ _ _, hM, by omega⟩
end Go.Proofs.YtigofgdmefobaaaDoor.Peel
