/- Walks of package peel: Ribbon, Column, IsCut. -/
import Derived.Test.YtigofgdmefobaaaDoorPeelH
set_option linter.unusedVariables false
set_option linter.unusedSimpArgs false
namespace Go.Proofs.YtigofgdmefobaaaDoor.Peel
open Go.RowKit
/-- The answers. -/
def ribbonS (l : PL) : Int × Int := if l.Ok then (l.all, 0) else (0, 10)
def columnS (l : PL) (t x : Int) : Int × Int := if l.Ok then (if (0 ≤ t ∧ t ≤ (l.long.length : Int) - 1) ∧ (0 ≤ x ∧ x ≤ 23) then (l.col t.toNat x, 0) else (0, 11)) else (0, 10)
def isCutS (l : PL) (cs : List Int) : Bool × Int := if l.Ok then (l.isCut 0 cs, 0) else (false, 10)

theorem ribbon_any {w : World} {l : PL} {A B : Option Addr} {c d : Nat} (h : RawAt w l A B c d) :
    Calls Tryd.prog 15 #[.agg #[.slice A l.long.length c, .int .i64 l.size, .slice B l.knots.length d]] w fun e w' => e = .returned (.tuple #[.int .i64 (ribbonS l).1, .int .i64 (ribbonS l).2]) ∧ Below w.heap.size w w' := by
  by_cases ok : l.Ok
  · obtain ⟨a, rfl, hl⟩ := h.at ok
    have hB := (Below.refl _ w).alloc (Nat.le_refl _) (.cells #[.slice (some a) l.long.length c, .int .i64 l.size, .slice B l.knots.length d] 25)
    have H := Lib.hid (hl.below hB)
    have HO := Lib.hid (show ribbonS l = (l.all, 0) from if_pos ok)
    clear h hl
    rw [HO.out]
    go_enter Tryd.func15, Tryd.ntmps15
    go_wp2_with fail
    refine (asked_yes H.out _ _ (anything_right _ l a B c d)).mono ?_
    rintro e w1 ⟨m, rfl, hb1, _, _⟩
    have hb2 := (Below.refl _ w1).alloc (Nat.le_refl _) (.cells #[.slice (some a) l.long.length c, .int .i64 l.size, .slice B l.knots.length d, .map (some m)] 75)
    have HL := Lib.hid ((H.out.below hb1).below hb2)
    have HB := Lib.hid (bb (bb hB hb1) hb2)
    clear hb1 hb2
    go_wp2_with fail
    refine (columns_any m HL.out).mono ?_
    rintro e w2 ⟨rfl, hb3⟩
    have HB3 := Lib.hid hb3
    clear hb3
    go_wp2_with fail
    go_ret2
    exact ⟨rfl, bb HB.out HB3.out⟩
  · have hB := (Below.refl _ w).alloc (Nat.le_refl _) (.cells #[.slice A l.long.length c, .int .i64 l.size, .slice B l.knots.length d] 25)
    have H := Lib.hid (h.below hB)
    have HO := Lib.hid (show ribbonS l = (0, 10) from if_neg ok)
    clear h
    rw [HO.out]
    go_enter Tryd.func15, Tryd.ntmps15
    go_wp2_with fail
    refine (asked_bad H.out _ _ ok).mono ?_
    rintro e w1 ⟨rfl, hb1⟩
    have HB := Lib.hid (bb hB hb1)
    clear hb1
    unfold zeroLog
    go_wp2_with fail
    go_ret2
    exact ⟨rfl, (HB.out.alloc HB.out.size _)⟩

theorem isCutApi_any {w : World} {l : PL} {A B : Option Addr} {c d : Nat} (h : RawAt w l A B c d) {cs : List Int} {C : Option Addr} {n : Nat} (hC : CutAt w cs C n) :
    Calls Tryd.prog 24 #[.agg #[.slice A l.long.length c, .int .i64 l.size, .slice B l.knots.length d], .slice C cs.length n] w fun e w' => e = .returned (.tuple #[.bool (isCutS l cs).1, .int .i64 (isCutS l cs).2]) ∧ Below w.heap.size w w' := by
  by_cases ok : l.Ok
  · obtain ⟨a, rfl, hl⟩ := h.at ok
    have hB := (Below.refl _ w).alloc (Nat.le_refl _) (.cells #[.slice (some a) l.long.length c, .int .i64 l.size, .slice B l.knots.length d] 25)
    have H := Lib.hid (hl.below hB)
    have HC := Lib.hid (hC.below hB)
    have HO := Lib.hid (show isCutS l cs = (l.isCut 0 cs, 0) from if_pos ok)
    clear h hl hC
    rw [HO.out]
    go_enter Tryd.func24, Tryd.ntmps24
    go_wp2_with fail
    refine (asked_yes H.out _ _ (anything_right _ l a B c d)).mono ?_
    rintro e w1 ⟨m, rfl, hb1, _, _⟩
    have hb2 := (Below.refl _ w1).alloc (Nat.le_refl _) (.cells #[.slice (some a) l.long.length c, .int .i64 l.size, .slice B l.knots.length d, .map (some m)] 75)
    have HL := Lib.hid ((H.out.below hb1).below hb2)
    have HC2 := Lib.hid ((HC.out.below hb1).below hb2)
    have HB := Lib.hid (bb (bb hB hb1) hb2)
    clear hb1 hb2
    go_wp2_with fail
    refine (isCut_any m HL.out HC2.out).mono ?_
    rintro e w2 ⟨rfl, hb3⟩
    have HB3 := Lib.hid hb3
    clear hb3
    go_wp2_with fail
    go_ret2
    exact ⟨rfl, bb HB.out HB3.out⟩
  · have hB := (Below.refl _ w).alloc (Nat.le_refl _) (.cells #[.slice A l.long.length c, .int .i64 l.size, .slice B l.knots.length d] 25)
    have H := Lib.hid (h.below hB)
    have HO := Lib.hid (show isCutS l cs = (false, 10) from if_neg ok)
    clear h
    rw [HO.out]
    go_enter Tryd.func24, Tryd.ntmps24
    go_wp2_with fail
    refine (asked_bad H.out _ _ ok).mono ?_
    rintro e w1 ⟨rfl, hb1⟩
    have HB := Lib.hid (bb hB hb1)
    clear hb1
    unfold zeroLog
    go_wp2_with fail
    go_ret2
    exact ⟨rfl, (HB.out.alloc HB.out.size _)⟩
theorem columnApi_any {w : World} {l : PL} {A B : Option Addr} {c d : Nat} (h : RawAt w l A B c d) (t x : Int) :
    Calls Tryd.prog 19 #[.agg #[.slice A l.long.length c, .int .i64 l.size, .slice B l.knots.length d], .int .i64 t, .int .i64 x] w fun e w' => e = .returned (.tuple #[.int .i64 (columnS l t x).1, .int .i64 (columnS l t x).2]) ∧ Below w.heap.size w w' := by
  by_cases ok : l.Ok
  · obtain ⟨a, rfl, hl⟩ := h.at ok
    have hB := (((Below.refl _ w).alloc (Nat.le_refl _) (.cells #[.slice (some a) l.long.length c, .int .i64 l.size, .slice B l.knots.length d] 25)).alloc (by simp) (.cells #[.int .i64 t] 3)).alloc (by simp; omega) (.cells #[.int .i64 x] 3)
    have H := Lib.hid (hl.below hB)
    have hg : (((w.alloc (.cells #[.slice (some a) l.long.length c, .int .i64 l.size, .slice B l.knots.length d] 25)).alloc (.cells #[.int .i64 t] 3)).alloc (.cells #[.int .i64 x] 3)).heap[w.heap.size + 1]? = some (.cells #[.int .i64 t] 3 (0, 0)) := (by simp only [heap_alloc_if, World.size_alloc, heap_drew, if_true]; repeat (first | rw [if_neg (by omega)] | rw [if_pos (by omega)]))
    have hk : (((w.alloc (.cells #[.slice (some a) l.long.length c, .int .i64 l.size, .slice B l.knots.length d] 25)).alloc (.cells #[.int .i64 t] 3)).alloc (.cells #[.int .i64 x] 3)).heap[w.heap.size + 1 + 1]? = some (.cells #[.int .i64 x] 3 (0, 0)) := (by simp only [heap_alloc_if, World.size_alloc, heap_drew, if_true]; repeat (first | rw [if_neg (by omega)] | rw [if_pos (by omega)]))
    have HR := Lib.hid (column_right H.out t x (w.heap.size + 1) (w.heap.size + 1 + 1) ((cell_of_row _ _ 0 _ _ _ hg).trans rfl) ((cell_of_row _ _ 0 _ _ _ hk).trans rfl))
    have HG := Lib.hid hg
    have HK := Lib.hid hk
    clear h hl hg hk
    by_cases hin : (0 ≤ t ∧ t ≤ (l.long.length : Int) - 1) ∧ (0 ≤ x ∧ x ≤ 23)
    · have HO := Lib.hid (show columnS l t x = (l.col t.toNat x, 0) by unfold columnS; rw [if_pos ok, if_pos hin])
      rw [HO.out]
      rw [decide_eq_true hin] at HR
      go_enter Tryd.func19, Tryd.ntmps19
      go_wp2_with fail
      refine (asked_yes H.out _ _ HR.out).mono ?_
      rintro e w1 ⟨m, rfl, hb1, _, _⟩
      have q1 : w1.cell? ⟨w.heap.size + 1, 0, none⟩ = some (.int .i64 t) := cell_below hb1 ((cell_of_row _ _ 0 _ _ _ HG.out).trans rfl)
      have q2 : w1.cell? ⟨w.heap.size + 1 + 1, 0, none⟩ = some (.int .i64 x) := cell_below hb1 ((cell_of_row _ _ 0 _ _ _ HK.out).trans rfl)
      have hz : w.heap.size + 1 + 1 + 1 ≤ w1.heap.size := by have := hb1.size; simpa using this
      have hz1 : w.heap.size + 1 < w1.heap.size := by omega
      have hz2 : w.heap.size + 1 + 1 < w1.heap.size := by omega
      have hb2 := (Below.refl _ w1).alloc (Nat.le_refl _) (.cells #[.slice (some a) l.long.length c, .int .i64 l.size, .slice B l.knots.length d, .map (some m)] 75)
      have HL := Lib.hid ((H.out.below hb1).below hb2)
      have HB := Lib.hid (bb (bb hB hb1) hb2)
      clear hb1 hb2
      go_wp2_with fail
      refine (column_any m HL.out t x hin.1.1 (by omega) hin.2.1 hin.2.2).mono ?_
      rintro e w2 ⟨rfl, hb3⟩
      have HB3 := Lib.hid hb3
      clear hb3
      go_wp2_with fail
      go_ret2
      exact ⟨rfl, bb HB.out HB3.out⟩
    · have HO := Lib.hid (show columnS l t x = (0, 11) by unfold columnS; rw [if_pos ok, if_neg hin])
      rw [HO.out]
      rw [decide_eq_false hin] at HR
      go_enter Tryd.func19, Tryd.ntmps19
      go_wp2_with fail
      refine (asked_no H.out _ _ HR.out).mono ?_
      rintro e w1 ⟨rfl, hb1⟩
      have HB := Lib.hid (bb hB hb1)
      clear hb1
      unfold zeroLog
      go_wp2_with fail
      go_ret2
      exact ⟨rfl, (HB.out.alloc HB.out.size _)⟩
  · have hB := (((Below.refl _ w).alloc (Nat.le_refl _) (.cells #[.slice A l.long.length c, .int .i64 l.size, .slice B l.knots.length d] 25)).alloc (by simp) (.cells #[.int .i64 t] 3)).alloc (by simp; omega) (.cells #[.int .i64 x] 3)
    have H := Lib.hid (h.below hB)
    have HO := Lib.hid (show columnS l t x = (0, 10) from if_neg ok)
    clear h
    rw [HO.out]
    go_enter Tryd.func19, Tryd.ntmps19
    go_wp2_with fail
    refine (asked_bad H.out _ _ ok).mono ?_
    rintro e w1 ⟨rfl, hb1⟩
    have HB := Lib.hid (bb hB hb1)
    clear hb1
    unfold zeroLog
    go_wp2_with fail
    go_ret2
    exact ⟨rfl, (HB.out.alloc HB.out.size _)⟩
end Go.Proofs.YtigofgdmefobaaaDoor.Peel
