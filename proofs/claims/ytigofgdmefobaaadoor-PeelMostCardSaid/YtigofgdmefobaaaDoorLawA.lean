/- The law's own small functions: spans, the chapter's log, equal lists. -/
import Derived.Test.YtigofgdmefobaaaDoorPeelZ
set_option linter.unusedVariables false
set_option linter.unusedSimpArgs false
namespace Go.Proofs.YtigofgdmefobaaaDoor.Peel
open Go.RowKit Go.Proofs.YtigofgdmefobaaaDoor.Iter
attribute [local go_sem] Oper.semAt_some
theorem sp_any (x y : Int) (w : World) :
    Calls Tryd.prog 53 #[.int .i64 x, .int .i64 y] w fun e w' => e = .returned (.agg #[.int .i64 x, .int .i64 y]) ∧ Below w.heap.size w w' := by
  have hb := (Below.refl _ w).alloc (Nat.le_refl _) (.cells #[.int .i64 x, .int .i64 y] 39)
  go_enter Tryd.func53, Tryd.ntmps53
  go_wp2_with fail
  refine bodyPost_ret (v := .agg #[.int .i64 x, .int .i64 y]) (by simp [results, Tryd.results53, go_sem]) rfl ⟨rfl, hb⟩
theorem only_any (x : Int) (w : World) :
    Calls Tryd.prog 55 #[.int .i64 x] w fun e w' => e = .returned (.agg #[.int .i64 x, .int .i64 x]) ∧ Below w.heap.size w w' := by
  have hb := (Below.refl _ w).alloc (Nat.le_refl _) (.cells #[.int .i64 0, .int .i64 0] 39)
  have hz : w.heap.size < (w.alloc (.cells #[.int .i64 0, .int .i64 0] 39)).heap.size := by simp
  have HB := Lib.hid hb
  clear hb
  go_enter Tryd.func55, Tryd.ntmps55
  go_wp2_with fail
  refine (sp_any x x _).mono ?_
  rintro e w' ⟨rfl, hb'⟩
  obtain ⟨hc', hf'⟩ := bcell hb'
  have hz2 := hb'.size
  simp only [World.size_alloc] at hz2
  have HB2 := Lib.hid (bb HB.out hb')
  clear hb'
  go_wp2_with fail
  refine bodyPost_ret (v := .agg #[.int .i64 x, .int .i64 x]) (by simp [results, Tryd.results55, go_sem, hc', hz2]) rfl ⟨rfl, ?_⟩
  exact ((HB2.out).setCell (p := ⟨w.heap.size, 0, none⟩) (Nat.le_refl _) _).setCell (p := ⟨w.heap.size, 1, none⟩) (Nat.le_refl _) _
theorem results_log3 {fn : Func} {p : Tmp} (h : fn.results = #[.cell p 25]) (tmps : Array Value) (w : World) (g : Nat) (v0 v1 v2 : Value)
    (hp : tmps.getD p undef = .pointer (some ⟨g, 0, none⟩)) (hg : w.heap[g]? = some (.cells #[v0, v1, v2] 25 (0, 0))) :
    (results fn tmps).run Tryd.prog w = .ok (.agg #[v0, v1, v2]) w := by
  have hp' : tmps[p]?.getD undef = .pointer (some ⟨g, 0, none⟩) := by simpa using hp
  have c0 : w.cell? ⟨g, 0, none⟩ = some v0 := cell_row' (i := 0) hg rfl
  have c1 : w.cell? ⟨g, 1, none⟩ = some v1 := cell_row' (i := 1) hg rfl
  have c2 : w.cell? ⟨g, 2, none⟩ = some v2 := cell_row' (i := 2) hg rfl
  simp [results, h, go_sem, hp', c0, c1, c2]
/-- The chapter's log. -/
def logP : PL := ⟨[10, 9, 8], 3, [⟨⟨5, 7⟩, ⟨1, 1⟩⟩, ⟨⟨20, 20⟩, ⟨0, 1⟩⟩]⟩
theorem log_any (w : World) :
    Calls Tryd.prog 52 #[] w fun e w' => ∃ a b, e = .returned (.agg #[.slice (some a) 3 3, .int .i64 3, .slice (some b) 2 2]) ∧ RawAt w' logP (some a) (some b) 3 2 ∧ Below w.heap.size w w' := by
  have hb0 := ((Below.refl _ w).alloc (Nat.le_refl _) (.cells #[.slice none 0 0, .int .i64 0, .slice none 0 0] 25)).alloc (by simp) (.cells #[.int .i64 10, .int .i64 9, .int .i64 8] 3)
  have r0 : ((w.alloc (.cells #[.slice none 0 0, .int .i64 0, .slice none 0 0] 25)).alloc (.cells #[.int .i64 10, .int .i64 9, .int .i64 8] 3)).heap[w.heap.size]? = some (.cells #[.slice none 0 0, .int .i64 0, .slice none 0 0] 25 (0, 0)) := by (repeat (first | with_reducible assumption | with_reducible exact row_new | with_reducible refine row_drew ?_ | with_reducible apply row_same | with_reducible refine row_diff ?_ (by first | omega | (simp only [World.size_alloc, size_setRow, size_drew', World.size_setCell]; omega)) | with_reducible refine row_far ?_ (by (try dsimp only); first | omega | (simp only [World.size_alloc, size_setRow, size_drew', World.size_setCell]; omega)) | with_reducible refine row_new' (by first | (simp only [World.size_alloc, size_setRow, size_drew', World.size_setCell]; done) | omega | (simp only [World.size_alloc, size_setRow, size_drew', World.size_setCell]; omega)) | with_reducible refine row_old ?_ | with_reducible refine row_below (by assumption) ?_ (by first | omega | (simp only [World.size_alloc, size_setRow, size_drew', World.size_setCell]; omega))))
  have r1 : ((w.alloc (.cells #[.slice none 0 0, .int .i64 0, .slice none 0 0] 25)).alloc (.cells #[.int .i64 10, .int .i64 9, .int .i64 8] 3)).heap[w.heap.size + 1]? = some (.cells #[.int .i64 10, .int .i64 9, .int .i64 8] 3 (0, 0)) := by (repeat (first | with_reducible assumption | with_reducible exact row_new | with_reducible refine row_drew ?_ | with_reducible apply row_same | with_reducible refine row_diff ?_ (by first | omega | (simp only [World.size_alloc, size_setRow, size_drew', World.size_setCell]; omega)) | with_reducible refine row_far ?_ (by (try dsimp only); first | omega | (simp only [World.size_alloc, size_setRow, size_drew', World.size_setCell]; omega)) | with_reducible refine row_new' (by first | (simp only [World.size_alloc, size_setRow, size_drew', World.size_setCell]; done) | omega | (simp only [World.size_alloc, size_setRow, size_drew', World.size_setCell]; omega)) | with_reducible refine row_old ?_ | with_reducible refine row_below (by assumption) ?_ (by first | omega | (simp only [World.size_alloc, size_setRow, size_drew', World.size_setCell]; omega))))
  have HB0 := Lib.hid hb0
  have R0 := Lib.hid r0
  have R1 := Lib.hid r1
  clear hb0 r0 r1
  go_enter Tryd.func52, Tryd.ntmps52
  go_wp2_with fail
  refine (sp_any _ _ _).mono ?_
  rintro e w1 ⟨rfl, hb1⟩
  have HB1 := Lib.hid (bb HB0.out hb1)
  have R01 := Lib.hid (row_below hb1 R0.out (Array.getElem?_eq_some_iff.1 R0.out).1)
  have R11 := Lib.hid (row_below hb1 R1.out (Array.getElem?_eq_some_iff.1 R1.out).1)
  clear hb1
  go_wp2_with fail
  refine (only_any _ _).mono ?_
  rintro e w2 ⟨rfl, hb1⟩
  have HB2 := Lib.hid (bb HB1.out hb1)
  have R02 := Lib.hid (row_below hb1 R01.out (Array.getElem?_eq_some_iff.1 R01.out).1)
  have R12 := Lib.hid (row_below hb1 R11.out (Array.getElem?_eq_some_iff.1 R11.out).1)
  clear hb1
  go_wp2_with fail
  refine (only_any _ _).mono ?_
  rintro e w3 ⟨rfl, hb1⟩
  have HB3 := Lib.hid (bb HB2.out hb1)
  have R03 := Lib.hid (row_below hb1 R02.out (Array.getElem?_eq_some_iff.1 R02.out).1)
  have R13 := Lib.hid (row_below hb1 R12.out (Array.getElem?_eq_some_iff.1 R12.out).1)
  clear hb1
  go_wp2_with fail
  refine (sp_any _ _ _).mono ?_
  rintro e w4 ⟨rfl, hb1⟩
  have HB4 := Lib.hid (bb HB3.out hb1)
  have r0 := row_below hb1 R03.out (Array.getElem?_eq_some_iff.1 R03.out).1
  have R14 := Lib.hid (row_below hb1 R13.out (Array.getElem?_eq_some_iff.1 R13.out).1)
  have hlt : w.heap.size < w4.heap.size := (Array.getElem?_eq_some_iff.1 r0).1
  have hlt1 : w.heap.size + 1 < w4.heap.size := (Array.getElem?_eq_some_iff.1 R14.out).1
  have c0 : w4.cell? ⟨w.heap.size, 0, none⟩ = some (.slice none 0 0) := cell_row' (i := 0) r0 rfl
  have c1 : w4.cell? ⟨w.heap.size, 1, none⟩ = some (.int .i64 0) := cell_row' (i := 1) r0 rfl
  have c2 : w4.cell? ⟨w.heap.size, 2, none⟩ = some (.slice none 0 0) := cell_row' (i := 2) r0 rfl
  have f0 : ∀ j, w4.frozen? ⟨w.heap.size, j, none⟩ = false := fun j => frozen_of_row _ _ j _ _ r0
  have R04 := Lib.hid r0
  clear hb1 r0
  go_wp2_with fail
  obtain ⟨W5, hW5⟩ : ∃ W5, W5 = (((w4.setCell ⟨w.heap.size, 0, none⟩ (.slice (some ⟨w.heap.size + 1, 0, none⟩) 3 3)).setCell ⟨w.heap.size, 1, none⟩ (.int .i64 3)).setCell ⟨w.heap.size, 2, none⟩ (.slice (some ⟨w4.heap.size, 0, none⟩) 2 2)).alloc (.cells #[.int .i64 5, .int .i64 7, .int .i64 1, .int .i64 1, .int .i64 20, .int .i64 20, .int .i64 0, .int .i64 1] 61) := ⟨_, rfl⟩
  rw [← hW5]
  have k4 : W5.heap[w4.heap.size]? = some (.cells #[.int .i64 5, .int .i64 7, .int .i64 1, .int .i64 1, .int .i64 20, .int .i64 20, .int .i64 0, .int .i64 1] 61 (0, 0)) := by
    rw [hW5]; exact row_new' (by simp)
  have k1 : W5.heap[w.heap.size + 1]? = some (.cells #[.int .i64 10, .int .i64 9, .int .i64 8] 3 (0, 0)) := by
    rw [hW5]; refine row_old ?_; rw [heap_put (by dsimp only; omega), heap_put (by dsimp only; omega), heap_put (by dsimp only; omega)]; exact R14.out
  have k0 : W5.heap[w.heap.size]? = some (.cells #[.slice (some ⟨w.heap.size + 1, 0, none⟩) 3 3, .int .i64 3, .slice (some ⟨w4.heap.size, 0, none⟩) 2 2] 25 (0, 0)) := by
    rw [hW5]; exact row_old (blk_set (blk_set (blk_set R04.out 0 _) 1 _) 2 _)
  have hb5 : Below w.heap.size w W5 := by
    rw [hW5]
    have hb := HB4.out
    (repeat' (first | exact Below.refl _ _ | assumption | with_reducible refine bdrew ?_ | with_reducible refine balloc ?_ _ | with_reducible refine bset ?_ _ _ (by first | omega | (simp; done) | (simp; omega) | (dsimp only; omega)) | with_reducible refine bb ?_ (by assumption)))
  refine bodyPost_ret (results_log3 (p := 0) rfl _ _ w.heap.size _ _ _ rfl k0) rfl ⟨_, _, rfl, ⟨fun k hk => ⟨_, rfl, ?_⟩, fun k x hx => ⟨_, rfl, ?_⟩, by decide, by decide, by decide, by decide⟩, hb5⟩
  · simp only [Addr.add_lit, Nat.zero_add]
    exact cell_row' k1 (by
      have hk : k < 3 := hk
      rcases k with _ | _ | _ | k <;> first | rfl | omega)
  · simp only [Addr.add_lit, Nat.zero_add]
    rcases k with _ | _ | k
    · cases hx
      exact ⟨cell_row' k4 rfl, cell_row' k4 rfl, cell_row' k4 rfl, cell_row' k4 rfl⟩
    · cases hx
      exact ⟨cell_row' k4 rfl, cell_row' k4 rfl, cell_row' k4 rfl, cell_row' k4 rfl⟩
    · simp [logP] at hx
end Go.Proofs.YtigofgdmefobaaaDoor.Peel
