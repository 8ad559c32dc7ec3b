/- Walks of package peel: small functions, closures, and how a log is asked. -/
import Derived.Test.YtigofgdmefobaaaDoorPeelC
import Derived.Test.YtigofgdmefobaaaDoorRib
import Derived.RangeFuncNested
set_option linter.unusedVariables false
set_option linter.unusedSimpArgs false
namespace Go.Proofs.YtigofgdmefobaaaDoor.Peel
open Go.RowKit

theorem in_any (n a b : Int) (w : World) :
    Calls Tryd.prog 59 #[.int .i64 n, .int .i64 a, .int .i64 b] w fun e w' => e = .returned (.bool (decide (a ≤ n ∧ n ≤ b))) ∧ w = w' := by
  by_cases h : a ≤ n
  · go_enter Tryd.func59, Tryd.ntmps59
    go_wp2
    go_ret
    exact ⟨by simp [h], rfl⟩
  · go_enter Tryd.func59, Tryd.ntmps59
    go_wp2
    go_ret
    exact ⟨by simp; omega, rfl⟩

/-- A new log in the calculation: its marks are a new, empty map. -/
def Opened (w : World) (v0 v1 v2 : Value) (e : Ending) (w' : World) : Prop :=
  ∃ m : Nat, e = .returned (.agg #[v0, v1, v2, .map (some m)]) ∧ Below w.heap.size w w' ∧ w'.heap[m]? = some (.map #[] 0) ∧ w.heap.size ≤ m
theorem opened_any (A B : Option Addr) (n c k d : Nat) (s : Int) (w : World) :
    Calls Tryd.prog 82 #[.agg #[.slice A n c, .int .i64 s, .slice B k d]] w (Opened w (.slice A n c) (.int .i64 s) (.slice B k d)) := by
  have hmm := @run_makeMap Tryd.prog
  go_enter Tryd.func82, Tryd.ntmps82
  go_wp2
  refine bodyPost_ret (v := .agg #[.slice A n c, .int .i64 s, .slice B k d, .map (some (w.heap.size + 1 + 1))]) (by simp [results, Tryd.results82, go_sem]) rfl ?_
  exact ⟨_, rfl, (((Below.refl _ _).alloc (Nat.le_refl _) _).alloc (by simp) _).alloc (by simp; omega) _, by have := heap_alloc_new ((w.alloc (.cells #[.slice A n c, .int .i64 s, .slice B k d] 25)).alloc (.cells #[.slice A n c, .int .i64 s, .slice B k d, .map (some (w.heap.size + 1 + 1))] 75)) (.map #[] 0); simpa using this, by omega⟩

theorem clean_any (w : World) :
    Calls Tryd.prog 90 #[] w fun e w' => e = .returned (.agg (rv none72)) ∧ Below w.heap.size w w' := by
  go_enter Tryd.func90, Tryd.ntmps90
  go_wp2_with (first | ((with_reducible refine gate_alloc 86 rfl ?_); refine ev_alloc_rib rfl rfl ?_) | ((with_reducible refine gate_load 86 rfl ?_); refine ev_load_rib rfl _ rfl _ rfl none72 (by simp only [heap_alloc_if, World.size_alloc, heap_drew, if_true]; repeat (first | rw [if_neg (by omega)] | rw [if_pos (by omega)])) ?_) | ((with_reducible refine gate_store 86 rfl ?_); refine ev_store_rib rfl rfl _ _ rfl _ rfl none72 none72 rfl (by simp only [heap_alloc_if, World.size_alloc, heap_drew, if_true]; repeat (first | rw [if_neg (by omega)] | rw [if_pos (by omega)])) ?_))
  have hg : (((w.alloc (.cells (rv none72) 86)).alloc (.cells (rv none72) 86)).setRow w.heap.size (rv none72)).heap[w.heap.size]? = some (.cells (rv none72) 86 (0, 0)) := by
    rw [heap_setRow_if _ _ (rv none72) _ 86 _ (by simp only [heap_alloc_if, World.size_alloc, heap_drew, if_true]; repeat (first | rw [if_neg (by omega)] | rw [if_pos (by omega)])), if_pos rfl]
  exact bodyPost_ret (results_cell_row rfl _ _ _ _ _ _ _ rfl hg undRib rfl (by rw [rv_size]; exact sizeRib)) rfl ⟨rfl, (((Below.refl _ _).alloc (Nat.le_refl _) _).alloc (by simp) _).trans ((only_setRow _ _ _).below (by simp))⟩
end Go.Proofs.YtigofgdmefobaaaDoor.Peel
