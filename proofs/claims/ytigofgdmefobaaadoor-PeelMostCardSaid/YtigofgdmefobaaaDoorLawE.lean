/- The law's own small functions: sums, numbers in a ring, spans in bounds. -/
import Derived.Test.YtigofgdmefobaaaDoorLawB
set_option linter.unusedVariables false
set_option linter.unusedSimpArgs false
namespace Go.Proofs.YtigofgdmefobaaaDoor.Peel
open Go.RowKit Go.Proofs.YtigofgdmefobaaaDoor.Iter
attribute [local go_sem] Oper.semAt_some
theorem right_yes {w : World} (x y lo hi : Int) (h1 : lo ≤ x) (h2 : x ≤ y) (h3 : y ≤ hi) :
    Calls Tryd.prog 61 #[.agg #[.int .i64 x, .int .i64 y], .int .i64 lo, .int .i64 hi] w fun e w' => e = .returned (.bool true) ∧ Below w.heap.size w w' := by
  have hb := (Below.refl _ w).alloc (Nat.le_refl _) (.cells #[.int .i64 x, .int .i64 y] 39)
  go_enter Tryd.func61, Tryd.ntmps61
  go_wp2_with fail
  go_ret
  exact ⟨by simp [h1, h2, h3], hb⟩
theorem spin_any (n m : Int) (w : World) (h1 : 1 ≤ m) (h2 : m ≤ 1000000) :
    Calls Tryd.prog 49 #[.int .i64 n, .int .i64 m] w fun e w' => (∃ k, e = .returned (.int .i64 k) ∧ 0 ≤ k ∧ k < m) ∧ w = w' := by
  have hr0 : n.tmod m < m := Int.tmod_lt_of_pos n (by omega)
  have hr1 : -m < n.tmod m := by
    rcases Int.le_total 0 n with h | h
    · have := Int.tmod_nonneg m h
      omega
    · have e : n.tmod m = -((-n).tmod m) := by rw [Int.neg_tmod]; omega
      have := Int.tmod_lt_of_pos (-n) (show 0 < m by omega)
      omega
  have hw2 : wrap64 (n.tmod m + m) = n.tmod m + m := by unfold wrap64; omega
  have hm0 : ¬ m < 1 := by omega
  have hmne : m ≠ 0 := by omega
  by_cases hr : n.tmod m < 0
  · go_enter Tryd.func49, Tryd.ntmps49
    go_wp2_with fail
    go_ret
    exact ⟨⟨_, rfl, by omega, by omega⟩, rfl⟩
  · go_enter Tryd.func49, Tryd.ntmps49
    go_wp2_with fail
    go_ret
    exact ⟨⟨_, rfl, by omega, by omega⟩, rfl⟩
theorem total_any {w : World} {cs : List Int} {C : Option Addr} {n : Nat} (hC : CutAt w cs C n) (hb : ∀ k, k ≤ cs.length → -1000000 ≤ sumTo cs k ∧ sumTo cs k ≤ 1000000) :
    Calls Tryd.prog 47 #[.slice C cs.length n] w fun e w' => e = .returned (.int .i64 cs.sum) ∧ Below w.heap.size w w' := by
  have h1 := hC.len
  have HC := Lib.hid hC
  have HBD := Lib.hid hb
  clear hC hb
  go_enter Tryd.func47, Tryd.ntmps47
  go_wp2_with fail
  go_loopw [3, 4] (fun s i wr => ∃ k : Nat, i = .int .i64 k ∧ k ≤ cs.length ∧ s = .int .i64 (sumTo cs k) ∧ wr = w) (fun _ i _ => cs.length - (intOf i).toNat)
  case atStart => exact ⟨0, rfl, Nat.zero_le _, by rw [sumTo_zero], by simp⟩
  case round =>
    obtain ⟨k, rfl, hk, rfl, rfl⟩ := hrel
    by_cases hlt : k < cs.length
    · obtain ⟨pa, rfl, hca⟩ := HC.out.at_ k hlt
      have hs := sumTo_succ cs k hlt
      have hb := HBD.out (k + 1) hlt
      have HS := Lib.hid hs
      rw [hs] at hb
      have hw : IntKind.i64.wrap (sumTo cs k + cs.getD k 0) = sumTo cs k + cs.getD k 0 := IntWalk.i64_in _ (by omega)
      clear hs
      generalize cs.getD k 0 = x at *
      go_wp2_with fail
      go_roundw
      case rel => exact ⟨k + 1, by go_num, by omega, by rw [HS.out], by simp⟩
      case measure => simp [intOf]; omega
    · obtain rfl : k = cs.length := by omega
      go_wp2_with fail
      go_ret
      exact ⟨by rw [sumTo_all]; rfl, Below.refl _ _⟩
end Go.Proofs.YtigofgdmefobaaaDoor.Peel
