/- A cutting that numbers choose; a list that comes before another one. -/
import Derived.Test.YtigofgdmefobaaaDoorMostP
import Derived.Test.YtigofgdmefobaaaDoorAskB
set_option linter.unusedVariables false
set_option linter.unusedSimpArgs false
namespace Go.Proofs.YtigofgdmefobaaaDoor.Peel
open Go.RowKit Go.Proofs.YtigofgdmefobaaaDoor.Iter
attribute [local go_sem] Oper.semAt_some
theorem earlier_no {w : World} {xs ys : List Int} {A C : Option Addr} {m n : Nat} (hA : CutAt w xs A m) (hC : CutAt w ys C n) (hl : xs.length = ys.length) (hle : ∀ i, i < xs.length → ys.getD i 0 ≤ xs.getD i 0) :
    Calls Tryd.prog 48 #[.slice A xs.length m, .slice C ys.length n] w fun e w' => e = .returned (.bool false) ∧ Below w.heap.size w w' := by
  have h1 := hA.len
  have h2 := hC.len
  have HA := Lib.hid hA
  have HC := Lib.hid hC
  have HLE := Lib.hid hle
  clear hA hC hle
  have hn : ¬ (xs.length : Int) < (ys.length : Int) := by omega
  go_enter Tryd.func48, Tryd.ntmps48
  go_wp2_with fail
  go_loopw [5] (fun i wr => ∃ k : Nat, i = .int .i64 k ∧ k ≤ xs.length ∧ Below w.heap.size w wr) (fun i _ => xs.length - (intOf i).toNat)
  case atStart => exact ⟨0, rfl, Nat.zero_le _, Below.refl _ _⟩
  case round =>
    obtain ⟨k, rfl, hk, hbr⟩ := hrel
    have HBR := Lib.hid hbr
    by_cases hlt : k < xs.length
    · have hlt2 : k < ys.length := by omega
      obtain ⟨pa, rfl, hca⟩ := (HA.out.below hbr).at_ k hlt
      obtain ⟨pc, rfl, hcc⟩ := (HC.out.below hbr).at_ k hlt2
      have hxy := HLE.out k hlt
      obtain ⟨x, hx⟩ : ∃ x, x = xs.getD k 0 := ⟨_, rfl⟩
      obtain ⟨y, hy⟩ : ∃ y, y = ys.getD k 0 := ⟨_, rfl⟩
      rw [← hx] at hca hxy
      rw [← hy] at hcc hxy
      clear hx hy hbr
      go_upto_region 4 with (fail)
      go_region_held3 (fun w' => w'.cell? (pa.add k) = some (.int .i64 x) ∧ w'.cell? (pc.add k) = some (.int .i64 y)) (go_keep) (fail)
      by_cases he : x = y
      · subst he
        go_wp2_with fail
        go_roundw
        case rel => exact ⟨k + 1, by go_num, by omega, HBR.out.drew⟩
        case measure => simp [intOf]; omega
      · have hnl : ¬ x < y := by omega
        have hd0 := cell_drew' hca
        have hd1 := cell_drew' hcc
        go_upto_region 5 with (fail)
        go_region_held3 (fun w' => w'.cell? (pa.add k) = some (.int .i64 x) ∧ w'.cell? (pc.add k) = some (.int .i64 y)) (go_keep) (fail)
        go_wp2_with fail
        go_ret
        exact ⟨rfl, HBR.out.drew.drew⟩
    · obtain rfl : k = xs.length := by omega
      go_wp2_with fail
      go_ret
      exact ⟨rfl, HBR.out⟩
end Go.Proofs.YtigofgdmefobaaaDoor.Peel
