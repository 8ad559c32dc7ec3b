/- The law's own small functions: equal lists; a number in bounds. -/
import Derived.Test.YtigofgdmefobaaaDoorLawA
set_option linter.unusedVariables false
set_option linter.unusedSimpArgs false
namespace Go.Proofs.YtigofgdmefobaaaDoor.Peel
open Go.RowKit Go.Proofs.YtigofgdmefobaaaDoor.Iter
attribute [local go_sem] Oper.semAt_some
def alikeB (xs ys : List Int) : Bool := decide (xs = ys)
theorem alike_upto (xs ys : List Int) (hl : xs.length = ys.length) (h : ∀ j, j < xs.length → xs.getD j 0 = ys.getD j 0) : xs = ys := by
  apply List.ext_getElem hl
  intro j h1 h2
  have := h j h1
  simpa [List.getD_eq_getElem?_getD, List.getElem?_eq_getElem h1, List.getElem?_eq_getElem h2] using this
theorem alike_any {w : World} {xs ys : List Int} {A C : Option Addr} {m n : Nat} (hA : CutAt w xs A m) (hC : CutAt w ys C n) :
    Calls Tryd.prog 32 #[.slice A xs.length m, .slice C ys.length n] w fun e w' => e = .returned (.bool (decide (xs = ys))) ∧ Below w.heap.size w w' := by
  have h1 := hA.len
  have h2 := hC.len
  have HA := Lib.hid hA
  have HC := Lib.hid hC
  clear hA hC
  by_cases hl : xs.length = ys.length
  · go_enter Tryd.func32, Tryd.ntmps32
    go_wp2_with fail
    go_loopw [5] (fun i wr => ∃ k : Nat, i = .int .i64 k ∧ k ≤ xs.length ∧ (∀ j, j < k → xs.getD j 0 = ys.getD j 0) ∧ Below w.heap.size w wr) (fun i _ => xs.length - (intOf i).toNat)
    case atStart => exact ⟨0, rfl, Nat.zero_le _, fun j hj => by omega, Below.refl _ _⟩
    case round =>
      obtain ⟨k, rfl, hk, hsame, hbr⟩ := hrel
      have HSAME := Lib.hid hsame
      have HBR := Lib.hid hbr
      clear hsame
      by_cases hlt : k < xs.length
      · obtain ⟨pa, rfl, hca⟩ := (HA.out.below hbr).at_ k hlt
        obtain ⟨pc, rfl, hcc⟩ := (HC.out.below hbr).at_ k (by omega)
        have HX := Lib.hid (show ∀ (a b : Int), a = xs.getD k 0 → b = ys.getD k 0 → a = b → ∀ j, j < k + 1 → xs.getD j 0 = ys.getD j 0 from fun a b ha hb hab j hj => by
          rcases Nat.lt_or_ge j k with h | h
          · exact HSAME.out j h
          · obtain rfl : j = k := by omega
            rw [← ha, ← hb, hab])
        have HN := Lib.hid (show ∀ (a b : Int), a = xs.getD k 0 → b = ys.getD k 0 → a ≠ b → xs ≠ ys from fun a b ha hb hab e => hab (by rw [ha, hb, e]))
        obtain ⟨x, hx⟩ : ∃ x, x = xs.getD k 0 := ⟨_, rfl⟩
        obtain ⟨y, hy⟩ : ∃ y, y = ys.getD k 0 := ⟨_, rfl⟩
        rw [← hx] at hca
        rw [← hy] at hcc
        have EX := Lib.hid hx
        have EY := Lib.hid hy
        clear hx hy hbr
        go_upto_region 6 with (fail)
        go_region_held3 (fun w' => w'.cell? (pa.add k) = some (.int .i64 x) ∧ w'.cell? (pc.add k) = some (.int .i64 y)) (go_keep) (fail)
        by_cases hxy : x = y
        · subst hxy
          have hs := HX.out _ _ EX.out EY.out rfl
          have HS := Lib.hid hs
          clear hs
          go_wp2_with fail
          go_roundw
          case rel => exact ⟨k + 1, by go_num, by omega, HS.out, HBR.out.drew⟩
          case measure => simp [intOf]; omega
        · have hne := HN.out _ _ EX.out EY.out hxy
          go_wp2_with fail
          go_ret
          exact ⟨by rw [decide_eq_false hne]; rfl, HBR.out.drew⟩
      · obtain rfl : k = xs.length := by omega
        have he := alike_upto xs ys hl HSAME.out
        go_wp2_with fail
        go_ret
        exact ⟨by rw [decide_eq_true he]; rfl, HBR.out⟩
  · have hne : xs ≠ ys := fun e => hl (by rw [e])
    have hne2 : (xs.length : Int) ≠ (ys.length : Int) := by omega
    go_enter Tryd.func32, Tryd.ntmps32
    go_wp2_with fail
    go_ret
    exact ⟨by rw [decide_eq_false hne]; rfl, Below.refl _ _⟩
theorem fits_any (n x y : Int) (w : World) :
    Calls Tryd.prog 46 #[.int .i64 n, .int .i64 x, .int .i64 y] w fun e w' => e = .returned (.bool (decide (x ≤ n ∧ n ≤ y))) ∧ w = w' := by
  by_cases h : x ≤ n
  · go_enter Tryd.func46, Tryd.ntmps46
    go_wp2
    go_ret
    exact ⟨by simp [h], rfl⟩
  · go_enter Tryd.func46, Tryd.ntmps46
    go_wp2
    go_ret
    exact ⟨by simp; omega, rfl⟩
end Go.Proofs.YtigofgdmefobaaaDoor.Peel
