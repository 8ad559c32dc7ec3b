/- The laws' own small functions, and the chapter's examples. -/
import Derived.Test.YtigofgdmefobaaaDoorG4
/- The law's own small functions: spans, the chapter's log, equal lists. -/
set_option linter.unusedVariables false
set_option linter.unusedSimpArgs false
namespace Go.Proofs.YtigofgdmefobaaaDoor.Peel
open Go.RowKit Go.Proofs.YtigofgdmefobaaaDoor.Iter
attribute [local go_sem] Oper.semAt_some
theorem sp_any (x y : Int) (w : World) :
    Calls Tryd.prog 53 #[.int .i64 x, .int .i64 y] w fun e w' => e = .returned (.agg #[.int .i64 x, .int .i64 y]) ∧ Below w.heap.size w w' := by
  have hb := (Below.refl _ w).alloc (Nat.le_refl _) (.cells #[.int .i64 x, .int .i64 y] 39)
  go_enter Tryd.func53, Tryd.ntmps53
  go_wp2_with fail
  refine bodyPost_ret (v := .agg #[.int .i64 x, .int .i64 y]) (by simp [results, Tryd.results53, go_sem]) rfl ⟨rfl, hb⟩
theorem only_any (x : Int) (w : World) :
    Calls Tryd.prog 55 #[.int .i64 x] w fun e w' => e = .returned (.agg #[.int .i64 x, .int .i64 x]) ∧ Below w.heap.size w w' := by
  have hb := (Below.refl _ w).alloc (Nat.le_refl _) (.cells #[.int .i64 0, .int .i64 0] 39)
  have hz : w.heap.size < (w.alloc (.cells #[.int .i64 0, .int .i64 0] 39)).heap.size := by simp
  have HB := Lib.hid hb
  clear hb
  go_enter Tryd.func55, Tryd.ntmps55
  go_wp2_with fail
  refine (sp_any x x _).mono ?_
  rintro e w' ⟨rfl, hb'⟩
  obtain ⟨hc', hf'⟩ := bcell hb'
  have hz2 := hb'.size
  simp only [World.size_alloc] at hz2
  have HB2 := Lib.hid (bb HB.out hb')
  clear hb'
  go_wp2_with fail
  refine bodyPost_ret (v := .agg #[.int .i64 x, .int .i64 x]) (by simp [results, Tryd.results55, go_sem, hc', hz2]) rfl ⟨rfl, ?_⟩
  exact ((HB2.out).setCell (p := ⟨w.heap.size, 0, none⟩) (Nat.le_refl _) _).setCell (p := ⟨w.heap.size, 1, none⟩) (Nat.le_refl _) _
theorem results_log3 {fn : Func} {p : Tmp} (h : fn.results = #[.cell p 25]) (tmps : Array Value) (w : World) (g : Nat) (v0 v1 v2 : Value)
    (hp : tmps.getD p undef = .pointer (some ⟨g, 0, none⟩)) (hg : w.heap[g]? = some (.cells #[v0, v1, v2] 25 (0, 0))) :
    (results fn tmps).run Tryd.prog w = .ok (.agg #[v0, v1, v2]) w := by
  have hp' : tmps[p]?.getD undef = .pointer (some ⟨g, 0, none⟩) := by simpa using hp
  have c0 : w.cell? ⟨g, 0, none⟩ = some v0 := cell_row' (i := 0) hg rfl
  have c1 : w.cell? ⟨g, 1, none⟩ = some v1 := cell_row' (i := 1) hg rfl
  have c2 : w.cell? ⟨g, 2, none⟩ = some v2 := cell_row' (i := 2) hg rfl
  simp [results, h, go_sem, hp', c0, c1, c2]
/-- The chapter's log. -/
def logP : PL := ⟨[10, 9, 8], 3, [⟨⟨5, 7⟩, ⟨1, 1⟩⟩, ⟨⟨20, 20⟩, ⟨0, 1⟩⟩]⟩
theorem log_any (w : World) :
    Calls Tryd.prog 52 #[] w fun e w' => ∃ a b, e = .returned (.agg #[.slice (some a) 3 3, .int .i64 3, .slice (some b) 2 2]) ∧ RawAt w' logP (some a) (some b) 3 2 ∧ Below w.heap.size w w' := by
  have hb0 := ((Below.refl _ w).alloc (Nat.le_refl _) (.cells #[.slice none 0 0, .int .i64 0, .slice none 0 0] 25)).alloc (by simp) (.cells #[.int .i64 10, .int .i64 9, .int .i64 8] 3)
  have r0 : ((w.alloc (.cells #[.slice none 0 0, .int .i64 0, .slice none 0 0] 25)).alloc (.cells #[.int .i64 10, .int .i64 9, .int .i64 8] 3)).heap[w.heap.size]? = some (.cells #[.slice none 0 0, .int .i64 0, .slice none 0 0] 25 (0, 0)) := by exact rowt_
  have r1 : ((w.alloc (.cells #[.slice none 0 0, .int .i64 0, .slice none 0 0] 25)).alloc (.cells #[.int .i64 10, .int .i64 9, .int .i64 8] 3)).heap[w.heap.size + 1]? = some (.cells #[.int .i64 10, .int .i64 9, .int .i64 8] 3 (0, 0)) := by exact rowt_
  have HB0 := Lib.hid hb0
  have R0 := Lib.hid r0
  have R1 := Lib.hid r1
  clear hb0 r0 r1
  go_enter Tryd.func52, Tryd.ntmps52
  go_wp2_with fail
  refine (sp_any _ _ _).mono ?_
  rintro e w1 ⟨rfl, hb1⟩
  have HB1 := Lib.hid (bb HB0.out hb1)
  have R01 := Lib.hid (row_below hb1 R0.out (Array.getElem?_eq_some_iff.1 R0.out).1)
  have R11 := Lib.hid (row_below hb1 R1.out (Array.getElem?_eq_some_iff.1 R1.out).1)
  clear hb1
  go_wp2_with fail
  refine (only_any _ _).mono ?_
  rintro e w2 ⟨rfl, hb1⟩
  have HB2 := Lib.hid (bb HB1.out hb1)
  have R02 := Lib.hid (row_below hb1 R01.out (Array.getElem?_eq_some_iff.1 R01.out).1)
  have R12 := Lib.hid (row_below hb1 R11.out (Array.getElem?_eq_some_iff.1 R11.out).1)
  clear hb1
  go_wp2_with fail
  refine (only_any _ _).mono ?_
  rintro e w3 ⟨rfl, hb1⟩
  have HB3 := Lib.hid (bb HB2.out hb1)
  have R03 := Lib.hid (row_below hb1 R02.out (Array.getElem?_eq_some_iff.1 R02.out).1)
  have R13 := Lib.hid (row_below hb1 R12.out (Array.getElem?_eq_some_iff.1 R12.out).1)
  clear hb1
  go_wp2_with fail
  refine (sp_any _ _ _).mono ?_
  rintro e w4 ⟨rfl, hb1⟩
  have HB4 := Lib.hid (bb HB3.out hb1)
  have r0 := row_below hb1 R03.out (Array.getElem?_eq_some_iff.1 R03.out).1
  have R14 := Lib.hid (row_below hb1 R13.out (Array.getElem?_eq_some_iff.1 R13.out).1)
  have hlt : w.heap.size < w4.heap.size := (Array.getElem?_eq_some_iff.1 r0).1
  have hlt1 : w.heap.size + 1 < w4.heap.size := (Array.getElem?_eq_some_iff.1 R14.out).1
  have c0 : w4.cell? ⟨w.heap.size, 0, none⟩ = some (.slice none 0 0) := cell_row' (i := 0) r0 rfl
  have c1 : w4.cell? ⟨w.heap.size, 1, none⟩ = some (.int .i64 0) := cell_row' (i := 1) r0 rfl
  have c2 : w4.cell? ⟨w.heap.size, 2, none⟩ = some (.slice none 0 0) := cell_row' (i := 2) r0 rfl
  have f0 : ∀ j, w4.frozen? ⟨w.heap.size, j, none⟩ = false := fun j => frozen_of_row _ _ j _ _ r0
  have R04 := Lib.hid r0
  clear hb1 r0
  go_wp2_with fail
  obtain ⟨W5, hW5⟩ : ∃ W5, W5 = (((w4.setCell ⟨w.heap.size, 0, none⟩ (.slice (some ⟨w.heap.size + 1, 0, none⟩) 3 3)).setCell ⟨w.heap.size, 1, none⟩ (.int .i64 3)).setCell ⟨w.heap.size, 2, none⟩ (.slice (some ⟨w4.heap.size, 0, none⟩) 2 2)).alloc (.cells #[.int .i64 5, .int .i64 7, .int .i64 1, .int .i64 1, .int .i64 20, .int .i64 20, .int .i64 0, .int .i64 1] 61) := ⟨_, rfl⟩
  rw [← hW5]
  have k4 : W5.heap[w4.heap.size]? = some (.cells #[.int .i64 5, .int .i64 7, .int .i64 1, .int .i64 1, .int .i64 20, .int .i64 20, .int .i64 0, .int .i64 1] 61 (0, 0)) := by
    rw [hW5]; exact row_new' (by simp)
  have k1 : W5.heap[w.heap.size + 1]? = some (.cells #[.int .i64 10, .int .i64 9, .int .i64 8] 3 (0, 0)) := by
    rw [hW5]; refine row_old ?_; rw [heap_put (by dsimp only; omega), heap_put (by dsimp only; omega), heap_put (by dsimp only; omega)]; exact R14.out
  have k0 : W5.heap[w.heap.size]? = some (.cells #[.slice (some ⟨w.heap.size + 1, 0, none⟩) 3 3, .int .i64 3, .slice (some ⟨w4.heap.size, 0, none⟩) 2 2] 25 (0, 0)) := by
    rw [hW5]; exact row_old (blk_set (blk_set (blk_set R04.out 0 _) 1 _) 2 _)
  have hb5 : Below w.heap.size w W5 := by
    rw [hW5]
    have hb := HB4.out
    (repeat' (first | exact Below.refl _ _ | assumption | with_reducible refine bdrew ?_ | with_reducible refine balloc ?_ _ | with_reducible refine bset ?_ _ _ (by first | omega | (simp; done) | (simp; omega) | (dsimp only; omega)) | with_reducible refine bb ?_ (by assumption)))
  refine bodyPost_ret (results_log3 (p := 0) rfl _ _ w.heap.size _ _ _ rfl k0) rfl ⟨_, _, rfl, ⟨fun k hk => ⟨_, rfl, ?_⟩, fun k x hx => ⟨_, rfl, ?_⟩, by decide, by decide, by decide, by decide⟩, hb5⟩
  · simp only [Addr.add_lit, Nat.zero_add]
    exact cell_row' k1 (by
      have hk : k < 3 := hk
      rcases k with _ | _ | _ | k <;> first | rfl | omega)
  · simp only [Addr.add_lit, Nat.zero_add]
    rcases k with _ | _ | k
    · cases hx
      exact ⟨cell_row' k4 rfl, cell_row' k4 rfl, cell_row' k4 rfl, cell_row' k4 rfl⟩
    · cases hx
      exact ⟨cell_row' k4 rfl, cell_row' k4 rfl, cell_row' k4 rfl, cell_row' k4 rfl⟩
    · simp [logP] at hx
end Go.Proofs.YtigofgdmefobaaaDoor.Peel

/- The law's own small functions: equal lists; a number in bounds. -/
set_option linter.unusedVariables false
set_option linter.unusedSimpArgs false
namespace Go.Proofs.YtigofgdmefobaaaDoor.Peel
open Go.RowKit Go.Proofs.YtigofgdmefobaaaDoor.Iter
attribute [local go_sem] Oper.semAt_some
def alikeB (xs ys : List Int) : Bool := decide (xs = ys)
theorem alike_upto (xs ys : List Int) (hl : xs.length = ys.length) (h : ∀ j, j < xs.length → xs.getD j 0 = ys.getD j 0) : xs = ys := by
  apply List.ext_getElem hl
  intro j h1 h2
  have := h j h1
  simpa [List.getD_eq_getElem?_getD, List.getElem?_eq_getElem h1, List.getElem?_eq_getElem h2] using this
theorem alike_any {w : World} {xs ys : List Int} {A C : Option Addr} {m n : Nat} (hA : CutAt w xs A m) (hC : CutAt w ys C n) :
    Calls Tryd.prog 32 #[.slice A xs.length m, .slice C ys.length n] w fun e w' => e = .returned (.bool (decide (xs = ys))) ∧ Below w.heap.size w w' := by
  have h1 := hA.len
  have h2 := hC.len
  have HA := Lib.hid hA
  have HC := Lib.hid hC
  clear hA hC
  by_cases hl : xs.length = ys.length
  · go_enter Tryd.func32, Tryd.ntmps32
    go_wp2_with fail
    go_loopw [5] (fun i wr => ∃ k : Nat, i = .int .i64 k ∧ k ≤ xs.length ∧ (∀ j, j < k → xs.getD j 0 = ys.getD j 0) ∧ Below w.heap.size w wr) (fun i _ => xs.length - (intOf i).toNat)
    case atStart => exact ⟨0, rfl, Nat.zero_le _, fun j hj => by omega, Below.refl _ _⟩
    case round =>
      obtain ⟨k, rfl, hk, hsame, hbr⟩ := hrel
      have HSAME := Lib.hid hsame
      have HBR := Lib.hid hbr
      clear hsame
      by_cases hlt : k < xs.length
      · obtain ⟨pa, rfl, hca⟩ := (HA.out.below hbr).at_ k hlt
        obtain ⟨pc, rfl, hcc⟩ := (HC.out.below hbr).at_ k (by omega)
        have HX := Lib.hid (show ∀ (a b : Int), a = xs.getD k 0 → b = ys.getD k 0 → a = b → ∀ j, j < k + 1 → xs.getD j 0 = ys.getD j 0 from fun a b ha hb hab j hj => by
          rcases Nat.lt_or_ge j k with h | h
          · exact HSAME.out j h
          · obtain rfl : j = k := by omega
            rw [← ha, ← hb, hab])
        have HN := Lib.hid (show ∀ (a b : Int), a = xs.getD k 0 → b = ys.getD k 0 → a ≠ b → xs ≠ ys from fun a b ha hb hab e => hab (by rw [ha, hb, e]))
        obtain ⟨x, hx⟩ : ∃ x, x = xs.getD k 0 := ⟨_, rfl⟩
        obtain ⟨y, hy⟩ : ∃ y, y = ys.getD k 0 := ⟨_, rfl⟩
        rw [← hx] at hca
        rw [← hy] at hcc
        have EX := Lib.hid hx
        have EY := Lib.hid hy
        clear hx hy hbr
        go_upto_region 6 with (fail)
        go_region_held3 (fun w' => w'.cell? (pa.add k) = some (.int .i64 x) ∧ w'.cell? (pc.add k) = some (.int .i64 y)) (go_keep) (fail)
        by_cases hxy : x = y
        · subst hxy
          have hs := HX.out _ _ EX.out EY.out rfl
          have HS := Lib.hid hs
          clear hs
          go_wp2_with fail
          go_roundw
          case rel => exact ⟨k + 1, by go_num, by omega, HS.out, HBR.out.drew⟩
          case measure => simp [intOf]; omega
        · have hne := HN.out _ _ EX.out EY.out hxy
          go_wp2_with fail
          go_ret
          exact ⟨by rw [decide_eq_false hne]; rfl, HBR.out.drew⟩
      · obtain rfl : k = xs.length := by omega
        have he := alike_upto xs ys hl HSAME.out
        go_wp2_with fail
        go_ret
        exact ⟨by rw [decide_eq_true he]; rfl, HBR.out⟩
  · have hne : xs ≠ ys := fun e => hl (by rw [e])
    have hne2 : (xs.length : Int) ≠ (ys.length : Int) := by omega
    go_enter Tryd.func32, Tryd.ntmps32
    go_wp2_with fail
    go_ret
    exact ⟨by rw [decide_eq_false hne]; rfl, Below.refl _ _⟩
theorem fits_any (n x y : Int) (w : World) :
    Calls Tryd.prog 46 #[.int .i64 n, .int .i64 x, .int .i64 y] w fun e w' => e = .returned (.bool (decide (x ≤ n ∧ n ≤ y))) ∧ w = w' := by
  by_cases h : x ≤ n
  · go_enter Tryd.func46, Tryd.ntmps46
    go_wp2
    go_ret
    exact ⟨by simp [h], rfl⟩
  · go_enter Tryd.func46, Tryd.ntmps46
    go_wp2
    go_ret
    exact ⟨by simp; omega, rfl⟩
end Go.Proofs.YtigofgdmefobaaaDoor.Peel

/- The chapter's examples: what each function answers of the chapter's log. -/
set_option linter.unusedVariables false
set_option linter.unusedSimpArgs false
namespace Go.Proofs.YtigofgdmefobaaaDoor.Peel
open Go.RowKit Go.Proofs.YtigofgdmefobaaaDoor.Iter
attribute [local go_sem] Oper.semAt_some
theorem exOk : logP.Ok := by decide
theorem exColumn : columnS logP 1 7 = (12, 0) := by decide +kernel
theorem exKnotty : knottyS logP 17 = (2, 0) := by decide +kernel
theorem exWhole : wholeS logP [0, 3, 6, 9] = ((2, 4), 0) := by decide +kernel
theorem exBest : bestS logP = ([0, 3, 13, 22], 0) := by decide +kernel
theorem exWaste : wasteS logP = (15, 0) := by decide +kernel
theorem exHope : hopeS logP = (7, 0) := by decide +kernel
theorem exSure : sureS logP [0, 3, 6, 9] = (2, 0) := by decide +kernel
theorem exAsk : askS logP = (0, 0) := by decide +kernel
theorem exIsCut : isCutS logP [24] = (true, 0) := by decide +kernel
theorem exRibbon : ribbonS logP = (27, 0) := by decide +kernel
end Go.Proofs.YtigofgdmefobaaaDoor.Peel

/- The chapter's examples hold. -/
set_option linter.unusedVariables false
set_option linter.unusedSimpArgs false
namespace Go.Proofs.YtigofgdmefobaaaDoor.Peel
open Go.RowKit Go.Proofs.YtigofgdmefobaaaDoor.Iter
attribute [local go_sem] Oper.semAt_some
theorem cutAt_row {w : World} {cs : List Int} {g : Nat} {t : TypeId} (h : w.heap[g]? = some (.cells (cs.map (Value.int .i64)).toArray t (0, 0))) (hl : cs.length ≤ 4611686018427387904) : CutAt w cs (some ⟨g, 0, none⟩) cs.length where
  at_ := fun k hk => ⟨_, rfl, by
    simp only [Addr.add_lit, Nat.zero_add]
    exact cell_row' h (by simp [List.getD_eq_getElem?_getD, hk])⟩
  cap := Nat.le_refl _
  len := hl
set_option maxRecDepth 8000 in
set_option maxHeartbeats 4000000 in
theorem peeled_any {w : World} (he : EndsAt w) : Calls Tryd.prog 23 #[] w fun e w' => e = .returned (.bool true) ∧ Below w.heap.size w w' := by
  have HB0 := Lib.hid (Below.refl w.heap.size w)
  have HE0 := Lib.hid he
  clear he
  go_enter Tryd.func23, Tryd.ntmps23
  go_wp2_with fail
  refine (log_any _).mono ?_
  rintro e v1 ⟨a1, b1, rfl, hraw, hb⟩
  have HB1 := Lib.hid (bb HB0.out hb)
  have HE1 := Lib.hid (HE0.out.below hb)
  have HR1 := Lib.hid hraw
  clear hraw hb
  go_wp2_with fail
  have hc := columnApi_any (l := logP) HR1.out 1 7
  rw [exColumn] at hc
  refine hc.mono ?_
  clear hc
  rintro e v2 ⟨rfl, hb⟩
  have HB2 := Lib.hid (bb HB1.out hb)
  have HE2 := Lib.hid (HE1.out.below hb)
  clear hb
  go_wp2_with fail
  refine (log_any _).mono ?_
  rintro e v3 ⟨a3, b3, rfl, hraw, hb⟩
  have HB3 := Lib.hid (bb HB2.out hb)
  have HE3 := Lib.hid (HE2.out.below hb)
  have HR3 := Lib.hid hraw
  clear hraw hb
  go_wp2_with fail
  have hc := knotty_any (l := logP) HR3.out HE3.out 17
  rw [exKnotty] at hc
  refine hc.mono ?_
  clear hc
  rintro e v4 ⟨rfl, hb⟩
  have HB4 := Lib.hid (bb HB3.out hb)
  have HE4 := Lib.hid (HE3.out.below hb)
  clear hb
  go_wp2_with fail
  refine (log_any _).mono ?_
  rintro e v5 ⟨a5, b5, rfl, hraw, hb⟩
  have HB5 := Lib.hid (bb HB4.out hb)
  have HE5 := Lib.hid (HE4.out.below hb)
  have HR5 := Lib.hid hraw
  clear hraw hb
  have hba := (Below.refl _ v5).alloc (Nat.le_refl _) (.cells #[.int .i64 0, .int .i64 3, .int .i64 6, .int .i64 9] 3)
  have HBA := Lib.hid (bb HB5.out hba)
  have HEA := Lib.hid (HE5.out.below hba)
  have HRA := Lib.hid (HR5.out.below hba)
  have HCA := Lib.hid (show CutAt (v5.alloc (.cells #[.int .i64 0, .int .i64 3, .int .i64 6, .int .i64 9] 3)) [0, 3, 6, 9] (some ⟨v5.heap.size, 0, none⟩) 4 from cutAt_row (cs := [0, 3, 6, 9]) row_new (by decide))
  clear hba
  go_wp2_with fail
  have hc := whole_api (l := logP) HRA.out HEA.out HCA.out
  rw [exWhole] at hc
  refine hc.mono ?_
  clear hc
  rintro e v6 ⟨rfl, hb⟩
  have HB6 := Lib.hid (bb HBA.out hb)
  have HE6 := Lib.hid (HEA.out.below hb)
  clear hb
  have hba := (Below.refl _ v6).alloc (Nat.le_refl _) (.cells #[.int .i64 2, .int .i64 4] 39)
  have hsp : (v6.alloc (.cells #[.int .i64 2, .int .i64 4] 39)).heap[v6.heap.size]? = some (.cells #[.int .i64 2, .int .i64 4] 39 (0, 0)) := row_new
  have HT0 := Lib.hid hsp
  have HBs := Lib.hid (bb HB6.out hba)
  have HEs := Lib.hid (HE6.out.below hba)
  clear hba hsp
  go_upto_region 4 with (fail)
  obtain ⟨vs, hvs⟩ : ∃ vs, vs = v6.alloc (.cells #[.int .i64 2, .int .i64 4] 39) := ⟨_, rfl⟩
  rw [← hvs] at HT0 HBs HEs ⊢
  clear hvs
  have HT := Lib.hid HT0.out
  go_wp2_with fail
  refine (log_any _).mono ?_
  rintro e v7 ⟨a7, b7, rfl, hraw, hb⟩
  have HB7 := Lib.hid (bb HBs.out hb)
  have HE7 := Lib.hid (HEs.out.below hb)
  have HR7 := Lib.hid hraw
  have HT := Lib.hid (row_below hb HT.out (Array.getElem?_eq_some_iff.1 HT.out).1)
  clear hraw hb
  go_wp2_with fail
  have hc := best_any (l := logP) HR7.out HE7.out
  rw [exBest] at hc
  refine hc.mono ?_
  clear hc
  rintro e v8 ⟨ao, rfl, hb, hcut⟩
  have HB8 := Lib.hid (bb HB7.out hb)
  have HE8 := Lib.hid (HE7.out.below hb)
  have HT := Lib.hid (row_below hb HT.out (Array.getElem?_eq_some_iff.1 HT.out).1)
  have HC := Lib.hid hcut
  clear hcut
  clear hb
  go_upto_region 5 with (fail)
  have t0 : v8.cell? ⟨v6.heap.size, 0, none⟩ = some (.int .i64 2) := cell_row' (i := 0) HT.out rfl
  have t1 : v8.cell? ⟨v6.heap.size, 1, none⟩ = some (.int .i64 4) := cell_row' (i := 1) HT.out rfl
  go_region_held3 (fun w' => w'.cell? ⟨v6.heap.size, 0, none⟩ = some (.int .i64 2) ∧ w'.cell? ⟨v6.heap.size, 1, none⟩ = some (.int .i64 4))
    (first | go_keep | (go_split_ands; refine ⟨?_, ?_⟩ <;> exact cell_below HSP.out (by assumption)) | (go_split_ands; refine ⟨?_, ?_⟩ <;> exact cell_below HAL.out (by assumption)))
    (first
      | (go_at_call 53; refine (sp_any 2 4 _).mono ?_; rintro e vp ⟨rfl, hb⟩; have HSP := Lib.hid hb; clear hb)
      | (go_at_call 32; refine (alike_any (xs := [0, 3, 13, 22]) (ys := [0, 3, 13, 22]) (((HC.out.below (by exact (Below.refl _ _).drew)).below HSP.out).below (by exact (Below.refl _ _).alloc (Nat.le_refl _) _)) (cutAt_row (cs := [0, 3, 13, 22]) row_new (by decide))).mono ?_; rintro e va ⟨rfl, hb⟩; have HAL := Lib.hid hb; clear hb))
  have HBt := Lib.hid (bb (Below.alloc (bb (HB8.out.drew) HSP.out) (bb (HB8.out.drew) HSP.out).size (.cells #[.int .i64 0, .int .i64 3, .int .i64 13, .int .i64 22] 3)) HAL.out)
  have HEt := Lib.hid (((HE8.out.below (by exact (Below.refl _ _).drew)).below HSP.out).below (by exact (Below.refl _ _).alloc (Nat.le_refl _) (.cells #[.int .i64 0, .int .i64 3, .int .i64 13, .int .i64 22] 3)) |>.below HAL.out)
  clear t0 t1
  go_wp2_with fail
  refine (log_any _).mono ?_
  rintro e v9 ⟨a9, b9, rfl, hraw, hb⟩
  have HB9 := Lib.hid (bb HBt.out hb)
  have HE9 := Lib.hid (HEt.out.below hb)
  have HR9 := Lib.hid hraw
  clear hraw hb
  go_wp2_with fail
  have hc := waste_any (l := logP) HR9.out HE9.out
  rw [exWaste] at hc
  refine hc.mono ?_
  clear hc
  rintro e v10 ⟨rfl, hb⟩
  have HB10 := Lib.hid (bb HB9.out hb)
  have HE10 := Lib.hid (HE9.out.below hb)
  clear hb
  go_wp2_with fail
  refine (log_any _).mono ?_
  rintro e v11 ⟨a11, b11, rfl, hraw, hb⟩
  have HB11 := Lib.hid (bb HB10.out hb)
  have HE11 := Lib.hid (HE10.out.below hb)
  have HR11 := Lib.hid hraw
  clear hraw hb
  go_wp2_with fail
  have hc := hope_any (l := logP) HR11.out HE11.out
  rw [exHope] at hc
  refine hc.mono ?_
  clear hc
  rintro e v12 ⟨rfl, hb⟩
  have HB12 := Lib.hid (bb HB11.out hb)
  have HE12 := Lib.hid (HE11.out.below hb)
  clear hb
  go_wp2_with fail
  refine (log_any _).mono ?_
  rintro e v13 ⟨a13, b13, rfl, hraw, hb⟩
  have HB13 := Lib.hid (bb HB12.out hb)
  have HE13 := Lib.hid (HE12.out.below hb)
  have HR13 := Lib.hid hraw
  clear hraw hb
  have hba := (Below.refl _ v13).alloc (Nat.le_refl _) (.cells #[.int .i64 0, .int .i64 3, .int .i64 6, .int .i64 9] 3)
  have HBA := Lib.hid (bb HB13.out hba)
  have HEA := Lib.hid (HE13.out.below hba)
  have HRA := Lib.hid (HR13.out.below hba)
  have HCA := Lib.hid (show CutAt (v13.alloc (.cells #[.int .i64 0, .int .i64 3, .int .i64 6, .int .i64 9] 3)) [0, 3, 6, 9] (some ⟨v13.heap.size, 0, none⟩) 4 from cutAt_row (cs := [0, 3, 6, 9]) row_new (by decide))
  clear hba
  go_wp2_with fail
  have hc := sure_any (l := logP) HRA.out HEA.out HCA.out
  rw [exSure] at hc
  refine hc.mono ?_
  clear hc
  rintro e v14 ⟨rfl, hb⟩
  have HB14 := Lib.hid (bb HBA.out hb)
  have HE14 := Lib.hid (HEA.out.below hb)
  clear hb
  go_wp2_with fail
  refine (log_any _).mono ?_
  rintro e v15 ⟨a15, b15, rfl, hraw, hb⟩
  have HB15 := Lib.hid (bb HB14.out hb)
  have HE15 := Lib.hid (HE14.out.below hb)
  have HR15 := Lib.hid hraw
  clear hraw hb
  go_wp2_with fail
  have hc := ask_any (l := logP) HR15.out HE15.out
  rw [exAsk] at hc
  refine hc.mono ?_
  clear hc
  rintro e v16 ⟨rfl, hb⟩
  have HB16 := Lib.hid (bb HB15.out hb)
  have HE16 := Lib.hid (HE15.out.below hb)
  clear hb
  go_wp2_with fail
  refine (log_any _).mono ?_
  rintro e v17 ⟨a17, b17, rfl, hraw, hb⟩
  have HB17 := Lib.hid (bb HB16.out hb)
  have HE17 := Lib.hid (HE16.out.below hb)
  have HR17 := Lib.hid hraw
  clear hraw hb
  have hba := (Below.refl _ v17).alloc (Nat.le_refl _) (.cells #[.int .i64 24] 3)
  have HBA := Lib.hid (bb HB17.out hba)
  have HEA := Lib.hid (HE17.out.below hba)
  have HRA := Lib.hid (HR17.out.below hba)
  have HCA := Lib.hid (show CutAt (v17.alloc (.cells #[.int .i64 24] 3)) [24] (some ⟨v17.heap.size, 0, none⟩) 1 from cutAt_row (cs := [24]) row_new (by decide))
  clear hba
  go_wp2_with fail
  have hc := isCutApi_any (l := logP) HRA.out HCA.out
  rw [exIsCut] at hc
  refine hc.mono ?_
  clear hc
  rintro e v18 ⟨rfl, hb⟩
  have HB18 := Lib.hid (bb HBA.out hb)
  have HE18 := Lib.hid (HEA.out.below hb)
  clear hb
  go_wp2_with fail
  refine (log_any _).mono ?_
  rintro e v19 ⟨a19, b19, rfl, hraw, hb⟩
  have HB19 := Lib.hid (bb HB18.out hb)
  have HE19 := Lib.hid (HE18.out.below hb)
  have HR19 := Lib.hid hraw
  clear hraw hb
  go_wp2_with fail
  have hc := ribbon_any (l := logP) HR19.out
  rw [exRibbon] at hc
  refine hc.mono ?_
  clear hc
  rintro e v20 ⟨rfl, hb⟩
  have HB20 := Lib.hid (bb HB19.out hb)
  have HE20 := Lib.hid (HE19.out.below hb)
  clear hb
  go_wp2_with fail
  go_ret
  exact ⟨rfl, HB20.out⟩
end Go.Proofs.YtigofgdmefobaaaDoor.Peel

/- The law's own small functions: sums, numbers in a ring, spans in bounds. -/
set_option linter.unusedVariables false
set_option linter.unusedSimpArgs false
namespace Go.Proofs.YtigofgdmefobaaaDoor.Peel
open Go.RowKit Go.Proofs.YtigofgdmefobaaaDoor.Iter
attribute [local go_sem] Oper.semAt_some
theorem right_yes {w : World} (x y lo hi : Int) (h1 : lo ≤ x) (h2 : x ≤ y) (h3 : y ≤ hi) :
    Calls Tryd.prog 61 #[.agg #[.int .i64 x, .int .i64 y], .int .i64 lo, .int .i64 hi] w fun e w' => e = .returned (.bool true) ∧ Below w.heap.size w w' := by
  have hb := (Below.refl _ w).alloc (Nat.le_refl _) (.cells #[.int .i64 x, .int .i64 y] 39)
  go_enter Tryd.func61, Tryd.ntmps61
  go_wp2_with fail
  go_ret
  exact ⟨by simp [h1, h2, h3], hb⟩
theorem spin_any (n m : Int) (w : World) (h1 : 1 ≤ m) (h2 : m ≤ 1000000) :
    Calls Tryd.prog 49 #[.int .i64 n, .int .i64 m] w fun e w' => (∃ k, e = .returned (.int .i64 k) ∧ 0 ≤ k ∧ k < m) ∧ w = w' := by
  have hr0 : n.tmod m < m := Int.tmod_lt_of_pos n (by omega)
  have hr1 : -m < n.tmod m := by
    rcases Int.le_total 0 n with h | h
    · have := Int.tmod_nonneg m h
      omega
    · have e : n.tmod m = -((-n).tmod m) := by rw [Int.neg_tmod]; omega
      have := Int.tmod_lt_of_pos (-n) (show 0 < m by omega)
      omega
  have hw2 : wrap64 (n.tmod m + m) = n.tmod m + m := by unfold wrap64; omega
  have hm0 : ¬ m < 1 := by omega
  have hmne : m ≠ 0 := by omega
  by_cases hr : n.tmod m < 0
  · go_enter Tryd.func49, Tryd.ntmps49
    go_wp2_with fail
    go_ret
    exact ⟨⟨_, rfl, by omega, by omega⟩, rfl⟩
  · go_enter Tryd.func49, Tryd.ntmps49
    go_wp2_with fail
    go_ret
    exact ⟨⟨_, rfl, by omega, by omega⟩, rfl⟩
theorem total_any {w : World} {cs : List Int} {C : Option Addr} {n : Nat} (hC : CutAt w cs C n) (hb : ∀ k, k ≤ cs.length → -1000000 ≤ sumTo cs k ∧ sumTo cs k ≤ 1000000) :
    Calls Tryd.prog 47 #[.slice C cs.length n] w fun e w' => e = .returned (.int .i64 cs.sum) ∧ Below w.heap.size w w' := by
  have h1 := hC.len
  have HC := Lib.hid hC
  have HBD := Lib.hid hb
  clear hC hb
  go_enter Tryd.func47, Tryd.ntmps47
  go_wp2_with fail
  go_loopw [3, 4] (fun s i wr => ∃ k : Nat, i = .int .i64 k ∧ k ≤ cs.length ∧ s = .int .i64 (sumTo cs k) ∧ wr = w) (fun _ i _ => cs.length - (intOf i).toNat)
  case atStart => exact ⟨0, rfl, Nat.zero_le _, by rw [sumTo_zero], by simp⟩
  case round =>
    obtain ⟨k, rfl, hk, rfl, rfl⟩ := hrel
    by_cases hlt : k < cs.length
    · obtain ⟨pa, rfl, hca⟩ := HC.out.at_ k hlt
      have hs := sumTo_succ cs k hlt
      have hb := HBD.out (k + 1) hlt
      have HS := Lib.hid hs
      rw [hs] at hb
      have hw : IntKind.i64.wrap (sumTo cs k + cs.getD k 0) = sumTo cs k + cs.getD k 0 := IntWalk.i64_in _ (by omega)
      clear hs
      generalize cs.getD k 0 = x at *
      go_wp2_with fail
      go_roundw
      case rel => exact ⟨k + 1, by go_num, by omega, by rw [HS.out], by simp⟩
      case measure => simp [intOf]; omega
    · obtain rfl : k = cs.length := by omega
      go_wp2_with fail
      go_ret
      exact ⟨by rw [sumTo_all]; rfl, Below.refl _ _⟩
end Go.Proofs.YtigofgdmefobaaaDoor.Peel

/- The law's guard: is there a log, and is it as small as it can be? -/
set_option linter.unusedVariables false
set_option linter.unusedSimpArgs false
namespace Go.Proofs.YtigofgdmefobaaaDoor.Peel
open Go.RowKit Go.Proofs.YtigofgdmefobaaaDoor.Iter
attribute [local go_sem] Oper.semAt_some
theorem fits_yes (n x y : Int) (w : World) (h1 : x ≤ n) (h2 : n ≤ y) :
    Calls Tryd.prog 46 #[.int .i64 n, .int .i64 x, .int .i64 y] w fun e w' => e = .returned (.bool true) ∧ w = w' := by
  refine (fits_any n x y w).mono ?_
  rintro e w' ⟨rfl, rfl⟩
  exact ⟨by rw [decide_eq_true ⟨h1, h2⟩], rfl⟩
set_option maxHeartbeats 2000000 in
theorem sound_any {w : World} {l : PL} {A B : Option Addr} {c d : Nat} (h : RawAt w l A B c d) :
    Calls Tryd.prog 39 #[.agg #[.slice A l.long.length c, .int .i64 l.size, .slice B l.knots.length d]] w fun e w' => e = .returned (.bool (decide l.Ok)) ∧ Below w.heap.size w w' := by
  have hB := (Below.refl _ w).alloc (Nat.le_refl _) (.cells #[.slice A l.long.length c, .int .i64 l.size, .slice B l.knots.length d] 25)
  have rx : (w.alloc (.cells #[.slice A l.long.length c, .int .i64 l.size, .slice B l.knots.length d] 25)).heap[w.heap.size]? = some (.cells #[.slice A l.long.length c, .int .i64 l.size, .slice B l.knots.length d] 25 (0, 0)) := by exact rowt_
  have H := Lib.hid (h.below hB)
  have RX := Lib.hid rx
  have HB := Lib.hid hB
  clear h rx hB
  by_cases ok : l.Ok
  · have t1 := ok.turns1
    have t6 := ok.turns
    have s1 := ok.size1
    have s6 := ok.size6
    have k3 := ok.knots3
    have HOK := Lib.hid ok
    rw [decide_eq_true HOK.out]
    go_enter Tryd.func39, Tryd.ntmps39
    go_wp2_with fail
    refine (check_ok H.out ok).mono ?_
    rintro e w1 ⟨rfl, hb1⟩
    have r1 := row_below hb1 RX.out (by simp)
    have q0 : w1.cell? ⟨w.heap.size, 0, none⟩ = some (.slice A l.long.length c) := cell_row' (i := 0) r1 rfl
    have q1 : w1.cell? ⟨w.heap.size, 1, none⟩ = some (.int .i64 l.size) := cell_row' (i := 1) r1 rfl
    have q2 : w1.cell? ⟨w.heap.size, 2, none⟩ = some (.slice B l.knots.length d) := cell_row' (i := 2) r1 rfl
    have H1 := Lib.hid (H.out.below hb1)
    have HB1 := Lib.hid (bb HB.out hb1)
    have R1 := Lib.hid r1
    have hk3 : (l.knots.length : Int) ≤ 3 := by omega
    have ht1 : (1 : Int) ≤ (l.long.length : Int) := by omega
    have ht6 : (l.long.length : Int) ≤ 6 := by omega
    clear hb1 ok r1
    go_wp2_with (go_at_call 46; refine (fits_yes _ _ _ _ (by omega) (by omega)).mono ?_; rintro e w2 ⟨rfl, rfl⟩)
    go_loopw [3, 4] (fun o i wr => o = .bool true ∧ (∃ k : Nat, i = .int .i64 k ∧ k ≤ l.long.length) ∧ wr = w1) (fun _ i _ => l.long.length - (intOf i).toNat)
    case atStart => exact ⟨rfl, ⟨0, rfl, Nat.zero_le _⟩, by simp⟩
    case round =>
      obtain ⟨rfl, ⟨k, rfl, hk⟩, rfl⟩ := hrel
      by_cases hlt : k < l.long.length
      · obtain ⟨pa, rfl, hca⟩ := H1.out.long k hlt
        have hbd := HOK.out.long k hlt
        generalize l.long.getD k 0 = x at *
        go_wp2_with (go_at_call 46; refine (fits_yes _ _ _ _ hbd.1 hbd.2).mono ?_; rintro e w2 ⟨rfl, rfl⟩)
        go_roundw
        case rel => exact ⟨rfl, ⟨k + 1, by go_num, by omega⟩, by simp⟩
        case measure => simp [intOf]; omega
      · go_wp2_with fail
        go_loopw [3, 5] (fun o i wr2 => o = .bool true ∧ (∃ k : Nat, i = .int .i64 k ∧ k ≤ l.knots.length) ∧ Below wr.heap.size wr wr2) (fun _ i _ => l.knots.length - (intOf i).toNat)
        case atStart => exact ⟨rfl, ⟨0, rfl, Nat.zero_le _⟩, Below.refl _ _⟩
        case round =>
          obtain ⟨rfl, ⟨j, rfl, hj⟩, hbr⟩ := hrel
          have p0 := cell_below hbr q0
          have p1 := cell_below hbr q1
          have p2 := cell_below hbr q2
          have HBR := Lib.hid hbr
          by_cases hjl : j < l.knots.length
          · obtain ⟨x, hx⟩ : ∃ x, l.knots[j]? = some x := ⟨l.knots[j], by simp [hjl]⟩
            obtain ⟨pb, rfl, e0, e1, e2, e3⟩ := (H1.out.below hbr).knots j x hx
            obtain ⟨⟨a1, a2, a3, a4⟩, ⟨b1, b2, b3, b4⟩⟩ := HOK.out.knots x (List.mem_of_getElem? hx)
            have hw1 : IntKind.i64.wrap (x.a.hi - x.a.lo) = x.a.hi - x.a.lo := IntWalk.i64_in _ (by omega)
            have hw2 : IntKind.i64.wrap (x.f.hi - x.f.lo) = x.f.hi - x.f.lo := IntWalk.i64_in _ (by omega)
            obtain ⟨⟨xa, xb⟩, ⟨xc, xd⟩⟩ := x
            dsimp only at *
            go_upto_region 10 with (fail)
            obtain ⟨W2, hW2⟩ : ∃ W2, W2 = wr.alloc (.cells #[.int .i64 xa, .int .i64 xb, .int .i64 xc, .int .i64 xd] 61) := ⟨_, rfl⟩
            rw [← hW2]
            have hb2 : Below wr.heap.size wr W2 := by rw [hW2]; exact (Below.refl _ _).alloc (Nat.le_refl _) _
            have rk : W2.heap[wr.heap.size]? = some (.cells #[.int .i64 xa, .int .i64 xb, .int .i64 xc, .int .i64 xd] 61 (0, 0)) := by rw [hW2]; exact rowt_
            have z0 := cell_below hb2 p0
            have y0 : W2.cell? ⟨wr.heap.size, 0, none⟩ = some (.int .i64 xa) := cell_row' (i := 0) rk rfl
            have y1 : W2.cell? ⟨wr.heap.size, 1, none⟩ = some (.int .i64 xb) := cell_row' (i := 1) rk rfl
            have y2 : W2.cell? ⟨wr.heap.size, 2, none⟩ = some (.int .i64 xc) := cell_row' (i := 2) rk rfl
            have y3 : W2.cell? ⟨wr.heap.size, 3, none⟩ = some (.int .i64 xd) := cell_row' (i := 3) rk rfl
            have HB2 := Lib.hid (bb HBR.out hb2)
            clear hW2 hb2 rk p0 p1 p2 e0 e1 e2 e3 q0 q1 q2 hbr
            go_wp2_with fail
            refine (right_yes _ _ _ _ a1 a2 a3).mono ?_
            rintro e W3 ⟨rfl, hb3⟩
            have z0' := cell_below hb3 z0
            have y0' := cell_below hb3 y0
            have y1' := cell_below hb3 y1
            have y2' := cell_below hb3 y2
            have y3' := cell_below hb3 y3
            have HB3 := Lib.hid (bb HB2.out hb3)
            clear hb3 z0 y0 y1 y2 y3
            go_wp2_with fail
            refine (right_yes _ _ _ _ b1 b2 b3).mono ?_
            rintro e W4 ⟨rfl, hb4⟩
            have z0 := cell_below hb4 z0'
            have y0 := cell_below hb4 y0'
            have y1 := cell_below hb4 y1'
            have y2 := cell_below hb4 y2'
            have y3 := cell_below hb4 y3'
            have HB4 := Lib.hid (bb HB3.out hb4)
            clear hb4 z0' y0' y1' y2' y3'
            go_wp2_with fail
            go_roundw
            case rel => exact ⟨rfl, ⟨j + 1, by go_num, by omega⟩, HB4.out⟩
            case measure => simp [intOf]; omega
          · go_wp2_with fail
            go_ret
            exact ⟨rfl, bb HB1.out HBR.out⟩
  · go_enter Tryd.func39, Tryd.ntmps39
    go_wp2_with fail
    refine (check_any H.out).mono ?_
    rintro e w1 ⟨(⟨ho, _⟩ | ⟨_, rfl⟩), hb1⟩
    · exact absurd ho ok
    have r1 := row_below hb1 RX.out (by simp)
    have q0 : w1.cell? ⟨w.heap.size, 0, none⟩ = some (.slice A l.long.length c) := cell_row' (i := 0) r1 rfl
    have q1 : w1.cell? ⟨w.heap.size, 1, none⟩ = some (.int .i64 l.size) := cell_row' (i := 1) r1 rfl
    have q2 : w1.cell? ⟨w.heap.size, 2, none⟩ = some (.slice B l.knots.length d) := cell_row' (i := 2) r1 rfl
    have HB1 := Lib.hid (bb HB.out hb1)
    clear hb1 r1
    go_wp2_with fail
    go_loopw [3, 4] (fun o i wr => o = .bool false ∧ i = .int .i64 0 ∧ wr = w1) (fun _ _ _ => 0)
    case atStart => exact ⟨rfl, rfl, by simp⟩
    case round =>
      obtain ⟨rfl, rfl, rfl⟩ := hrel
      go_wp2_with fail
      go_loopw [3, 5] (fun o i wr2 => o = .bool false ∧ i = .int .i64 0 ∧ wr2 = wr) (fun _ _ _ => 0)
      case atStart => exact ⟨rfl, rfl, by simp⟩
      case round =>
        obtain ⟨rfl, rfl, rfl⟩ := hrel
        go_wp2_with fail
        go_ret
        exact ⟨by rw [decide_eq_false ok]; rfl, HB1.out⟩
end Go.Proofs.YtigofgdmefobaaaDoor.Peel
