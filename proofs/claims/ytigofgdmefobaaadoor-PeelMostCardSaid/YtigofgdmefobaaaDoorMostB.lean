/- A cutting that numbers choose: the walk. -/
import Derived.Test.YtigofgdmefobaaaDoorMostA
import Derived.Scope
set_option linter.unusedVariables false
set_option linter.unusedSimpArgs false
namespace Go.Proofs.YtigofgdmefobaaaDoor.Peel
open Go.RowKit Go.Proofs.YtigofgdmefobaaaDoor.Iter
attribute [local go_sem] Oper.semAt_some
set_option maxRecDepth 8000 in
set_option maxHeartbeats 4000000 in
theorem drawn_any {w : World} {l : PL} {A B : Option Addr} {c d : Nat} (h : RawAt w l A B c d) (ok : l.Ok) {bs : List Int} {C : Option Addr} {n : Nat} (hC : CutAt w bs C n) :
    Calls Tryd.prog 42 #[.agg #[.slice A l.long.length c, .int .i64 l.size, .slice B l.knots.length d], .slice C bs.length n] w fun e w' => ∃ (cs : List Int) (ao : Option Addr) (cv : Nat), e = .returned (.slice ao cs.length cv) ∧ l.isCut 0 cs = true ∧ cs.length ≤ 72 ∧ CutAt w' cs ao cv ∧ Below w.heap.size w w' := by
  have hs1 := ok.size1
  have hs6 := ok.size6
  have ha := all_bd ok
  have hbl := hC.len
  obtain ⟨i0, hi, hz0, hz1, hz2⟩ := info_parts infoInt
  have hundI := Tryd.underlying22
  obtain ⟨W0, hW0⟩ : ∃ W0, W0 = w.alloc (.cells #[.slice A l.long.length c, .int .i64 l.size, .slice B l.knots.length d] 25) := ⟨_, rfl⟩
  go_enter Tryd.func42, Tryd.ntmps42
  go_upto_region 1 with (fail)
  rw [← hW0]
  have hb0 : Below w.heap.size w W0 := by rw [hW0]; exact (Below.refl _ w).alloc (Nat.le_refl _) _
  have rl : W0.heap[w.heap.size]? = some (.cells #[.slice A l.long.length c, .int .i64 l.size, .slice B l.knots.length d] 25 (0, 0)) := by rw [hW0]; (repeat (first | with_reducible assumption | with_reducible exact row_new | with_reducible refine row_drew ?_ | with_reducible apply row_same | with_reducible refine row_diff ?_ (by first | omega | (simp only [World.size_alloc, size_setRow, size_drew', World.size_setCell]; omega)) | with_reducible refine row_far ?_ (by (try dsimp only); first | omega | (simp only [World.size_alloc, size_setRow, size_drew', World.size_setCell]; omega)) | with_reducible refine row_new' (by first | (simp only [World.size_alloc, size_setRow, size_drew', World.size_setCell]; done) | omega | (simp only [World.size_alloc, size_setRow, size_drew', World.size_setCell]; omega)) | with_reducible refine row_old ?_ | with_reducible refine row_below (by assumption) ?_ (by first | omega | (simp only [World.size_alloc, size_setRow, size_drew', World.size_setCell]; omega))))
  have z0 : W0.heap.size = w.heap.size + 1 := by rw [hW0]; simp
  have H0 := Lib.hid (h.below hb0)
  have HC0 := Lib.hid (hC.below hb0)
  have HB0 := Lib.hid hb0
  have RL := Lib.hid rl
  have HOK := Lib.hid ok
  have HZ0 := Lib.hid z0
  clear hW0 hb0 rl h hC ok z0
  go_wp2_with fail
  go_loopw [5, 6, 7] (fun v5 v6 v7 wr => ∃ (k x : Nat) (pre : List Int) (ao : Option Addr) (cv : Nat), v7 = .int .i64 k ∧ k ≤ bs.length ∧ k ≤ 72 ∧ pre.length ≤ k ∧ v6 = .int .i64 x ∧ x ≤ 72 ∧ v5 = .slice ao pre.length cv ∧ wr.ownsRow W0.heap.size 3 1 v5 pre.length (pre.map (Value.int .i64)) ∧ l.isCut 0 pre = true ∧ l.endOf 0 pre ≤ x ∧ Below W0.heap.size W0 wr)
    (fun _ _ v7 _ => bs.length - (intOf v7).toNat)
  case atStart => exact ⟨0, 0, [], none, 0, rfl, Nat.zero_le _, by omega, Nat.le_refl _, rfl, by omega, rfl, World.ownsRow_nil _ _ _ _, rfl, Int.le_refl _, Below.refl _ _⟩
  case round =>
    obtain ⟨k, x, pre, ao, cv, rfl, hk, hk72, hpre, rfl, hx72, rfl, hown, hcut, hend, hbr⟩ := hrel
    have HO := Lib.hid hown
    have HBR := Lib.hid hbr
    have HCUT := Lib.hid hcut
    have hfin : ∀ w5, Below wr.heap.size wr w5 → CutAt w5 pre ao cv ∧ Below w.heap.size w w5 := fun w5 hb5 => ⟨cutAt_of_owns (owns_below hb5 HO.out) (by omega), HB0.out.trans (((HBR.out).trans (hb5.mono HBR.out.size)).mono (by have := HZ0.out; omega))⟩
    have HFIN := Lib.hid hfin
    have rw0 := row_below hbr RL.out (by have := HZ0.out; omega)
    have hwz : w.heap.size < wr.heap.size := (Array.getElem?_eq_some_iff.1 rw0).1
    clear hown hcut hfin
    by_cases hlt : k < bs.length ∧ k < 72
    · obtain ⟨hlt1, hlt2⟩ := hlt
      obtain ⟨pa, rfl, hca⟩ := (HC0.out.below hbr).at_ k hlt1
      have H5 := Lib.hid (H0.out.below hbr)
      have q0 : wr.cell? ⟨w.heap.size, 0, none⟩ = some (.slice A l.long.length c) := cell_row' (i := 0) rw0 rfl
      have q1 : wr.cell? ⟨w.heap.size, 1, none⟩ = some (.int .i64 l.size) := cell_row' (i := 1) rw0 rfl
      have RW := Lib.hid rw0
      have hl2 : (k : Int) < 72 := by omega
      generalize bs.getD k 0 = y at *
      clear hbr rw0
      go_upto_region 7 with ((go_at_call 49; refine (spin_any _ 4 _ (by omega) (by omega)).mono ?_; rintro e wf ⟨⟨sp, rfl, hp0, hp1⟩, rfl⟩; have hws : IntKind.i64.wrap ((x : Int) + sp) = (x : Int) + sp := IntWalk.i64_in _ (by omega); have hvs : wrap64 ((x : Int) + sp) = (x : Int) + sp := by unfold wrap64; omega))
      go_region_held3 (fun w' => w'.cell? ⟨w.heap.size, 0, none⟩ = some (.slice A l.long.length c) ∧ w'.cell? ⟨w.heap.size, 1, none⟩ = some (.int .i64 l.size))
        (first | go_keep | (go_split_ands; refine ⟨?_, ?_⟩ <;> exact cell_below HT5.out (by assumption)))
        ((go_at_call 47; refine (total_any (long_cut' (H5.out.below (by exact (Below.refl _ _).drew))) (fun q hq => by have := sumTo_bd HOK.out q hq; omega)).mono ?_; rintro e w5 ⟨rfl, hb5⟩; have HT5 := Lib.hid hb5; clear hb5))
      rw [show l.long.sum = l.all from rfl]
      have hb5 : Below wr.heap.size wr w5 := ((Below.refl _ wr).drew).trans HT5.out
      have hown5 := owns_below hb5 HO.out
      have HF5 := Lib.hid (HFIN.out w5 hb5)
      have rw5 := row_below hb5 RW.out hwz
      have c1 : w5.cell? ⟨w.heap.size, 1, none⟩ = some (.int .i64 l.size) := cell_row' (i := 1) rw5 rfl
      have hbr5 : Below W0.heap.size W0 w5 := HBR.out.trans (hb5.mono HBR.out.size)
      obtain ⟨y2, hy2⟩ : ∃ y2 : Nat, (x : Int) + sp = (y2 : Int) := ⟨((x : Int) + sp).toNat, by omega⟩
      rw [hy2]
      have hxy : x ≤ y2 := by omega
      have hy75 : y2 ≤ 76 := by omega
      have hwy : IntKind.i64.wrap ((y2 : Int) + l.size) = (y2 : Int) + l.size := IntWalk.i64_in _ (by omega)
      have hvy : wrap64 ((y2 : Int) + l.size) = (y2 : Int) + l.size := by unfold wrap64; omega
      have hzz := HZ0.out
      have hw5 : w.heap.size < w5.heap.size := (Array.getElem?_eq_some_iff.1 rw5).1
      have HBR5 := Lib.hid hbr5
      clear hws hvs q0 q1 hca hb5 hbr5 rw5 hy2 hp0 hp1
      by_cases hgt : (y2 : Int) + l.size > l.all
      · go_wp2_with fail
        go_ret
        exact ⟨pre, ao, cv, rfl, HCUT.out, by omega, HF5.out.1, HF5.out.2⟩
      · have hsn := isCut_snoc l (y2 : Int) pre 0 HCUT.out (by omega) (by omega)
        have HSN := Lib.hid hsn
        clear hsn
        go_wp2_with (at_builtin; refine wpList_append_own _ rfl _ _ 22 rfl W0.heap.size 3 i0 (.int .i64 0) 1 8 hundI hi hz0 hz1 hz2 rfl (by decide) _ _ _ rfl (hown5.alloc _) ⟨w5.heap.size, 0, none⟩ 1 1 [.int .i64 y2] rfl rfl (cell_one_here _ _ _) (fun x hx => by simp at hx; subst hx; rfl) (by unfold maxLen; omega) (by omega) (by have := HBR5.out.size; simp; omega) ?_; intro v' w6 hown' hgrow hnil; have c1' := hgrow.cell (cell_old c1) (fun e => by have := hown5.lt w.heap.size e.symm; omega))
        obtain ⟨g3, cap3, hv3⟩ : ∃ g3 cap3, v' = .slice (some ⟨g3, 0, none⟩) (pre.length + 1) cap3 := by
          rcases hown'.2 with ⟨_, h⟩ | ⟨g3, cap3, _, h, _⟩
          · omega
          · exact ⟨g3, cap3, h⟩
        have hbf2 : Below W0.heap.size W0 w6 := (HBR5.out.alloc HBR5.out.size _).grown hgrow (by have := HBR5.out.size; simp; omega) (fun q hq => (hown5.lt q hq).1)
        go_roundw
        case rel =>
          refine ⟨k + 1, y2 + l.size.toNat, pre ++ [(y2 : Int)], some ⟨g3, 0, none⟩, cap3, by go_num, by omega, by omega, by simp; omega, ?_, by omega, ?_, ?_, HSN.out.1, ?_, hbf2⟩
          · congr 1; omega
          · rw [hv3]; simp
          · rw [List.map_append, List.length_append]; exact hown'
          · rw [HSN.out.2]; omega
        case measure => simp [intOf]; omega
    · by_cases h1 : k < bs.length
      · have h2 : ¬ (k : Int) < 72 := by omega
        have h1' : (k : Int) < (bs.length : Int) := by omega
        go_wp2_with fail
        go_ret
        exact ⟨pre, ao, cv, rfl, HCUT.out, by omega, (HFIN.out wr (Below.refl _ _)).1, (HFIN.out wr (Below.refl _ _)).2⟩
      · have h1' : ¬ (k : Int) < (bs.length : Int) := by omega
        go_wp2_with fail
        go_ret
        exact ⟨pre, ao, cv, rfl, HCUT.out, by omega, (HFIN.out wr (Below.refl _ _)).1, (HFIN.out wr (Below.refl _ _)).2⟩
end Go.Proofs.YtigofgdmefobaaaDoor.Peel
