/- The chapter's examples hold. -/
import Derived.Test.YtigofgdmefobaaaDoorLawC
set_option linter.unusedVariables false
set_option linter.unusedSimpArgs false
namespace Go.Proofs.YtigofgdmefobaaaDoor.Peel
open Go.RowKit Go.Proofs.YtigofgdmefobaaaDoor.Iter
attribute [local go_sem] Oper.semAt_some
theorem cutAt_row {w : World} {cs : List Int} {g : Nat} {t : TypeId} (h : w.heap[g]? = some (.cells (cs.map (Value.int .i64)).toArray t (0, 0))) (hl : cs.length ≤ 4611686018427387904) : CutAt w cs (some ⟨g, 0, none⟩) cs.length where
  at_ := fun k hk => ⟨_, rfl, by
    simp only [Addr.add_lit, Nat.zero_add]
    exact cell_row' h (by simp [List.getD_eq_getElem?_getD, hk])⟩
  cap := Nat.le_refl _
  len := hl
set_option maxRecDepth 8000 in
set_option maxHeartbeats 4000000 in
theorem peeled_any {w : World} (he : EndsAt w) : Calls Tryd.prog 23 #[] w fun e w' => e = .returned (.bool true) ∧ Below w.heap.size w w' := by
  have HB0 := Lib.hid (Below.refl w.heap.size w)
  have HE0 := Lib.hid he
  clear he
  go_enter Tryd.func23, Tryd.ntmps23
  go_wp2_with fail
  refine (log_any _).mono ?_
  rintro e v1 ⟨a1, b1, rfl, hraw, hb⟩
  have HB1 := Lib.hid (bb HB0.out hb)
  have HE1 := Lib.hid (HE0.out.below hb)
  have HR1 := Lib.hid hraw
  clear hraw hb
  go_wp2_with fail
  have hc := columnApi_any (l := logP) HR1.out 1 7
  rw [exColumn] at hc
  refine hc.mono ?_
  clear hc
  rintro e v2 ⟨rfl, hb⟩
  have HB2 := Lib.hid (bb HB1.out hb)
  have HE2 := Lib.hid (HE1.out.below hb)
  clear hb
  go_wp2_with fail
  refine (log_any _).mono ?_
  rintro e v3 ⟨a3, b3, rfl, hraw, hb⟩
  have HB3 := Lib.hid (bb HB2.out hb)
  have HE3 := Lib.hid (HE2.out.below hb)
  have HR3 := Lib.hid hraw
  clear hraw hb
  go_wp2_with fail
  have hc := knotty_any (l := logP) HR3.out HE3.out 17
  rw [exKnotty] at hc
  refine hc.mono ?_
  clear hc
  rintro e v4 ⟨rfl, hb⟩
  have HB4 := Lib.hid (bb HB3.out hb)
  have HE4 := Lib.hid (HE3.out.below hb)
  clear hb
  go_wp2_with fail
  refine (log_any _).mono ?_
  rintro e v5 ⟨a5, b5, rfl, hraw, hb⟩
  have HB5 := Lib.hid (bb HB4.out hb)
  have HE5 := Lib.hid (HE4.out.below hb)
  have HR5 := Lib.hid hraw
  clear hraw hb
  have hba := (Below.refl _ v5).alloc (Nat.le_refl _) (.cells #[.int .i64 0, .int .i64 3, .int .i64 6, .int .i64 9] 3)
  have HBA := Lib.hid (bb HB5.out hba)
  have HEA := Lib.hid (HE5.out.below hba)
  have HRA := Lib.hid (HR5.out.below hba)
  have HCA := Lib.hid (show CutAt (v5.alloc (.cells #[.int .i64 0, .int .i64 3, .int .i64 6, .int .i64 9] 3)) [0, 3, 6, 9] (some ⟨v5.heap.size, 0, none⟩) 4 from cutAt_row (cs := [0, 3, 6, 9]) row_new (by decide))
  clear hba
  go_wp2_with fail
  have hc := whole_api (l := logP) HRA.out HEA.out HCA.out
  rw [exWhole] at hc
  refine hc.mono ?_
  clear hc
  rintro e v6 ⟨rfl, hb⟩
  have HB6 := Lib.hid (bb HBA.out hb)
  have HE6 := Lib.hid (HEA.out.below hb)
  clear hb
  have hba := (Below.refl _ v6).alloc (Nat.le_refl _) (.cells #[.int .i64 2, .int .i64 4] 39)
  have hsp : (v6.alloc (.cells #[.int .i64 2, .int .i64 4] 39)).heap[v6.heap.size]? = some (.cells #[.int .i64 2, .int .i64 4] 39 (0, 0)) := row_new
  have HT0 := Lib.hid hsp
  have HBs := Lib.hid (bb HB6.out hba)
  have HEs := Lib.hid (HE6.out.below hba)
  clear hba hsp
  go_upto_region 4 with (fail)
  obtain ⟨vs, hvs⟩ : ∃ vs, vs = v6.alloc (.cells #[.int .i64 2, .int .i64 4] 39) := ⟨_, rfl⟩
  rw [← hvs] at HT0 HBs HEs ⊢
  clear hvs
  have HT := Lib.hid HT0.out
  go_wp2_with fail
  refine (log_any _).mono ?_
  rintro e v7 ⟨a7, b7, rfl, hraw, hb⟩
  have HB7 := Lib.hid (bb HBs.out hb)
  have HE7 := Lib.hid (HEs.out.below hb)
  have HR7 := Lib.hid hraw
  have HT := Lib.hid (row_below hb HT.out (Array.getElem?_eq_some_iff.1 HT.out).1)
  clear hraw hb
  go_wp2_with fail
  have hc := best_any (l := logP) HR7.out HE7.out
  rw [exBest] at hc
  refine hc.mono ?_
  clear hc
  rintro e v8 ⟨ao, rfl, hb, hcut⟩
  have HB8 := Lib.hid (bb HB7.out hb)
  have HE8 := Lib.hid (HE7.out.below hb)
  have HT := Lib.hid (row_below hb HT.out (Array.getElem?_eq_some_iff.1 HT.out).1)
  have HC := Lib.hid hcut
  clear hcut
  clear hb
  go_upto_region 5 with (fail)
  have t0 : v8.cell? ⟨v6.heap.size, 0, none⟩ = some (.int .i64 2) := cell_row' (i := 0) HT.out rfl
  have t1 : v8.cell? ⟨v6.heap.size, 1, none⟩ = some (.int .i64 4) := cell_row' (i := 1) HT.out rfl
  go_region_held3 (fun w' => w'.cell? ⟨v6.heap.size, 0, none⟩ = some (.int .i64 2) ∧ w'.cell? ⟨v6.heap.size, 1, none⟩ = some (.int .i64 4))
    (first | go_keep | (go_split_ands; refine ⟨?_, ?_⟩ <;> exact cell_below HSP.out (by assumption)) | (go_split_ands; refine ⟨?_, ?_⟩ <;> exact cell_below HAL.out (by assumption)))
    (first
      | (go_at_call 53; refine (sp_any 2 4 _).mono ?_; rintro e vp ⟨rfl, hb⟩; have HSP := Lib.hid hb; clear hb)
      | (go_at_call 32; refine (alike_any (xs := [0, 3, 13, 22]) (ys := [0, 3, 13, 22]) (((HC.out.below (by exact (Below.refl _ _).drew)).below HSP.out).below (by exact (Below.refl _ _).alloc (Nat.le_refl _) _)) (cutAt_row (cs := [0, 3, 13, 22]) row_new (by decide))).mono ?_; rintro e va ⟨rfl, hb⟩; have HAL := Lib.hid hb; clear hb))
  have HBt := Lib.hid (bb (Below.alloc (bb (HB8.out.drew) HSP.out) (bb (HB8.out.drew) HSP.out).size (.cells #[.int .i64 0, .int .i64 3, .int .i64 13, .int .i64 22] 3)) HAL.out)
  have HEt := Lib.hid (((HE8.out.below (by exact (Below.refl _ _).drew)).below HSP.out).below (by exact (Below.refl _ _).alloc (Nat.le_refl _) (.cells #[.int .i64 0, .int .i64 3, .int .i64 13, .int .i64 22] 3)) |>.below HAL.out)
  clear t0 t1
  go_wp2_with fail
  refine (log_any _).mono ?_
  rintro e v9 ⟨a9, b9, rfl, hraw, hb⟩
  have HB9 := Lib.hid (bb HBt.out hb)
  have HE9 := Lib.hid (HEt.out.below hb)
  have HR9 := Lib.hid hraw
  clear hraw hb
  go_wp2_with fail
  have hc := waste_any (l := logP) HR9.out HE9.out
  rw [exWaste] at hc
  refine hc.mono ?_
  clear hc
  rintro e v10 ⟨rfl, hb⟩
  have HB10 := Lib.hid (bb HB9.out hb)
  have HE10 := Lib.hid (HE9.out.below hb)
  clear hb
  go_wp2_with fail
  refine (log_any _).mono ?_
  rintro e v11 ⟨a11, b11, rfl, hraw, hb⟩
  have HB11 := Lib.hid (bb HB10.out hb)
  have HE11 := Lib.hid (HE10.out.below hb)
  have HR11 := Lib.hid hraw
  clear hraw hb
  go_wp2_with fail
  have hc := hope_any (l := logP) HR11.out HE11.out
  rw [exHope] at hc
  refine hc.mono ?_
  clear hc
  rintro e v12 ⟨rfl, hb⟩
  have HB12 := Lib.hid (bb HB11.out hb)
  have HE12 := Lib.hid (HE11.out.below hb)
  clear hb
  go_wp2_with fail
  refine (log_any _).mono ?_
  rintro e v13 ⟨a13, b13, rfl, hraw, hb⟩
  have HB13 := Lib.hid (bb HB12.out hb)
  have HE13 := Lib.hid (HE12.out.below hb)
  have HR13 := Lib.hid hraw
  clear hraw hb
  have hba := (Below.refl _ v13).alloc (Nat.le_refl _) (.cells #[.int .i64 0, .int .i64 3, .int .i64 6, .int .i64 9] 3)
  have HBA := Lib.hid (bb HB13.out hba)
  have HEA := Lib.hid (HE13.out.below hba)
  have HRA := Lib.hid (HR13.out.below hba)
  have HCA := Lib.hid (show CutAt (v13.alloc (.cells #[.int .i64 0, .int .i64 3, .int .i64 6, .int .i64 9] 3)) [0, 3, 6, 9] (some ⟨v13.heap.size, 0, none⟩) 4 from cutAt_row (cs := [0, 3, 6, 9]) row_new (by decide))
  clear hba
  go_wp2_with fail
  have hc := sure_any (l := logP) HRA.out HEA.out HCA.out
  rw [exSure] at hc
  refine hc.mono ?_
  clear hc
  rintro e v14 ⟨rfl, hb⟩
  have HB14 := Lib.hid (bb HBA.out hb)
  have HE14 := Lib.hid (HEA.out.below hb)
  clear hb
  go_wp2_with fail
  refine (log_any _).mono ?_
  rintro e v15 ⟨a15, b15, rfl, hraw, hb⟩
  have HB15 := Lib.hid (bb HB14.out hb)
  have HE15 := Lib.hid (HE14.out.below hb)
  have HR15 := Lib.hid hraw
  clear hraw hb
  go_wp2_with fail
  have hc := ask_any (l := logP) HR15.out HE15.out
  rw [exAsk] at hc
  refine hc.mono ?_
  clear hc
  rintro e v16 ⟨rfl, hb⟩
  have HB16 := Lib.hid (bb HB15.out hb)
  have HE16 := Lib.hid (HE15.out.below hb)
  clear hb
  go_wp2_with fail
  refine (log_any _).mono ?_
  rintro e v17 ⟨a17, b17, rfl, hraw, hb⟩
  have HB17 := Lib.hid (bb HB16.out hb)
  have HE17 := Lib.hid (HE16.out.below hb)
  have HR17 := Lib.hid hraw
  clear hraw hb
  have hba := (Below.refl _ v17).alloc (Nat.le_refl _) (.cells #[.int .i64 24] 3)
  have HBA := Lib.hid (bb HB17.out hba)
  have HEA := Lib.hid (HE17.out.below hba)
  have HRA := Lib.hid (HR17.out.below hba)
  have HCA := Lib.hid (show CutAt (v17.alloc (.cells #[.int .i64 24] 3)) [24] (some ⟨v17.heap.size, 0, none⟩) 1 from cutAt_row (cs := [24]) row_new (by decide))
  clear hba
  go_wp2_with fail
  have hc := isCutApi_any (l := logP) HRA.out HCA.out
  rw [exIsCut] at hc
  refine hc.mono ?_
  clear hc
  rintro e v18 ⟨rfl, hb⟩
  have HB18 := Lib.hid (bb HBA.out hb)
  have HE18 := Lib.hid (HEA.out.below hb)
  clear hb
  go_wp2_with fail
  refine (log_any _).mono ?_
  rintro e v19 ⟨a19, b19, rfl, hraw, hb⟩
  have HB19 := Lib.hid (bb HB18.out hb)
  have HE19 := Lib.hid (HE18.out.below hb)
  have HR19 := Lib.hid hraw
  clear hraw hb
  go_wp2_with fail
  have hc := ribbon_any (l := logP) HR19.out
  rw [exRibbon] at hc
  refine hc.mono ?_
  clear hc
  rintro e v20 ⟨rfl, hb⟩
  have HB20 := Lib.hid (bb HB19.out hb)
  have HE20 := Lib.hid (HE19.out.below hb)
  clear hb
  go_wp2_with fail
  go_ret
  exact ⟨rfl, HB20.out⟩
end Go.Proofs.YtigofgdmefobaaaDoor.Peel
