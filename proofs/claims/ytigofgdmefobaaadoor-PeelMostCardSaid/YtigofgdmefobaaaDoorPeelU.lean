/- Walks of package peel: Best, Waste, Sure. -/
import Derived.Test.YtigofgdmefobaaaDoorPeelT
import Derived.Test.YtigofgdmefobaaaDoorPeelP
import Derived.Test.YtigofgdmefobaaaDoorPeelI
set_option linter.unusedVariables false
set_option linter.unusedSimpArgs false
namespace Go.Proofs.YtigofgdmefobaaaDoor.Peel
open Go.RowKit Go.Proofs.YtigofgdmefobaaaDoor.Iter

theorem CutAt.kept {w w1 : World} {cs : List Int} {C : Option Addr} {n : Nat} (h : CutAt w cs C n) (hk : CellsKept w w1) : CutAt w1 cs C n where
  at_ := fun k hk' => by
    obtain ⟨a, e, h0⟩ := h.at_ k hk'
    exact ⟨a, e, hk _ _ h0⟩
  cap := h.cap
  len := h.len
def bestS (l : PL) : List Int × Int := if l.Ok then (l.cut l.possible, 0) else ([], 10)
def wasteS (l : PL) : Int × Int := if l.Ok then (l.all - l.size * (l.cut l.possible).length, 0) else (0, 10)
theorem marks_new {l : PL} {m : Nat} {w : World} (h : w.heap[m]? = some (.map #[] 0)) : MarksAt l m w := ⟨#[], 0, h, fun e he => by simp at he⟩
theorem turned_new {m : Nat} {w w1 w2 : World} (hb : Below w.heap.size w w1) (h : Turned m w1 w2) (hm : w.heap.size ≤ m) : Below w.heap.size w w2 :=
  hb.trans (h.below hb.size fun b hb' e => by omega)
set_option maxRecDepth 8000 in
set_option maxHeartbeats 4000000 in
theorem best_any {w : World} {l : PL} {A B : Option Addr} {c d : Nat} (h : RawAt w l A B c d) (he : EndsAt w) :
    Calls Tryd.prog 30 #[.agg #[.slice A l.long.length c, .int .i64 l.size, .slice B l.knots.length d]] w fun e w' => ∃ ao, e = .returned (.tuple #[.slice ao (bestS l).1.length (bestS l).1.length, .int .i64 (bestS l).2]) ∧ Below w.heap.size w w' ∧ CutAt w' (bestS l).1 ao (bestS l).1.length := by
  by_cases ok : l.Ok
  · obtain ⟨a, rfl, hl⟩ := h.at ok
    have hB := (Below.refl _ w).alloc (Nat.le_refl _) (.cells #[.slice (some a) l.long.length c, .int .i64 l.size, .slice B l.knots.length d] 25)
    have H := Lib.hid (hl.below hB)
    have HE := Lib.hid (he.below hB)
    have HO := Lib.hid (show bestS l = (l.cut l.possible, 0) from if_pos ok)
    clear h hl he
    rw [HO.out]
    go_enter Tryd.func30, Tryd.ntmps30
    go_wp2_with fail
    refine (asked_yes H.out _ _ (anything_right _ l a B c d)).mono ?_
    rintro e w1 ⟨m, rfl, hb1, hm1, hm2⟩
    have hb2 := (Below.refl _ w1).alloc (Nat.le_refl _) (.cells #[.slice (some a) l.long.length c, .int .i64 l.size, .slice B l.knots.length d, .map (some m)] 75)
    have hmw : m < w1.heap.size := (Array.getElem?_eq_some_iff.1 hm1).1
    have HL := Lib.hid ((H.out.below hb1).below hb2)
    have HE2 := Lib.hid ((HE.out.below hb1).below hb2)
    have HM := Lib.hid ((marks_new (l := l) hm1).below hb2)
    have HB := Lib.hid (bb (bb hB hb1) hb2)
    have hmz : w.heap.size ≤ m := by have := hB.size; omega
    have q0 : (w1.alloc (.cells #[.slice (some a) l.long.length c, .int .i64 l.size, .slice B l.knots.length d, .map (some m)] 75)).cell? ⟨w1.heap.size, 0, none⟩ = some (.slice (some a) l.long.length c) := cell_row' (i := 0) (by (repeat (first | with_reducible assumption | with_reducible exact row_new | with_reducible refine row_drew ?_ | with_reducible apply row_same | with_reducible refine row_diff ?_ (by first | omega | (simp only [World.size_alloc, size_setRow, size_drew', World.size_setCell]; omega)) | with_reducible refine row_far ?_ (by (try dsimp only); first | omega | (simp only [World.size_alloc, size_setRow, size_drew', World.size_setCell]; omega)) | with_reducible refine row_new' (by first | (simp only [World.size_alloc, size_setRow, size_drew', World.size_setCell]; done) | omega | (simp only [World.size_alloc, size_setRow, size_drew', World.size_setCell]; omega)) | with_reducible refine row_old ?_ | with_reducible refine row_below (by assumption) ?_ (by first | omega | (simp only [World.size_alloc, size_setRow, size_drew', World.size_setCell]; omega))))) rfl
    have q1 : (w1.alloc (.cells #[.slice (some a) l.long.length c, .int .i64 l.size, .slice B l.knots.length d, .map (some m)] 75)).cell? ⟨w1.heap.size, 1, none⟩ = some (.int .i64 l.size) := cell_row' (i := 1) (by (repeat (first | with_reducible assumption | with_reducible exact row_new | with_reducible refine row_drew ?_ | with_reducible apply row_same | with_reducible refine row_diff ?_ (by first | omega | (simp only [World.size_alloc, size_setRow, size_drew', World.size_setCell]; omega)) | with_reducible refine row_far ?_ (by (try dsimp only); first | omega | (simp only [World.size_alloc, size_setRow, size_drew', World.size_setCell]; omega)) | with_reducible refine row_new' (by first | (simp only [World.size_alloc, size_setRow, size_drew', World.size_setCell]; done) | omega | (simp only [World.size_alloc, size_setRow, size_drew', World.size_setCell]; omega)) | with_reducible refine row_old ?_ | with_reducible refine row_below (by assumption) ?_ (by first | omega | (simp only [World.size_alloc, size_setRow, size_drew', World.size_setCell]; omega))))) rfl
    have q2 : (w1.alloc (.cells #[.slice (some a) l.long.length c, .int .i64 l.size, .slice B l.knots.length d, .map (some m)] 75)).cell? ⟨w1.heap.size, 2, none⟩ = some (.slice B l.knots.length d) := cell_row' (i := 2) (by (repeat (first | with_reducible assumption | with_reducible exact row_new | with_reducible refine row_drew ?_ | with_reducible apply row_same | with_reducible refine row_diff ?_ (by first | omega | (simp only [World.size_alloc, size_setRow, size_drew', World.size_setCell]; omega)) | with_reducible refine row_far ?_ (by (try dsimp only); first | omega | (simp only [World.size_alloc, size_setRow, size_drew', World.size_setCell]; omega)) | with_reducible refine row_new' (by first | (simp only [World.size_alloc, size_setRow, size_drew', World.size_setCell]; done) | omega | (simp only [World.size_alloc, size_setRow, size_drew', World.size_setCell]; omega)) | with_reducible refine row_old ?_ | with_reducible refine row_below (by assumption) ?_ (by first | omega | (simp only [World.size_alloc, size_setRow, size_drew', World.size_setCell]; omega))))) rfl
    have q3 : (w1.alloc (.cells #[.slice (some a) l.long.length c, .int .i64 l.size, .slice B l.knots.length d, .map (some m)] 75)).cell? ⟨w1.heap.size, 3, none⟩ = some (.map (some m)) := cell_row' (i := 3) (by (repeat (first | with_reducible assumption | with_reducible exact row_new | with_reducible refine row_drew ?_ | with_reducible apply row_same | with_reducible refine row_diff ?_ (by first | omega | (simp only [World.size_alloc, size_setRow, size_drew', World.size_setCell]; omega)) | with_reducible refine row_far ?_ (by (try dsimp only); first | omega | (simp only [World.size_alloc, size_setRow, size_drew', World.size_setCell]; omega)) | with_reducible refine row_new' (by first | (simp only [World.size_alloc, size_setRow, size_drew', World.size_setCell]; done) | omega | (simp only [World.size_alloc, size_setRow, size_drew', World.size_setCell]; omega)) | with_reducible refine row_old ?_ | with_reducible refine row_below (by assumption) ?_ (by first | omega | (simp only [World.size_alloc, size_setRow, size_drew', World.size_setCell]; omega))))) rfl
    clear hb1 hb2 hm1 hB
    go_upto_region 4 with (fail)
    generalize hW2 : w1.alloc (.cells #[.slice (some a) l.long.length c, .int .i64 l.size, .slice B l.knots.length d, .map (some m)] 75) = W2 at *
    clear hW2
    go_region_held3 (fun w' => w'.cell? ⟨w1.heap.size, 0, none⟩ = some (.slice (some a) l.long.length c) ∧ w'.cell? ⟨w1.heap.size, 1, none⟩ = some (.int .i64 l.size) ∧ w'.cell? ⟨w1.heap.size, 2, none⟩ = some (.slice B l.knots.length d) ∧ w'.cell? ⟨w1.heap.size, 3, none⟩ = some (.map (some m)))
      (first | go_keep | (go_split_ands; refine ⟨?_, ?_, ?_, ?_⟩ <;> exact HCK.out _ _ (by assumption)) | (go_split_ands; refine ⟨?_, ?_, ?_, ?_⟩ <;> exact cell_below HBC.out (by assumption)))
      (first
        | (go_at_call 72; refine (possible_any (HL.out.below (by exact (Below.refl _ _).drew)) (HE2.out.below (by exact (Below.refl _ _).drew)) (HM.out.below (by exact (Below.refl _ _).drew))).mono ?_; rintro e w4 ⟨rfl, htu, hmk⟩; have HCK := Lib.hid (cellsKept_turned (HM.out.below (by exact (Below.refl _ _).drew)) htu); have HTU := Lib.hid htu; clear htu hmk)
        | (go_at_call 79; refine (cut_any m ((HL.out.below (by exact (Below.refl _ _).drew)).kept HCK.out) l.possible).mono ?_; rintro e w5 ⟨ao, cv, rfl, hbc, hcut, hnil⟩; have HBC := Lib.hid hbc; have HCUT := Lib.hid hcut; have HNIL := Lib.hid hnil; clear hbc hcut hnil))
    have hcap := HCUT.out.cap
    have hlen := HCUT.out.len
    have hfin : Below w.heap.size w w5 := (turned_new HB.out ((Stays.of_below ((Below.refl _ W2).drew)).trans HTU.out) hmz).trans (HBC.out.mono (by have := HB.out.size; have := HTU.out.ext.size; have : W2.drew.heap.size = W2.heap.size := rfl; omega))
    have HFIN := Lib.hid hfin
    clear hfin q0 q1 q2 q3
    go_wp2_with fail
    go_ret2
    exact ⟨ao, rfl, HFIN.out, ⟨HCUT.out.at_, Nat.le_refl _, hlen⟩⟩
  · have hB := (Below.refl _ w).alloc (Nat.le_refl _) (.cells #[.slice A l.long.length c, .int .i64 l.size, .slice B l.knots.length d] 25)
    have H := Lib.hid (h.below hB)
    have HO := Lib.hid (show bestS l = ([], 10) from if_neg ok)
    clear h he
    rw [HO.out]
    go_enter Tryd.func30, Tryd.ntmps30
    go_wp2_with fail
    refine (asked_bad H.out _ _ ok).mono ?_
    rintro e w1 ⟨rfl, hb1⟩
    have HB := Lib.hid (bb hB hb1)
    clear hb1
    unfold zeroLog
    go_wp2_with fail
    go_ret2
    exact ⟨none, rfl, (HB.out.alloc HB.out.size _), ⟨fun k hk => by simp at hk, by simp, by simp⟩⟩
theorem cutF_len (l : PL) (r : Nat → Bool) : ∀ f c, (l.cutF r f c).length ≤ f := by
  intro f
  induction f with
  | zero => intro c; simp [PL.cutF]
  | succ f ih =>
    intro c
    unfold PL.cutF
    split
    · split
      · exact Nat.le_succ_of_le (ih _)
      · simp; exact ih _
    · simp
theorem cut_len (l : PL) (r : Nat → Bool) : (l.cut r).length ≤ 73 := cutF_len l r 73 0
set_option maxRecDepth 8000 in
set_option maxHeartbeats 4000000 in
theorem waste_any {w : World} {l : PL} {A B : Option Addr} {c d : Nat} (h : RawAt w l A B c d) (he : EndsAt w) :
    Calls Tryd.prog 33 #[.agg #[.slice A l.long.length c, .int .i64 l.size, .slice B l.knots.length d]] w fun e w' => e = .returned (.tuple #[.int .i64 (wasteS l).1, .int .i64 (wasteS l).2]) ∧ Below w.heap.size w w' := by
  by_cases ok : l.Ok
  · obtain ⟨a, rfl, hl⟩ := h.at ok
    have hB := (Below.refl _ w).alloc (Nat.le_refl _) (.cells #[.slice (some a) l.long.length c, .int .i64 l.size, .slice B l.knots.length d] 25)
    have H := Lib.hid (hl.below hB)
    have HE := Lib.hid (he.below hB)
    have HO := Lib.hid (show wasteS l = (l.all - l.size * (l.cut l.possible).length, 0) from if_pos ok)
    have hall := all_bd ok
    have hs1 := ok.size1
    have hs6 := ok.size6
    have hcl := cut_len l l.possible
    have hp0 : 0 ≤ l.size * ((l.cut l.possible).length : Int) := Int.mul_nonneg (by omega) (by omega)
    have hp1 : l.size * ((l.cut l.possible).length : Int) ≤ 6 * 73 := Int.mul_le_mul hs6 (by omega) (by omega) (by omega)
    have hmul : IntKind.i64.wrap (l.size * ((l.cut l.possible).length : Int)) = l.size * ((l.cut l.possible).length : Int) := IntWalk.i64_in _ (by omega)
    have hsub : IntKind.i64.wrap (l.all - l.size * ((l.cut l.possible).length : Int)) = l.all - l.size * ((l.cut l.possible).length : Int) := IntWalk.i64_in _ (by omega)
    clear h hl he hp0 hp1
    rw [HO.out]
    go_enter Tryd.func33, Tryd.ntmps33
    go_wp2_with fail
    refine (asked_yes H.out _ _ (anything_right _ l a B c d)).mono ?_
    rintro e w1 ⟨m, rfl, hb1, hm1, hm2⟩
    have hb2 := (Below.refl _ w1).alloc (Nat.le_refl _) (.cells #[.slice (some a) l.long.length c, .int .i64 l.size, .slice B l.knots.length d, .map (some m)] 75)
    have hmw : m < w1.heap.size := (Array.getElem?_eq_some_iff.1 hm1).1
    have HL := Lib.hid ((H.out.below hb1).below hb2)
    have HE2 := Lib.hid ((HE.out.below hb1).below hb2)
    have HM := Lib.hid ((marks_new (l := l) hm1).below hb2)
    have HB := Lib.hid (bb (bb hB hb1) hb2)
    have hmz : w.heap.size ≤ m := by have := hB.size; omega
    have q0 : (w1.alloc (.cells #[.slice (some a) l.long.length c, .int .i64 l.size, .slice B l.knots.length d, .map (some m)] 75)).cell? ⟨w1.heap.size, 0, none⟩ = some (.slice (some a) l.long.length c) := cell_row' (i := 0) (by (repeat (first | with_reducible assumption | with_reducible exact row_new | with_reducible refine row_drew ?_ | with_reducible apply row_same | with_reducible refine row_diff ?_ (by first | omega | (simp only [World.size_alloc, size_setRow, size_drew', World.size_setCell]; omega)) | with_reducible refine row_far ?_ (by (try dsimp only); first | omega | (simp only [World.size_alloc, size_setRow, size_drew', World.size_setCell]; omega)) | with_reducible refine row_new' (by first | (simp only [World.size_alloc, size_setRow, size_drew', World.size_setCell]; done) | omega | (simp only [World.size_alloc, size_setRow, size_drew', World.size_setCell]; omega)) | with_reducible refine row_old ?_ | with_reducible refine row_below (by assumption) ?_ (by first | omega | (simp only [World.size_alloc, size_setRow, size_drew', World.size_setCell]; omega))))) rfl
    have q1 : (w1.alloc (.cells #[.slice (some a) l.long.length c, .int .i64 l.size, .slice B l.knots.length d, .map (some m)] 75)).cell? ⟨w1.heap.size, 1, none⟩ = some (.int .i64 l.size) := cell_row' (i := 1) (by (repeat (first | with_reducible assumption | with_reducible exact row_new | with_reducible refine row_drew ?_ | with_reducible apply row_same | with_reducible refine row_diff ?_ (by first | omega | (simp only [World.size_alloc, size_setRow, size_drew', World.size_setCell]; omega)) | with_reducible refine row_far ?_ (by (try dsimp only); first | omega | (simp only [World.size_alloc, size_setRow, size_drew', World.size_setCell]; omega)) | with_reducible refine row_new' (by first | (simp only [World.size_alloc, size_setRow, size_drew', World.size_setCell]; done) | omega | (simp only [World.size_alloc, size_setRow, size_drew', World.size_setCell]; omega)) | with_reducible refine row_old ?_ | with_reducible refine row_below (by assumption) ?_ (by first | omega | (simp only [World.size_alloc, size_setRow, size_drew', World.size_setCell]; omega))))) rfl
    have q2 : (w1.alloc (.cells #[.slice (some a) l.long.length c, .int .i64 l.size, .slice B l.knots.length d, .map (some m)] 75)).cell? ⟨w1.heap.size, 2, none⟩ = some (.slice B l.knots.length d) := cell_row' (i := 2) (by (repeat (first | with_reducible assumption | with_reducible exact row_new | with_reducible refine row_drew ?_ | with_reducible apply row_same | with_reducible refine row_diff ?_ (by first | omega | (simp only [World.size_alloc, size_setRow, size_drew', World.size_setCell]; omega)) | with_reducible refine row_far ?_ (by (try dsimp only); first | omega | (simp only [World.size_alloc, size_setRow, size_drew', World.size_setCell]; omega)) | with_reducible refine row_new' (by first | (simp only [World.size_alloc, size_setRow, size_drew', World.size_setCell]; done) | omega | (simp only [World.size_alloc, size_setRow, size_drew', World.size_setCell]; omega)) | with_reducible refine row_old ?_ | with_reducible refine row_below (by assumption) ?_ (by first | omega | (simp only [World.size_alloc, size_setRow, size_drew', World.size_setCell]; omega))))) rfl
    have q3 : (w1.alloc (.cells #[.slice (some a) l.long.length c, .int .i64 l.size, .slice B l.knots.length d, .map (some m)] 75)).cell? ⟨w1.heap.size, 3, none⟩ = some (.map (some m)) := cell_row' (i := 3) (by (repeat (first | with_reducible assumption | with_reducible exact row_new | with_reducible refine row_drew ?_ | with_reducible apply row_same | with_reducible refine row_diff ?_ (by first | omega | (simp only [World.size_alloc, size_setRow, size_drew', World.size_setCell]; omega)) | with_reducible refine row_far ?_ (by (try dsimp only); first | omega | (simp only [World.size_alloc, size_setRow, size_drew', World.size_setCell]; omega)) | with_reducible refine row_new' (by first | (simp only [World.size_alloc, size_setRow, size_drew', World.size_setCell]; done) | omega | (simp only [World.size_alloc, size_setRow, size_drew', World.size_setCell]; omega)) | with_reducible refine row_old ?_ | with_reducible refine row_below (by assumption) ?_ (by first | omega | (simp only [World.size_alloc, size_setRow, size_drew', World.size_setCell]; omega))))) rfl
    clear hb1 hb2 hm1 hB
    go_upto_region 4 with (fail)
    generalize hW2 : w1.alloc (.cells #[.slice (some a) l.long.length c, .int .i64 l.size, .slice B l.knots.length d, .map (some m)] 75) = W2 at *
    clear hW2
    go_region_held3 (fun w' => w'.cell? ⟨w1.heap.size, 0, none⟩ = some (.slice (some a) l.long.length c) ∧ w'.cell? ⟨w1.heap.size, 1, none⟩ = some (.int .i64 l.size) ∧ w'.cell? ⟨w1.heap.size, 2, none⟩ = some (.slice B l.knots.length d) ∧ w'.cell? ⟨w1.heap.size, 3, none⟩ = some (.map (some m)))
      (first | go_keep | (go_split_ands; refine ⟨?_, ?_, ?_, ?_⟩ <;> exact cell_below HBC.out (by assumption)) | (go_split_ands; refine ⟨?_, ?_, ?_, ?_⟩ <;> exact HCK.out _ _ (by assumption)) | (go_split_ands; refine ⟨?_, ?_, ?_, ?_⟩ <;> exact cell_below HCO.out (by assumption)))
      (first
        | (go_at_call 58; refine (columns_any m (HL.out.below (by exact (Below.refl _ _).drew))).mono ?_; rintro e w3 ⟨rfl, hco⟩; have HCO := Lib.hid hco; clear hco)
        | (go_at_call 72; refine (possible_any ((HL.out.below (by exact (Below.refl _ _).drew)).below HCO.out) ((HE2.out.below (by exact (Below.refl _ _).drew)).below HCO.out) ((HM.out.below (by exact (Below.refl _ _).drew)).below HCO.out)).mono ?_; rintro e w4 ⟨rfl, htu, hmk⟩; have HCK := Lib.hid (cellsKept_turned ((HM.out.below (by exact (Below.refl _ _).drew)).below HCO.out) htu); have HTU := Lib.hid htu; clear htu hmk)
        | (go_at_call 79; refine (cut_any m (((HL.out.below (by exact (Below.refl _ _).drew)).below HCO.out).kept HCK.out) l.possible).mono ?_; rintro e w5 ⟨ao, cv, rfl, hbc, hcut, hnil⟩; have HBC := Lib.hid hbc; have hcap := hcut.cap; have hlen := hcut.len; clear hbc hcut hnil))
    have hfin : Below w.heap.size w w5 := (turned_new HB.out ((Stays.of_below ((Below.refl _ W2).drew)).trans ((Stays.of_below HCO.out).trans HTU.out)) hmz).trans (HBC.out.mono (by have := HB.out.size; have := HTU.out.ext.size; have := HCO.out.size; have : W2.drew.heap.size = W2.heap.size := rfl; omega))
    have HFIN := Lib.hid hfin
    clear hfin q0 q1 q2 q3
    go_wp2_with fail
    go_ret2
    exact ⟨rfl, HFIN.out⟩
  · have hB := (Below.refl _ w).alloc (Nat.le_refl _) (.cells #[.slice A l.long.length c, .int .i64 l.size, .slice B l.knots.length d] 25)
    have H := Lib.hid (h.below hB)
    have HO := Lib.hid (show wasteS l = (0, 10) from if_neg ok)
    clear h he
    rw [HO.out]
    go_enter Tryd.func33, Tryd.ntmps33
    go_wp2_with fail
    refine (asked_bad H.out _ _ ok).mono ?_
    rintro e w1 ⟨rfl, hb1⟩
    have HB := Lib.hid (bb hB hb1)
    clear hb1
    unfold zeroLog
    go_wp2_with fail
    go_ret2
    exact ⟨rfl, (HB.out.alloc HB.out.size _)⟩
def sureS (l : PL) (cs : List Int) : Int × Int := if l.Ok then (if l.isCut 0 cs = true then (l.count l.possible cs, 0) else (0, 11)) else (0, 10)
set_option maxRecDepth 8000 in
set_option maxHeartbeats 4000000 in
theorem sure_any {w : World} {l : PL} {A B : Option Addr} {c d : Nat} (h : RawAt w l A B c d) (he : EndsAt w) {cs : List Int} {C : Option Addr} {n : Nat} (hC : CutAt w cs C n) :
    Calls Tryd.prog 26 #[.agg #[.slice A l.long.length c, .int .i64 l.size, .slice B l.knots.length d], .slice C cs.length n] w fun e w' => e = .returned (.tuple #[.int .i64 (sureS l cs).1, .int .i64 (sureS l cs).2]) ∧ Below w.heap.size w w' := by
  by_cases ok : l.Ok
  · obtain ⟨a, rfl, hl⟩ := h.at ok
    have hB := ((Below.refl _ w).alloc (Nat.le_refl _) (.cells #[.slice (some a) l.long.length c, .int .i64 l.size, .slice B l.knots.length d] 25)).alloc (by simp) (.cells #[.slice C cs.length n] 22)
    have H := Lib.hid (hl.below hB)
    have HE := Lib.hid (he.below hB)
    have HC := Lib.hid (hC.below hB)
    have rg : ((w.alloc (.cells #[.slice (some a) l.long.length c, .int .i64 l.size, .slice B l.knots.length d] 25)).alloc (.cells #[.slice C cs.length n] 22)).heap[w.heap.size + 1]? = some (.cells #[.slice C cs.length n] 22 (0, 0)) := by (repeat (first | with_reducible assumption | with_reducible exact row_new | with_reducible refine row_drew ?_ | with_reducible apply row_same | with_reducible refine row_diff ?_ (by first | omega | (simp only [World.size_alloc, size_setRow, size_drew', World.size_setCell]; omega)) | with_reducible refine row_far ?_ (by (try dsimp only); first | omega | (simp only [World.size_alloc, size_setRow, size_drew', World.size_setCell]; omega)) | with_reducible refine row_new' (by first | (simp only [World.size_alloc, size_setRow, size_drew', World.size_setCell]; done) | omega | (simp only [World.size_alloc, size_setRow, size_drew', World.size_setCell]; omega)) | with_reducible refine row_old ?_ | with_reducible refine row_below (by assumption) ?_ (by first | omega | (simp only [World.size_alloc, size_setRow, size_drew', World.size_setCell]; omega))))
    have RG := Lib.hid rg
    have HR := Lib.hid (cut_right H.out HC.out (w.heap.size + 1) (cell_row' (i := 0) RG.out rfl))
    have hs1 := ok.size1
    have hs6 := ok.size6
    have hall := all_bd ok
    clear h hl he hC rg
    by_cases hin : l.isCut 0 cs = true
    · have HO := Lib.hid (show sureS l cs = (l.count l.possible cs, 0) by unfold sureS; rw [if_pos ok, if_pos hin])
      rw [HO.out]
      rw [hin] at HR
      have HIN := Lib.hid hin
      clear hin
      go_enter Tryd.func26, Tryd.ntmps26
      go_wp2_with fail
      refine (asked_yes H.out _ _ HR.out).mono ?_
      rintro e w1 ⟨m, rfl, hb1, hm1, hm2⟩
      have hz := hb1.size
      simp only [World.size_alloc] at hz
      have hb2 := (Below.refl _ w1).alloc (Nat.le_refl _) (.cells #[.slice (some a) l.long.length c, .int .i64 l.size, .slice B l.knots.length d, .map (some m)] 75)
      have hmw : m < w1.heap.size := (Array.getElem?_eq_some_iff.1 hm1).1
      have HL := Lib.hid ((H.out.below hb1).below hb2)
      have HE2 := Lib.hid ((HE.out.below hb1).below hb2)
      have HC2 := Lib.hid ((HC.out.below hb1).below hb2)
      have HM := Lib.hid ((marks_new (l := l) hm1).below hb2)
      have HB := Lib.hid (bb (bb hB hb1) hb2)
      have hmz : w.heap.size ≤ m := by have := hB.size; omega
      have rg1 := row_below hb1 RG.out (by simp)
      have q0 : (w1.alloc (.cells #[.slice (some a) l.long.length c, .int .i64 l.size, .slice B l.knots.length d, .map (some m)] 75)).cell? ⟨w1.heap.size, 0, none⟩ = some (.slice (some a) l.long.length c) := cell_row' (i := 0) (by (repeat (first | with_reducible assumption | with_reducible exact row_new | with_reducible refine row_drew ?_ | with_reducible apply row_same | with_reducible refine row_diff ?_ (by first | omega | (simp only [World.size_alloc, size_setRow, size_drew', World.size_setCell]; omega)) | with_reducible refine row_far ?_ (by (try dsimp only); first | omega | (simp only [World.size_alloc, size_setRow, size_drew', World.size_setCell]; omega)) | with_reducible refine row_new' (by first | (simp only [World.size_alloc, size_setRow, size_drew', World.size_setCell]; done) | omega | (simp only [World.size_alloc, size_setRow, size_drew', World.size_setCell]; omega)) | with_reducible refine row_old ?_ | with_reducible refine row_below (by assumption) ?_ (by first | omega | (simp only [World.size_alloc, size_setRow, size_drew', World.size_setCell]; omega))))) rfl
      have q1 : (w1.alloc (.cells #[.slice (some a) l.long.length c, .int .i64 l.size, .slice B l.knots.length d, .map (some m)] 75)).cell? ⟨w1.heap.size, 1, none⟩ = some (.int .i64 l.size) := cell_row' (i := 1) (by (repeat (first | with_reducible assumption | with_reducible exact row_new | with_reducible refine row_drew ?_ | with_reducible apply row_same | with_reducible refine row_diff ?_ (by first | omega | (simp only [World.size_alloc, size_setRow, size_drew', World.size_setCell]; omega)) | with_reducible refine row_far ?_ (by (try dsimp only); first | omega | (simp only [World.size_alloc, size_setRow, size_drew', World.size_setCell]; omega)) | with_reducible refine row_new' (by first | (simp only [World.size_alloc, size_setRow, size_drew', World.size_setCell]; done) | omega | (simp only [World.size_alloc, size_setRow, size_drew', World.size_setCell]; omega)) | with_reducible refine row_old ?_ | with_reducible refine row_below (by assumption) ?_ (by first | omega | (simp only [World.size_alloc, size_setRow, size_drew', World.size_setCell]; omega))))) rfl
      have q2 : (w1.alloc (.cells #[.slice (some a) l.long.length c, .int .i64 l.size, .slice B l.knots.length d, .map (some m)] 75)).cell? ⟨w1.heap.size, 2, none⟩ = some (.slice B l.knots.length d) := cell_row' (i := 2) (by (repeat (first | with_reducible assumption | with_reducible exact row_new | with_reducible refine row_drew ?_ | with_reducible apply row_same | with_reducible refine row_diff ?_ (by first | omega | (simp only [World.size_alloc, size_setRow, size_drew', World.size_setCell]; omega)) | with_reducible refine row_far ?_ (by (try dsimp only); first | omega | (simp only [World.size_alloc, size_setRow, size_drew', World.size_setCell]; omega)) | with_reducible refine row_new' (by first | (simp only [World.size_alloc, size_setRow, size_drew', World.size_setCell]; done) | omega | (simp only [World.size_alloc, size_setRow, size_drew', World.size_setCell]; omega)) | with_reducible refine row_old ?_ | with_reducible refine row_below (by assumption) ?_ (by first | omega | (simp only [World.size_alloc, size_setRow, size_drew', World.size_setCell]; omega))))) rfl
      have q3 : (w1.alloc (.cells #[.slice (some a) l.long.length c, .int .i64 l.size, .slice B l.knots.length d, .map (some m)] 75)).cell? ⟨w1.heap.size, 3, none⟩ = some (.map (some m)) := cell_row' (i := 3) (by (repeat (first | with_reducible assumption | with_reducible exact row_new | with_reducible refine row_drew ?_ | with_reducible apply row_same | with_reducible refine row_diff ?_ (by first | omega | (simp only [World.size_alloc, size_setRow, size_drew', World.size_setCell]; omega)) | with_reducible refine row_far ?_ (by (try dsimp only); first | omega | (simp only [World.size_alloc, size_setRow, size_drew', World.size_setCell]; omega)) | with_reducible refine row_new' (by first | (simp only [World.size_alloc, size_setRow, size_drew', World.size_setCell]; done) | omega | (simp only [World.size_alloc, size_setRow, size_drew', World.size_setCell]; omega)) | with_reducible refine row_old ?_ | with_reducible refine row_below (by assumption) ?_ (by first | omega | (simp only [World.size_alloc, size_setRow, size_drew', World.size_setCell]; omega))))) rfl
      have q4 : (w1.alloc (.cells #[.slice (some a) l.long.length c, .int .i64 l.size, .slice B l.knots.length d, .map (some m)] 75)).cell? ⟨w.heap.size + 1, 0, none⟩ = some (.slice C cs.length n) := cell_row' (i := 0) (row_old rg1) rfl
      clear hb1 hb2 hm1 hB rg1
      go_upto_region 4 with (fail)
      generalize hW2 : w1.alloc (.cells #[.slice (some a) l.long.length c, .int .i64 l.size, .slice B l.knots.length d, .map (some m)] 75) = W2 at *
      clear hW2
      go_region_held3 (fun w' => w'.cell? ⟨w1.heap.size, 0, none⟩ = some (.slice (some a) l.long.length c) ∧ w'.cell? ⟨w1.heap.size, 1, none⟩ = some (.int .i64 l.size) ∧ w'.cell? ⟨w1.heap.size, 2, none⟩ = some (.slice B l.knots.length d) ∧ w'.cell? ⟨w1.heap.size, 3, none⟩ = some (.map (some m)) ∧ w'.cell? ⟨w.heap.size + 1, 0, none⟩ = some (.slice C cs.length n))
        (first | go_keep | (go_split_ands; refine ⟨?_, ?_, ?_, ?_, ?_⟩ <;> exact cell_below HBC.out (by assumption)) | (go_split_ands; refine ⟨?_, ?_, ?_, ?_, ?_⟩ <;> exact cell_below HBW.out (by assumption)) | (go_split_ands; refine ⟨?_, ?_, ?_, ?_, ?_⟩ <;> exact HCK.out _ _ (by assumption)))
        (first
          | (go_at_call 72; refine (possible_any (HL.out.below (by exact (Below.refl _ _).drew)) (HE2.out.below (by exact (Below.refl _ _).drew)) (HM.out.below (by exact (Below.refl _ _).drew))).mono ?_; rintro e w4 ⟨rfl, htu, hmk⟩; have HCK := Lib.hid (cellsKept_turned (HM.out.below (by exact (Below.refl _ _).drew)) htu); have HTU := Lib.hid htu; clear htu hmk)
          | (go_at_call 71; refine (whole_any l a B c d m l.possible).mono ?_; rintro e w5 ⟨bi, br, rfl, hbw, hcnt⟩; have HBW := Lib.hid hbw; have HCNT := Lib.hid hcnt; clear hbw hcnt)
          | (go_at_call 73; refine (count_any HCNT.out hs1 hs6 (((HC2.out.below (by exact (Below.refl _ _).drew)).kept HCK.out).below HBW.out) hall.2 HIN.out).mono ?_; rintro e w6 ⟨rfl, hbc⟩; have HBC := Lib.hid hbc; clear hbc))
      have z2 := HB.out.size
      have z4 := HTU.out.ext.size
      have z5 := HBW.out.size
      have hdz : W2.drew.heap.size = W2.heap.size := rfl
      have HFIN := Lib.hid ((turned_new HB.out ((Stays.of_below ((Below.refl _ W2).drew)).trans HTU.out) hmz).trans ((HBW.out.mono (by omega)).trans (HBC.out.mono (by omega))))
      clear q0 q1 q2 q3 q4
      go_wp2_with fail
      go_ret2
      exact ⟨rfl, HFIN.out⟩
    · have HO := Lib.hid (show sureS l cs = (0, 11) by unfold sureS; rw [if_pos ok, if_neg hin])
      rw [HO.out]
      have hin' : l.isCut 0 cs = false := by simpa using hin
      rw [hin'] at HR
      clear hin hin'
      go_enter Tryd.func26, Tryd.ntmps26
      go_wp2_with fail
      refine (asked_no H.out _ _ HR.out).mono ?_
      rintro e w1 ⟨rfl, hb1⟩
      have HB := Lib.hid (bb hB hb1)
      clear hb1
      unfold zeroLog
      go_wp2_with fail
      go_ret2
      exact ⟨rfl, (HB.out.alloc HB.out.size _)⟩
  · have hB := ((Below.refl _ w).alloc (Nat.le_refl _) (.cells #[.slice A l.long.length c, .int .i64 l.size, .slice B l.knots.length d] 25)).alloc (by simp) (.cells #[.slice C cs.length n] 22)
    have H := Lib.hid (h.below hB)
    have HO := Lib.hid (show sureS l cs = (0, 10) from if_neg ok)
    clear h he
    rw [HO.out]
    go_enter Tryd.func26, Tryd.ntmps26
    go_wp2_with fail
    refine (asked_bad H.out _ _ ok).mono ?_
    rintro e w1 ⟨rfl, hb1⟩
    have HB := Lib.hid (bb hB hb1)
    clear hb1
    unfold zeroLog
    go_wp2_with fail
    go_ret2
    exact ⟨rfl, (HB.out.alloc HB.out.size _)⟩
end Go.Proofs.YtigofgdmefobaaaDoor.Peel
