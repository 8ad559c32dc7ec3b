/- Walks of package peel: cuttings, and what may be asked. -/
import Derived.Test.YtigofgdmefobaaaDoorPeelF
import Derived.Shelf.Abstract
set_option linter.unusedVariables false
set_option linter.unusedSimpArgs false
namespace Go.Proofs.YtigofgdmefobaaaDoor.Peel
open Go.RowKit
/-- A list of numbers lies in memory. -/
structure CutAt (w : World) (cs : List Int) (C : Option Addr) (n : Nat) : Prop where
  at_ : ∀ k, k < cs.length → ∃ a, C = some a ∧ w.cell? (a.add k) = some (.int .i64 (cs.getD k 0))
  cap : cs.length ≤ n
  len : cs.length ≤ 4611686018427387904
theorem CutAt.below {w w1 : World} {cs : List Int} {C : Option Addr} {n : Nat} (h : CutAt w cs C n) (hb : Below w.heap.size w w1) : CutAt w1 cs C n where
  at_ := fun k hk => by
    obtain ⟨a, e, h0⟩ := h.at_ k hk
    exact ⟨a, e, cell_below hb h0⟩
  cap := h.cap
  len := h.len
set_option maxHeartbeats 1000000 in
theorem isCut_any {w : World} {l : PL} {a : Addr} {B : Option Addr} {c d : Nat} (m : Nat) (h : LogAt w l a B c d) {cs : List Int} {C : Option Addr} {n : Nat} (hC : CutAt w cs C n) :
    Calls Tryd.prog 68 #[.agg #[.slice (some a) l.long.length c, .int .i64 l.size, .slice B l.knots.length d, .map (some m)], .slice C cs.length n] w fun e w' => e = .returned (.bool (l.isCut 0 cs)) ∧ Below w.heap.size w w' := by
  have hcap := hC.cap
  have hlen := hC.len
  have hs1 := h.ok.size1
  have hs6 := h.ok.size6
  have hall := all_bd h.ok
  have H := Lib.hid h
  have HC := Lib.hid hC
  clear h hC
  have hB := (Below.refl _ w).alloc (Nat.le_refl _) (.cells #[.slice (some a) l.long.length c, .int .i64 l.size, .slice B l.knots.length d, .map (some m)] 75)
  go_enter Tryd.func68, Tryd.ntmps68
  go_wp2_with fail
  go_loopw [5, 7, 10] (fun f _ i wr => ∃ (k : Nat) (b : Int), k ≤ cs.length ∧ i = .int .i64 k ∧ f = .int .i64 b ∧ 0 ≤ b ∧ b ≤ 72 ∧ Hid (l.isCut 0 cs = l.isCut b (cs.drop k)) ∧ Below (w.heap.size + 1) (w.alloc (.cells #[.slice (some a) l.long.length c, .int .i64 l.size, .slice B l.knots.length d, .map (some m)] 75)) wr) (fun _ _ i _ => cs.length - (intOf i).toNat)
  case atStart => exact ⟨0, 0, Nat.zero_le _, rfl, rfl, by omega, by omega, Lib.hid (by simp), Below.refl _ _⟩
  case round =>
    obtain ⟨k, b, hk, rfl, rfl, hb0, hb1, HE, hbr⟩ := hrel
    by_cases hlt : k < cs.length
    · have hsz : w.heap.size < wr.heap.size := by have := hbr.size; simp at this; omega
      have hwr := hB.trans (hbr.mono (Nat.le_succ _))
      obtain ⟨ca, rfl, hcell⟩ := (HC.out.below hwr).at_ k hlt
      have HI := Lib.hid (isCut_at l b cs k hlt)
      have hlog := H.out.below hwr
      have q0 : wr.cell? ⟨w.heap.size, 0, none⟩ = some (.slice (some a) l.long.length c) := (box_cell hbr 0).trans rfl
      have q1 : wr.cell? ⟨w.heap.size, 1, none⟩ = some (.int .i64 l.size) := (box_cell hbr 1).trans rfl
      have q2 : wr.cell? ⟨w.heap.size, 2, none⟩ = some (.slice B l.knots.length d) := (box_cell hbr 2).trans rfl
      have q3 : wr.cell? ⟨w.heap.size, 3, none⟩ = some (.map (some m)) := (box_cell hbr 3).trans rfl
      have HBR := Lib.hid hbr
      have HL := Lib.hid hlog
      clear hbr hlog
      generalize cs.getD k 0 = x at *
      go_upto_region 5 with (fail)
      go_region_held3 (fun w' => w'.cell? ⟨w.heap.size, 0, none⟩ = some (.slice (some a) l.long.length c) ∧ w'.cell? ⟨w.heap.size, 1, none⟩ = some (.int .i64 l.size) ∧ w'.cell? ⟨w.heap.size, 2, none⟩ = some (.slice B l.knots.length d) ∧ w'.cell? ⟨w.heap.size, 3, none⟩ = some (.map (some m)))
        (first | go_keep | (go_split_ands; refine ⟨?_, ?_, ?_, ?_⟩ <;> exact cell_below hb' (by assumption)))
        (first | (go_at_call 58; refine (columns_any m (HL.out.below (by exact (Below.refl _ _).drew))).mono ?_; rintro e w' ⟨rfl, hb'⟩) | (go_at_call 59; refine (in_any _ _ _ _).mono ?_; rintro e w' ⟨rfl, rfl⟩))
      rw [show IntKind.i64.wrap (l.all - l.size) = l.all - l.size from IntWalk.i64_in _ (by omega)]
      have hW := ((HBR.out.drew).trans (hb'.mono hsz))
      have HBW := Lib.hid hW
      have HB' := Lib.hid (bb hwr.drew hb')
      clear hW hb'
      by_cases hx : b ≤ x ∧ x ≤ l.all - l.size
      · have hx1 := hx.1
        have hx2 := hx.2
        rw [decide_eq_true hx1, decide_eq_true hx2]
        simp only [Bool.and_self, Bool.not_true, Bool.or_self]
        go_wp2_with fail
        go_roundw
        case rel => exact ⟨k + 1, x + l.size, by omega, by go_num, rfl, by omega, by omega, Lib.hid (by rw [HE.out, HI.out]; simp [hx1, hx2]), HBW.out⟩
        case measure => simp [intOf]; omega
      · have hx' : (!decide (b ≤ x) || !decide (x ≤ l.all - l.size)) = true := by simp; omega
        rw [hx']
        go_wp2_with fail
        go_ret
        exact ⟨by rw [HE.out, HI.out]; simp; omega, HB'.out⟩
    · obtain rfl : k = cs.length := by omega
      go_wp2_with fail
      go_ret
      exact ⟨by rw [HE.out]; simp [PL.isCut], hB.trans (hbr.mono (Nat.le_succ _))⟩

/-- What may be asked: a function value, and what it answers of a valid log. -/
def Right (g : Nat) (caps : Array Value) (w : World) (l : PL) (a : Addr) (B : Option Addr) (c d : Nat) (b : Bool) : Prop :=
  (∀ args w, (callFunc g args).run Tryd.prog w = .ok (.enter g args) w) ∧ ∀ (w1 : World) (m : Nat), Below w.heap.size w w1 →
    Calls Tryd.prog g (#[.agg #[.slice (some a) l.long.length c, .int .i64 l.size, .slice B l.knots.length d, .map (some m)]] ++ caps) w1 fun e w2 => e = .returned (.bool b) ∧ Below w1.heap.size w1 w2
theorem anything_right (w : World) (l : PL) (a : Addr) (B : Option Addr) (c d : Nat) : Right 57 #[] w l a B c d true := by
  refine ⟨enters_of Tryd.func57 (by kernel_rfl) rfl, fun w1 m hb => ?_⟩
  simp only [Array.append_empty]
  go_enter Tryd.func57, Tryd.ntmps57
  go_wp2_with fail
  go_ret
  exact ⟨rfl, (Below.refl _ _).alloc (Nat.le_refl _) _⟩
theorem cut_right {w : World} {l : PL} {a : Addr} {B : Option Addr} {c d : Nat} (h : LogAt w l a B c d) {cs : List Int} {C : Option Addr} {n : Nat} (hC : CutAt w cs C n) (g : Nat)
    (hg : w.cell? ⟨g, 0, none⟩ = some (.slice C cs.length n)) : Right 70 #[.pointer (some ⟨g, 0, none⟩)] w l a B c d (l.isCut 0 cs) := by
  refine ⟨enters_of Tryd.func70 (by kernel_rfl) rfl, fun w1 m hb => ?_⟩
  have hg1 := cell_below hb hg
  have hl1 := h.below hb
  have hC1 := hC.below hb
  have hB := (Below.refl _ w1).alloc (Nat.le_refl _) (.cells #[.slice (some a) l.long.length c, .int .i64 l.size, .slice B l.knots.length d, .map (some m)] 75)
  have HL := Lib.hid (hl1.below hB)
  have HC := Lib.hid (hC1.below hB)
  clear h hC hl1 hC1 hg hb
  have hlt := World.block_lt_of_cell? w1 _ hg1
  simp only [List.push_toArray, List.append_toArray, List.cons_append, List.nil_append]
  go_enter Tryd.func70, Tryd.ntmps70
  go_wp2_with fail
  refine (isCut_any m HL.out HC.out).mono ?_
  rintro e w' ⟨rfl, hb'⟩
  go_wp2_with fail
  go_ret
  exact ⟨rfl, bb hB hb'⟩
theorem cut_right' {w : World} {l : PL} {a : Addr} {B : Option Addr} {c d : Nat} (h : LogAt w l a B c d) {cs : List Int} {C : Option Addr} {n : Nat} (hC : CutAt w cs C n) (g : Nat)
    (hg : w.cell? ⟨g, 0, none⟩ = some (.slice C cs.length n)) : Right 77 #[.pointer (some ⟨g, 0, none⟩)] w l a B c d (l.isCut 0 cs) := by
  refine ⟨enters_of Tryd.func77 (by kernel_rfl) rfl, fun w1 m hb => ?_⟩
  have hg1 := cell_below hb hg
  have hl1 := h.below hb
  have hC1 := hC.below hb
  have hB := (Below.refl _ w1).alloc (Nat.le_refl _) (.cells #[.slice (some a) l.long.length c, .int .i64 l.size, .slice B l.knots.length d, .map (some m)] 75)
  have HL := Lib.hid (hl1.below hB)
  have HC := Lib.hid (hC1.below hB)
  clear h hC hl1 hC1 hg hb
  have hlt := World.block_lt_of_cell? w1 _ hg1
  simp only [List.push_toArray, List.append_toArray, List.cons_append, List.nil_append]
  go_enter Tryd.func77, Tryd.ntmps77
  go_wp2_with fail
  refine (isCut_any m HL.out HC.out).mono ?_
  rintro e w' ⟨rfl, hb'⟩
  go_wp2_with fail
  go_ret
  exact ⟨rfl, bb hB hb'⟩
end Go.Proofs.YtigofgdmefobaaaDoor.Peel
