/- Walks of package peel: counting whole pieces; greatest. -/
import Derived.Test.YtigofgdmefobaaaDoorPeelN
import Derived.Laws.EntriesVeiled
set_option linter.unusedVariables false
set_option linter.unusedSimpArgs false
namespace Go.Proofs.YtigofgdmefobaaaDoor.Peel
open Go.RowKit

/-- A counter of whole pieces. -/
structure CounterAt (w : World) (l : PL) (a : Addr) (B : Option Addr) (c d m : Nat) (r : Nat → Bool) (bi br : Nat) : Prop where
  f : w.cell? ⟨bi, 0, none⟩ = some (.func (.func 92) #[.agg #[.slice (some a) l.long.length c, .int .i64 l.size, .slice B l.knots.length d, .map (some m)]] #[])
  r : w.heap[br]? = some (.cells (rv r) 86 (0, 0))
theorem CounterAt.below {w w1 : World} {l : PL} {a : Addr} {B : Option Addr} {c d m : Nat} {r : Nat → Bool} {bi br : Nat} (h : CounterAt w l a B c d m r bi br) (hb : Below w.heap.size w w1) : CounterAt w1 l a B c d m r bi br :=
  ⟨cell_below hb h.f, (hb.block br (Array.getElem?_eq_some_iff.1 h.r).1).trans h.r⟩
abbrev counterV (bi br : Nat) : Value := .agg #[.func (.func 93) #[] #[.pointer (some ⟨bi, 0, none⟩), .pointer (some ⟨br, 0, none⟩)]]
set_option maxHeartbeats 2000000 in
theorem whole_any {w : World} (l : PL) (a : Addr) (B : Option Addr) (c d : Nat) (m : Nat) (r : Nat → Bool) :
    Calls Tryd.prog 71 #[.agg #[.slice (some a) l.long.length c, .int .i64 l.size, .slice B l.knots.length d, .map (some m)], .agg (rv r)] w fun e w' => ∃ bi br, e = .returned (counterV bi br) ∧ Below w.heap.size w w' ∧ CounterAt w' l a B c d m r bi br := by
  go_enter Tryd.func71, Tryd.ntmps71
  go_wp2_with (first | ((with_reducible refine gate_box 86 rfl ?_); refine ev_box_rib rfl _ rfl r rfl ?_))
  refine bodyPost_ret (v := counterV (w.heap.size + 1 + 1 + 1) (w.heap.size + 1)) (by simp [results, Tryd.results71, go_sem]) rfl ?_
  exact ⟨_, _, rfl, (((((Below.refl _ w).alloc (Nat.le_refl _) _).alloc (by simp) _).alloc (by simp; omega) _).alloc (by simp; omega) _), cell_new' (by simp) rfl, by (repeat (first | with_reducible assumption | with_reducible exact row_new | with_reducible refine row_drew ?_ | with_reducible apply row_same | with_reducible refine row_diff ?_ (by first | omega | (simp only [World.size_alloc, size_setRow, size_drew', World.size_setCell]; omega)) | with_reducible refine row_far ?_ (by (try dsimp only); first | omega | (simp only [World.size_alloc, size_setRow, size_drew', World.size_setCell]; omega)) | with_reducible refine row_new' (by first | (simp only [World.size_alloc, size_setRow, size_drew', World.size_setCell]; done) | omega | (simp only [World.size_alloc, size_setRow, size_drew', World.size_setCell]; omega)) | with_reducible refine row_old ?_ | with_reducible refine row_below (by assumption) ?_ (by first | omega | (simp only [World.size_alloc, size_setRow, size_drew', World.size_setCell]; omega))))⟩
theorem whole1_any {w : World} {l : PL} {a : Addr} {B : Option Addr} {c d m : Nat} {r : Nat → Bool} {bi br : Nat} (h : CounterAt w l a B c d m r bi br) (h1 : 1 ≤ l.size) (h6 : l.size ≤ 6) (x : Nat) (hx : (x : Int) + l.size ≤ 72) :
    Calls Tryd.prog 93 #[.int .i64 x, .pointer (some ⟨bi, 0, none⟩), .pointer (some ⟨br, 0, none⟩)] w fun e w' => e = .returned (.bool (l.free r x)) ∧ Below w.heap.size w w' := by
  obtain ⟨hf, hr⟩ := h
  go_enter Tryd.func93, Tryd.ntmps93
  go_wp2_with (first | ((with_reducible refine gate_load 86 rfl ?_); refine ev_load_rib rfl _ rfl _ rfl r (by (repeat (first | with_reducible assumption | with_reducible exact row_new | with_reducible refine row_drew ?_ | with_reducible apply row_same | with_reducible refine row_diff ?_ (by first | omega | (simp only [World.size_alloc, size_setRow, size_drew', World.size_setCell]; omega)) | with_reducible refine row_far ?_ (by (try dsimp only); first | omega | (simp only [World.size_alloc, size_setRow, size_drew', World.size_setCell]; omega)) | with_reducible refine row_new' (by first | (simp only [World.size_alloc, size_setRow, size_drew', World.size_setCell]; done) | omega | (simp only [World.size_alloc, size_setRow, size_drew', World.size_setCell]; omega)) | with_reducible refine row_old ?_ | with_reducible refine row_below (by assumption) ?_ (by first | omega | (simp only [World.size_alloc, size_setRow, size_drew', World.size_setCell]; omega))))) ?_))
  refine (isWhole_any m h1 h6 r x hx).mono ?_
  rintro e w' ⟨rfl, hb'⟩
  go_wp2_with fail
  go_ret
  exact ⟨rfl, hb'⟩
/-- How many pieces of a cutting are whole. -/
def PL.count (l : PL) (r : Nat → Bool) (cs : List Int) : Int := ((cs.filter fun c => l.free r c.toNat).length : Nat)
theorem count_take (l : PL) (r : Nat → Bool) (cs : List Int) (k : Nat) (h : k < cs.length) : l.count r (cs.take (k + 1)) = l.count r (cs.take k) + if l.free r (cs.getD k 0).toNat then 1 else 0 := by
  unfold PL.count
  rw [List.take_succ_eq_append_getElem h, List.filter_append]
  have e : cs.getD k 0 = cs[k] := by simp [List.getD_eq_getElem?_getD, List.getElem?_eq_getElem h]
  rw [e]
  cases hf : l.free r (cs[k]).toNat <;> simp [hf]
theorem count_bd (l : PL) (r : Nat → Bool) (cs : List Int) : 0 ≤ l.count r cs ∧ l.count r cs ≤ cs.length := by
  unfold PL.count
  have := List.length_filter_le (fun c : Int => l.free r c.toNat) cs
  omega
theorem isCut_get (l : PL) (h1 : 1 ≤ l.size) : ∀ (cs : List Int) (b : Int), 0 ≤ b → l.isCut b cs = true → ∀ k, k < cs.length → b ≤ cs.getD k 0 ∧ cs.getD k 0 + l.size ≤ l.all := by
  intro cs
  induction cs with
  | nil => intro b _ _ k hk; simp at hk
  | cons c cs ih =>
    intro b hb h k hk
    simp [PL.isCut] at h
    obtain ⟨⟨h2, h3⟩, h4⟩ := h
    cases k with
    | zero => simp; omega
    | succ k =>
      have := ih (c + l.size) (by omega) h4 k (by simpa using hk)
      simp only [List.getD_cons_succ]
      omega
set_option maxHeartbeats 2000000 in
theorem count_any {w : World} {l : PL} {a : Addr} {B : Option Addr} {c d m : Nat} {r : Nat → Bool} {bi br : Nat} (h : CounterAt w l a B c d m r bi br) (h1 : 1 ≤ l.size) (h6 : l.size ≤ 6) {cs : List Int} {C : Option Addr} {n : Nat} (hC : CutAt w cs C n) (ha : l.all ≤ 72) (hcut : l.isCut 0 cs = true) :
    Calls Tryd.prog 73 #[counterV bi br, .slice C cs.length n] w fun e w' => e = .returned (.int .i64 (l.count r cs)) ∧ Below w.heap.size w w' := by
  have hn := hC.cap
  have hm := hC.len
  have HC := Lib.hid hC
  have HK := Lib.hid h
  have HCUT := Lib.hid hcut
  clear hC h hcut
  have hB := (Below.refl _ w).alloc (Nat.le_refl _) (.cells #[.func (.func 93) #[] #[.pointer (some ⟨bi, 0, none⟩), .pointer (some ⟨br, 0, none⟩)]] 92)
  go_enter Tryd.func73, Tryd.ntmps73
  go_wp2_with fail
  go_loopw [5, 10] (fun p q wr => ∃ k : Nat, q = .int .i64 k ∧ k ≤ cs.length ∧ p = .int .i64 (l.count r (cs.take k)) ∧ Below (w.heap.size + 1) (w.alloc (.cells #[.func (.func 93) #[] #[.pointer (some ⟨bi, 0, none⟩), .pointer (some ⟨br, 0, none⟩)]] 92)) wr)
    (fun _ q _ => cs.length - (intOf q).toNat)
  case atStart => exact ⟨0, rfl, Nat.zero_le _, by simp [PL.count], Below.refl _ _⟩
  case round =>
    obtain ⟨k, rfl, hk, rfl, hbr⟩ := hrel
    have hwr := hB.trans (hbr.mono (Nat.le_succ _))
    have hsz : w.heap.size ≤ wr.heap.size := hwr.size
    by_cases hlt : k < cs.length
    · obtain ⟨ca, rfl, hcell⟩ := (HC.out.below hwr).at_ k hlt
      have hx := isCut_get l h1 cs 0 (Int.le_refl _) HCUT.out k hlt
      have HT := Lib.hid (count_take l r cs k hlt)
      have hbd := count_bd l r (cs.take k)
      have hlen : (cs.take k).length = k := by simp; omega
      rw [hlen] at hbd
      have q0 : wr.cell? ⟨w.heap.size, 0, none⟩ = some (.func (.func 93) #[] #[.pointer (some ⟨bi, 0, none⟩), .pointer (some ⟨br, 0, none⟩)]) := (box_cell hbr 0).trans rfl
      have HBR := Lib.hid hbr
      have HWR := Lib.hid hwr
      clear hbr hwr
      generalize cs.getD k 0 = x at *
      obtain ⟨x, rfl⟩ := Int.eq_ofNat_of_zero_le hx.1
      go_wp2_with fail
      refine (whole1_any (HK.out.below HWR.out) h1 h6 x (by omega)).mono ?_
      rintro e w' ⟨rfl, hb'⟩
      have HB' := Lib.hid hb'
      clear hb'
      simp only [Int.toNat_natCast] at HT
      cases hf : l.free r x
      · simp only [hf] at HT
        go_wp2_with fail
        go_roundw
        case rel => exact ⟨k + 1, by go_num, by omega, by rw [HT.out]; simp, HBR.out.trans (HB'.out.mono (by have := HBR.out.size; simpa using this))⟩
        case measure => simp [intOf]; omega
      · simp only [hf] at HT
        go_wp2_with fail
        go_roundw
        case rel => exact ⟨k + 1, by go_num, by omega, by rw [HT.out]; simp, HBR.out.trans (HB'.out.mono (by have := HBR.out.size; simpa using this))⟩
        case measure => simp [intOf]; omega
    · obtain rfl : k = cs.length := by omega
      go_wp2_with fail
      go_ret
      exact ⟨by simp, hwr⟩
set_option maxHeartbeats 1000000 in
/-- 'greatest(x, y)'. -/
theorem greatest_any {w : World} (x y : Int) {g : Nat} (h : w.cell? ⟨g, 0, none⟩ = some (.int .i64 y)) :
    Calls Tryd.prog 78 #[.int .i64 x, .slice (some ⟨g, 0, none⟩) 1 1] w fun e w' => e = .returned (.int .i64 (max x y)) ∧ w' = w := by
  have hlt := World.block_lt_of_cell? w _ h
  go_enter Tryd.func78, Tryd.ntmps78
  go_wp2_with fail
  go_loop [0, 9] (fun p q => ∃ k : Nat, q = .int .i64 k ∧ k ≤ 1 ∧ p = .int .i64 (if k = 0 then x else max x y)) (fun _ q => 1 - (intOf q).toNat)
  case atStart => exact ⟨0, rfl, by omega, by simp⟩
  case round =>
    obtain ⟨k, rfl, hk, rfl⟩ := hrel
    rcases Nat.lt_or_ge k 1 with h1 | h1
    · obtain rfl : k = 0 := by omega
      simp only [if_pos]
      go_wp2_with fail
      go_round
      case rel => exact ⟨1, by go_num, by omega, by simp; omega⟩
      case measure => simp [intOf]
    · obtain rfl : k = 1 := by omega
      go_wp2_with fail
      go_ret
      exact ⟨by simp, rfl⟩
end Go.Proofs.YtigofgdmefobaaaDoor.Peel
