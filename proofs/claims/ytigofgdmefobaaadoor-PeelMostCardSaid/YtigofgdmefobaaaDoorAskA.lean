/- PeelAsk: drawn numbers, and the spots that they reach. -/
import Derived.Test.YtigofgdmefobaaaDoorGreed
import Derived.Test.YtigofgdmefobaaaDoorLawF
set_option linter.unusedVariables false
set_option linter.unusedSimpArgs false
namespace Go.Proofs.YtigofgdmefobaaaDoor.Peel
open Go.RowKit Go.Proofs.YtigofgdmefobaaaDoor.Iter
attribute [local go_sem] Oper.semAt_some
theorem spin_pos (n m : Int) (w : World) (h0 : 0 ≤ n) (h1 : 1 ≤ m) (h2 : m ≤ 1000000) :
    Calls Tryd.prog 49 #[.int .i64 n, .int .i64 m] w fun e w' => e = .returned (.int .i64 (n % m)) ∧ w = w' := by
  have he : n.tmod m = n % m := Int.tmod_eq_emod_of_nonneg h0
  have hr : ¬ n % m < 0 := by have := Int.emod_nonneg n (show m ≠ 0 by omega); omega
  have hm0 : ¬ m < 1 := by omega
  have hmne : m ≠ 0 := by omega
  go_enter Tryd.func49, Tryd.ntmps49
  go_wp2_with fail
  go_ret
  exact ⟨rfl, rfl⟩
theorem drawn_pos (lo hi n : Int) (w : World) (h0 : 0 ≤ n) (h1 : lo ≤ hi) (h2 : 0 ≤ lo) (h3 : hi ≤ 1000) :
    Calls Tryd.prog 50 #[.agg #[.int .i64 lo, .int .i64 hi], .int .i64 n] w fun e w' => e = .returned (.int .i64 (lo + n % (hi - lo + 1))) ∧ Below w.heap.size w w' := by
  have hb := (Below.refl _ w).alloc (Nat.le_refl _) (.cells #[.int .i64 lo, .int .i64 hi] 39)
  have HB := Lib.hid hb
  have c0 : (w.alloc (.cells #[.int .i64 lo, .int .i64 hi] 39)).cell? ⟨w.heap.size, 0, none⟩ = some (.int .i64 lo) := cell_new' rfl rfl
  have c1 : (w.alloc (.cells #[.int .i64 lo, .int .i64 hi] 39)).cell? ⟨w.heap.size, 1, none⟩ = some (.int .i64 hi) := cell_new' rfl rfl
  have hm1 : 1 ≤ hi - lo + 1 := by omega
  have hm2 : hi - lo + 1 ≤ 1000000 := by omega
  have hmod0 := Int.emod_nonneg n (show hi - lo + 1 ≠ 0 by omega)
  have hmod1 := Int.emod_lt_of_pos n (show 0 < hi - lo + 1 by omega)
  have hw1 : IntKind.i64.wrap (hi - lo) = hi - lo := IntWalk.i64_in _ (by omega)
  have hw2 : IntKind.i64.wrap (hi - lo + 1) = hi - lo + 1 := IntWalk.i64_in _ (by omega)
  have hw3 : IntKind.i64.wrap (lo + n % (hi - lo + 1)) = lo + n % (hi - lo + 1) := IntWalk.i64_in _ (by omega)
  clear hb
  go_enter Tryd.func50, Tryd.ntmps50
  go_upto_region 1 with (fail)
  go_region_held3 (fun w' => w'.cell? ⟨w.heap.size, 0, none⟩ = some (.int .i64 lo) ∧ w'.cell? ⟨w.heap.size, 1, none⟩ = some (.int .i64 hi)) (go_keep)
    ((go_at_call 49; (with_reducible refine (spin_pos _ _ _ h0 hm1 hm2).mono ?_); rintro e w2 ⟨rfl, rfl⟩))
  go_wp2_with fail
  go_ret
  exact ⟨rfl, HB.out.drew⟩
/-- The spot that number j of eight draws. -/
def wspot (x : Kn) (j : Nat) : Int × Int := (x.a.lo + ((j : Int) % 4) % x.a.n, x.f.lo + ((j : Int) / 4) % x.f.n)
theorem spots_in {x : Kn} {n : Int} (h : x.Ok n) (u v : Int) (hu : 0 ≤ u ∧ u < x.a.n) (hv : 0 ≤ v ∧ v < x.f.n) : (x.a.lo + u, x.f.lo + v) ∈ x.spots := by
  have hc := h.cases
  refine List.mem_map.2 ⟨(u + v * x.a.n).toNat, List.mem_range.2 ?_, ?_⟩
  · unfold Kn.many
    obtain ⟨h1, h2⟩ := hc
    rcases h1 with e | e | e | e <;> rcases h2 with e2 | e2 <;> rw [e, e2] <;> rw [e] at hu <;> rw [e2] at hv <;> omega
  · unfold Kn.spot
    obtain ⟨h1, h2⟩ := hc
    rcases h1 with e | e | e | e <;> rcases h2 with e2 | e2 <;> rw [e] <;> rw [e] at hu <;> rw [e2] at hv <;> refine Prod.ext ?_ ?_ <;> dsimp only <;> omega
theorem spots_of {x : Kn} {n : Int} (h : x.Ok n) {s : Int × Int} (hs : s ∈ x.spots) : ∃ u v, (0 ≤ u ∧ u < x.a.n) ∧ (0 ≤ v ∧ v < x.f.n) ∧ s = (x.a.lo + u, x.f.lo + v) := by
  have hc := h.cases
  obtain ⟨i, hi, rfl⟩ := List.mem_map.1 hs
  rw [List.mem_range] at hi
  unfold Kn.many at hi
  refine ⟨(i : Int) % x.a.n, (i : Int) / x.a.n, ?_, ?_, rfl⟩
  · obtain ⟨h1, h2⟩ := hc
    rcases h1 with e | e | e | e <;> rw [e] <;> omega
  · obtain ⟨h1, h2⟩ := hc
    rcases h1 with e | e | e | e <;> rcases h2 with e2 | e2 <;> rw [e, e2] at hi <;> rw [e, e2] <;> omega
theorem wspot_in {x : Kn} {n : Int} (h : x.Ok n) (j : Nat) : wspot x j ∈ x.spots := by
  have hc := h.cases
  refine spots_in h _ _ ?_ ?_
  · obtain ⟨h1, h2⟩ := hc
    rcases h1 with e | e | e | e <;> rw [e] <;> omega
  · obtain ⟨h1, h2⟩ := hc
    rcases h2 with e | e <;> rw [e] <;> omega
theorem wspot_all {x : Kn} {n : Int} (h : x.Ok n) {s : Int × Int} (hs : s ∈ x.spots) : ∃ j, j < 8 ∧ wspot x j = s := by
  obtain ⟨u, v, hu, hv, rfl⟩ := spots_of h hs
  have hc := h.cases
  refine ⟨(u + 4 * v).toNat, ?_, ?_⟩
  · obtain ⟨h1, h2⟩ := hc
    omega
  · unfold wspot
    obtain ⟨h1, h2⟩ := hc
    rcases h1 with e | e | e | e <;> rcases h2 with e2 | e2 <;> rw [e, e2] <;> rw [e] at hu <;> rw [e2] at hv <;> refine Prod.ext ?_ ?_ <;> dsimp only <;> omega
/-- How few pieces, at the worst, of the first i of eight drawn spots. -/
def worstUpto (l : PL) (k : Nat) (x : Kn) (i : Nat) : Int := (List.range i).foldl (fun n j => min n (l.found k (wspot x j)).pieces) l.all
theorem worstUpto_succ (l : PL) (k : Nat) (x : Kn) (i : Nat) : worstUpto l k x (i + 1) = min (worstUpto l k x i) (l.found k (wspot x i)).pieces := by
  unfold worstUpto
  rw [List.range_succ, List.foldl_append]
  rfl
theorem worstUpto_all {l : PL} {k : Nat} {x : Kn} {n : Int} (h : x.Ok n) (hx : l.knots[k]? = some x) : worstUpto l k x 8 = l.worst k := by
  have e : l.worst k = l.worstOf k x.spots := by unfold PL.worst; simp [List.getD_eq_getElem?_getD, hx]
  rw [e]
  unfold worstUpto PL.worstOf
  refine fold_min_same (fun j => (l.found k (wspot x j)).pieces) (fun s => (l.found k s).pieces) (List.range 8) x.spots l.all (fun j _ => ⟨_, wspot_in h j, rfl⟩) (fun s hs => ?_)
  obtain ⟨j, hj, e⟩ := wspot_all h hs
  exact ⟨j, List.mem_range.2 hj, by rw [e]⟩
/-- The least pieces of a knot's spots are no fewer than those of the log. -/
theorem worst_ge {l : PL} (ok : l.Ok) {k : Nat} {x : Kn} (hx : l.knots[k]? = some x) (hp : l.pieces ≤ l.all) : l.pieces ≤ l.worst k := by
  have e : l.worst k = l.worstOf k x.spots := by unfold PL.worst; simp [List.getD_eq_getElem?_getD, hx]
  rw [e]
  unfold PL.worstOf
  obtain ⟨_, _, h3⟩ := fold_min (fun s => (l.found k s).pieces) x.spots l.all
  rcases h3 with h | ⟨s, hs, h⟩
  · rw [h]; exact hp
  · rw [h]; exact found_pieces ok hx hs
theorem cutF_count (l : PL) (h1 : 1 ≤ l.size) (r : Nat → Bool) : ∀ (f c : Nat), (c : Int) ≤ l.all → ((l.cutF r f c).length : Int) ≤ l.all - c := by
  intro f
  induction f with
  | zero => intro c h; simp [PL.cutF]; omega
  | succ f ih =>
    intro c h
    unfold PL.cutF
    by_cases hc : (c : Int) + l.size ≤ l.all
    · rw [if_pos hc]
      cases hf : (List.range l.size.toNat).find? (fun k => r (c + k)) with
      | none =>
        have := ih (c + l.size.toNat) (by omega)
        simp only [List.length_cons]
        omega
      | some k =>
        have hk := List.mem_range.1 (List.mem_of_find?_eq_some hf)
        have := ih (c + k + 1) (by omega)
        simp only
        omega
    · rw [if_neg hc]
      simp
      omega
theorem pieces_le {l : PL} (ok : l.Ok) : l.pieces ≤ l.all := by
  have := cutF_count l ok.size1 l.possible 73 0 (by simp; exact (all_bd ok).1)
  unfold PL.pieces PL.cut
  omega
end Go.Proofs.YtigofgdmefobaaaDoor.Peel
