/- Walks of package peel: the ends of where a knot can be. -/
import Derived.Test.YtigofgdmefobaaaDoorPeelI
set_option linter.unusedVariables false
set_option linter.unusedSimpArgs false
namespace Go.Proofs.YtigofgdmefobaaaDoor.Peel
open Go.RowKit
theorem two_alloc_cell {w : World} {p : Addr} {v : Value} (A B : Obj) (h : w.cell? p = some v) : ((w.alloc A).alloc B).drew.cell? p = some v :=
  cell_below ((((Below.refl _ w).alloc (Nat.le_refl _) A).alloc (by simp) B).drew) h
set_option maxHeartbeats 1000000 in
theorem first_any {w : World} {l : PL} {a : Addr} {B : Option Addr} {c d : Nat} (m : Nat) (h : LogAt w l a B c d) (k : Nat) (x : Kn) (hk : l.knots[k]? = some x) :
    Calls Tryd.prog 113 #[.agg #[.slice (some a) l.long.length c, .int .i64 l.size, .slice B l.knots.length d, .map (some m)], .int .i64 k] w fun e w' => e = .returned (.agg #[.int .i64 x.a.lo, .int .i64 x.f.lo]) ∧ Below w.heap.size w w' := by
  have hlt : k < l.knots.length := (List.getElem?_eq_some_iff.1 hk).1
  have hn := h.ok.knots3
  have hd := h.d
  have hB := ((Below.refl _ w).alloc (Nat.le_refl _) (.cells #[.slice (some a) l.long.length c, .int .i64 l.size, .slice B l.knots.length d, .map (some m)] 75)).alloc (by simp) (.cells #[.int .i64 0, .int .i64 0] 102)
  obtain ⟨b, rfl, k0w, k1w, k2w, k3w⟩ := h.knots k x hk
  have k0 := cell_below hB k0w
  have k2 := cell_below hB k2w
  have l0 : (b.add (k * 4)).block < w.heap.size := World.block_lt_of_cell? w _ k0w
  have e0 : ∀ A B : Obj, ((w.alloc A).alloc B).cell? (b.add (k * 4)) = some (.int .i64 x.a.lo) := fun A B => two_alloc_cell A B k0w
  have e2 : ∀ A B : Obj, ((w.alloc A).alloc B).cell? ⟨(b.add (k * 4)).block, (b.add (k * 4)).off + 2, none⟩ = some (.int .i64 x.f.lo) := fun A B => two_alloc_cell A B k2w
  clear k0 k2 k0w k1w k2w k3w
  clear h hk
  have hk0 : (0 : Int) ≤ (k : Int) := Int.natCast_nonneg _
  have hk1 : (k : Int) < (l.knots.length : Int) := by omega
  go_enter Tryd.func113, Tryd.ntmps113
  go_wp2_with fail
  go_region_held3 (fun w' => w'.cell? ⟨w.heap.size, 0, none⟩ = some (.slice (some a) l.long.length c) ∧ w'.cell? ⟨w.heap.size, 1, none⟩ = some (.int .i64 l.size) ∧ w'.cell? ⟨w.heap.size, 2, none⟩ = some (.slice (some b) l.knots.length d) ∧ w'.cell? ⟨w.heap.size, 3, none⟩ = some (.map (some m)) ∧ w'.cell? (b.add (k * 4)) = some (.int .i64 x.a.lo) ∧ w'.cell? ⟨(b.add (k * 4)).block, (b.add (k * 4)).off + 2, none⟩ = some (.int .i64 x.f.lo))
    (go_keep) (fail)
  go_wp2_with fail
  exact bodyPost_ret (v := .agg #[.int .i64 x.a.lo, .int .i64 x.f.lo]) (by simp [results, Tryd.results113, go_sem]) rfl ⟨rfl, (((Below.refl _ w).alloc (Nat.le_refl _) _).alloc (by simp) _).drew⟩
set_option maxHeartbeats 1000000 in
theorem last_any {w : World} {l : PL} {a : Addr} {B : Option Addr} {c d : Nat} (m : Nat) (h : LogAt w l a B c d) (k : Nat) (x : Kn) (hk : l.knots[k]? = some x) :
    Calls Tryd.prog 114 #[.agg #[.slice (some a) l.long.length c, .int .i64 l.size, .slice B l.knots.length d, .map (some m)], .int .i64 k] w fun e w' => e = .returned (.agg #[.int .i64 x.a.hi, .int .i64 x.f.hi]) ∧ Below w.heap.size w w' := by
  have hlt : k < l.knots.length := (List.getElem?_eq_some_iff.1 hk).1
  have hn := h.ok.knots3
  have hd := h.d
  have hB := ((Below.refl _ w).alloc (Nat.le_refl _) (.cells #[.slice (some a) l.long.length c, .int .i64 l.size, .slice B l.knots.length d, .map (some m)] 75)).alloc (by simp) (.cells #[.int .i64 0, .int .i64 0] 102)
  obtain ⟨b, rfl, k0w, k1w, k2w, k3w⟩ := h.knots k x hk
  have k0 := cell_below hB k1w
  have k2 := cell_below hB k2w
  have l0 : (b.add (k * 4)).block < w.heap.size := World.block_lt_of_cell? w _ k0w
  have e0 : ∀ A B : Obj, ((w.alloc A).alloc B).cell? ⟨(b.add (k * 4)).block, (b.add (k * 4)).off + 1, none⟩ = some (.int .i64 x.a.hi) := fun A B => two_alloc_cell A B k1w
  have e2 : ∀ A B : Obj, ((w.alloc A).alloc B).cell? ⟨(b.add (k * 4)).block, (b.add (k * 4)).off + 3, none⟩ = some (.int .i64 x.f.hi) := fun A B => two_alloc_cell A B k3w
  clear k0 k2 k0w k1w k2w k3w
  clear h hk
  have hk0 : (0 : Int) ≤ (k : Int) := Int.natCast_nonneg _
  have hk1 : (k : Int) < (l.knots.length : Int) := by omega
  go_enter Tryd.func114, Tryd.ntmps114
  go_wp2_with fail
  go_region_held3 (fun w' => w'.cell? ⟨w.heap.size, 0, none⟩ = some (.slice (some a) l.long.length c) ∧ w'.cell? ⟨w.heap.size, 1, none⟩ = some (.int .i64 l.size) ∧ w'.cell? ⟨w.heap.size, 2, none⟩ = some (.slice (some b) l.knots.length d) ∧ w'.cell? ⟨w.heap.size, 3, none⟩ = some (.map (some m)) ∧ w'.cell? ⟨(b.add (k * 4)).block, (b.add (k * 4)).off + 1, none⟩ = some (.int .i64 x.a.hi) ∧ w'.cell? ⟨(b.add (k * 4)).block, (b.add (k * 4)).off + 3, none⟩ = some (.int .i64 x.f.hi))
    (go_keep) (fail)
  go_wp2_with fail
  exact bodyPost_ret (v := .agg #[.int .i64 x.a.hi, .int .i64 x.f.hi]) (by simp [results, Tryd.results114, go_sem]) rfl ⟨rfl, (((Below.refl _ w).alloc (Nat.le_refl _) _).alloc (by simp) _).drew⟩
end Go.Proofs.YtigofgdmefobaaaDoor.Peel
