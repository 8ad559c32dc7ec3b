/- What lies in a block behind allocs, stores and draws: one tactic. -/
import Derived.Test.YtigofgdmefobaaaDoorRib
set_option linter.unusedVariables false
namespace Go.Proofs.YtigofgdmefobaaaDoor.Peel
open Go.RowKit
theorem row_new {w : World} {o : Obj} : (w.alloc o).heap[w.heap.size]? = some o := heap_alloc_new w o
theorem row_old {w : World} {o o' : Obj} {g : Nat} (h : w.heap[g]? = some o) : (w.alloc o').heap[g]? = some o := ((Below.refl _ w).alloc (Nat.le_refl _) o').block g (Array.getElem?_eq_some_iff.1 h).1 |>.trans h
theorem row_drew {w : World} {o : Obj} {g : Nat} (h : w.heap[g]? = some o) : w.drew.heap[g]? = some o := h
theorem row_same {w : World} {g : Nat} {old cs : Array Value} {t : TypeId} (h : w.heap[g]? = some (.cells old t (0, 0))) : (w.setRow g cs).heap[g]? = some (.cells cs t (0, 0)) := setRow_heap w g old cs t (0, 0) h
theorem row_diff {w : World} {g i : Nat} {cs : Array Value} {o : Obj} (h : w.heap[i]? = some o) (hne : i ≠ g) : (w.setRow g cs).heap[i]? = some o := (setRow_other w g i cs hne).trans h
theorem row_far {w : World} {p : Addr} {i : Nat} {v : Value} {o : Obj} (h : w.heap[i]? = some o) (hne : i ≠ p.block) : (w.setCell p v).heap[i]? = some o := (Below.heap_setCell w p v i hne).trans h
theorem row_below {w w1 : World} {B g : Nat} {o : Obj} (hb : Below B w w1) (h : w.heap[g]? = some o) (hg : g < B) : w1.heap[g]? = some o := (hb.block g hg).trans h
theorem row_new' {w : World} {o : Obj} {g : Nat} (h : g = w.heap.size) : (w.alloc o).heap[g]? = some o := by subst h; exact row_new
@[simp] theorem size_drew' (w : World) : w.drew.heap.size = w.heap.size := rfl
theorem cset_same {w : World} {b o : Nat} {v : Value} (h : (w.cell? ⟨b, o, none⟩).isSome = true) : (w.setCell ⟨b, o, none⟩ v).cell? ⟨b, o, none⟩ = some v := by
  obtain ⟨v0, h⟩ := Option.isSome_iff_exists.1 h
  simp only [World.cell?] at *
  revert h
  cases hb : w.heap[b]? with
  | none => simp
  | some ob =>
    cases ob <;> simp
    rename_i cs t fr
    intro h
    have hlt : o < cs.size := (Array.getElem?_eq_some_iff.1 h).1
    simp [World.setCell, Array.getElem?_modify, hb, hlt]
theorem cset_blk {w : World} {p : Addr} {b o : Nat} {v u : Value} (h : w.cell? ⟨b, o, none⟩ = some v) (hne : b ≠ p.block) : (w.setCell p u).cell? ⟨b, o, none⟩ = some v := by
  have := Below.heap_setCell w p u b hne
  simp only [World.cell?, this] at *
  exact h
theorem cset_off {w : World} {b o o' : Nat} {v u : Value} (h : w.cell? ⟨b, o, none⟩ = some v) (hne : o ≠ o') : (w.setCell ⟨b, o', none⟩ u).cell? ⟨b, o, none⟩ = some v := by
  simp only [World.cell?] at *
  revert h
  cases hb : w.heap[b]? with
  | none => simp
  | some ob =>
    cases ob <;> simp
    rename_i cs t fr
    intro h
    simp [World.setCell, Array.getElem?_modify, hb, Ne.symm hne, h]
theorem cell_old {w : World} {p : Addr} {v : Value} {o : Obj} (h : w.cell? p = some v) : (w.alloc o).cell? p = some v := (((Below.refl _ w).alloc (Nat.le_refl _) o).cell (World.block_lt_of_cell? w p h)).trans h
theorem cell_drew' {w : World} {p : Addr} {v : Value} (h : w.cell? p = some v) : w.drew.cell? p = some v := h
theorem cell_row' {w : World} {g i : Nat} {cs : Array Value} {t : TypeId} {v : Value} (h : w.heap[g]? = some (.cells cs t (0, 0))) (hv : cs[i]? = some v) : w.cell? ⟨g, i, none⟩ = some v := (cell_of_row w g i cs t (0, 0) h).trans hv
theorem cell_belowB {w w1 : World} {B b o : Nat} {v : Value} (hb : Below B w w1) (h : w.cell? ⟨b, o, none⟩ = some v) (hlt : b < B) : w1.cell? ⟨b, o, none⟩ = some v := (hb.cell (p := ⟨b, o, none⟩) hlt).trans h
theorem some_drew {w : World} {p : Addr} (h : (w.cell? p).isSome = true) : (w.drew.cell? p).isSome = true := h
theorem some_old {w : World} {p : Addr} {o : Obj} (h : (w.cell? p).isSome = true) : ((w.alloc o).cell? p).isSome = true := by
  obtain ⟨v0, h⟩ := Option.isSome_iff_exists.1 h
  rw [cell_old h]; rfl
theorem some_set {w : World} {b o : Nat} {p : Addr} {u : Value} (h : (w.cell? ⟨b, o, none⟩).isSome = true) (hp : p.spot = none) : ((w.setCell p u).cell? ⟨b, o, none⟩).isSome = true := by
  obtain ⟨v0, h'⟩ := Option.isSome_iff_exists.1 h
  obtain ⟨pb, po, pp⟩ := p
  obtain rfl : pp = none := hp
  by_cases hb : b = pb
  · subst hb
    by_cases ho : o = po
    · subst ho; rw [cset_same h]; rfl
    · rw [cset_off h' ho]; rfl
  · rw [cset_blk h' hb]; rfl
theorem some_below {w w1 : World} {B b o : Nat} (hb : Below B w w1) (h : (w.cell? ⟨b, o, none⟩).isSome = true) (hlt : b < B) : (w1.cell? ⟨b, o, none⟩).isSome = true := by
  rw [hb.cell (p := ⟨b, o, none⟩) hlt]; exact h
theorem some_new {w : World} {b o : Nat} {cs : Array Value} {t : TypeId} (hb : b = w.heap.size) (ho : o < cs.size) : ((w.alloc (.cells cs t)).cell? ⟨b, o, none⟩).isSome = true := by
  subst hb
  rw [cell_row' row_new (Array.getElem?_eq_getElem ho)]; rfl
theorem some_of {w : World} {p : Addr} {v : Value} (h : w.cell? p = some v) : (w.cell? p).isSome = true := by rw [h]; rfl
theorem cell_new' {w : World} {b o : Nat} {cs : Array Value} {t : TypeId} {v : Value} (hb : b = w.heap.size) (hv : cs[o]? = some v) : (w.alloc (.cells cs t)).cell? ⟨b, o, none⟩ = some v := by
  subst hb
  exact cell_row' row_new hv
end Go.Proofs.YtigofgdmefobaaaDoor.Peel
