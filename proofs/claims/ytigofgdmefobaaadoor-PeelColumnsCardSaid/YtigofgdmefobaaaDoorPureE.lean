/- What the reference of package peel answers is what the package answers: words for it. -/
import Derived.Test.YtigofgdmefobaaaDoorPureD
set_option linter.unusedVariables false
set_option linter.unusedSimpArgs false
namespace Go.Proofs.YtigofgdmefobaaaDoor.PP
open Go.RowKit Go.Proofs.YtigofgdmefobaaaDoorW.PrintWords Go.Proofs.YtigofgdmefobaaaDoorW.PrintLast Go.Proofs.YtigofgdmefobaaaDoorW.PrintMore
open Peel (PL Kn Sp sumTo)
def rowAt (T : List (List Bool)) (i : Nat) : List Bool := rd_L8 T (i : Int)
theorem rowAt_get {T : List (List Bool)} {j : Nat} (h : j < T.length) : T[j]? = some (rowAt T j) := by
  unfold rowAt rd_L8
  simp [List.getD_eq_getElem?_getD, h]
theorem rowAt_drop {T : List (List Bool)} {j : Nat} (h : j < T.length) : T.drop j = rowAt T j :: T.drop (j + 1) := by
  rw [List.drop_eq_getElem_cons h]
  congr 1
  have := rowAt_get h
  rw [List.getElem?_eq_getElem h] at this
  exact Option.some.inj this
theorem rowAt_mem {T : List (List Bool)} {j : Nat} (h : j < T.length) : rowAt T j ∈ T := List.mem_of_getElem? (rowAt_get h)
theorem mn_min (a b : Int) : mn a b = min a b := by unfold mn; omega
theorem mx_max (a b : Int) : mx a b = max a b := by unfold mx; omega
theorem fold_max {α : Type} (f : α → Int) : ∀ (xs : List α) (z : Int), (z ≤ xs.foldl (fun n x => max n (f x)) z) ∧ (∀ x ∈ xs, f x ≤ xs.foldl (fun n x => max n (f x)) z) ∧ (xs.foldl (fun n x => max n (f x)) z = z ∨ ∃ x ∈ xs, xs.foldl (fun n x => max n (f x)) z = f x) := by
  intro xs
  induction xs with
  | nil => intro z; simp
  | cons x xs ih =>
    intro z
    obtain ⟨h1, h2, h3⟩ := ih (max z (f x))
    refine ⟨by simp only [List.foldl_cons]; omega, ?_, ?_⟩
    · intro y hy
      rcases List.mem_cons.1 hy with rfl | hy
      · simp only [List.foldl_cons]; omega
      · exact h2 y hy
    · simp only [List.foldl_cons]
      rcases h3 with h3 | ⟨y, hy, h3⟩
      · rw [h3]
        rcases Int.le_total z (f x) with h | h
        · exact .inr ⟨x, List.mem_cons_self .., by omega⟩
        · exact .inl (by omega)
      · exact .inr ⟨y, List.mem_cons_of_mem _ hy, h3⟩
theorem fold_max_same {α β : Type} (f : α → Int) (g : β → Int) (xs : List α) (ys : List β) (z : Int) (h1 : ∀ x ∈ xs, ∃ y ∈ ys, f x = g y) (h2 : ∀ y ∈ ys, ∃ x ∈ xs, f x = g y) :
    xs.foldl (fun n x => max n (f x)) z = ys.foldl (fun n y => max n (g y)) z := by
  obtain ⟨a1, a2, a3⟩ := fold_max f xs z
  obtain ⟨b1, b2, b3⟩ := fold_max g ys z
  refine Int.le_antisymm ?_ ?_
  · rcases a3 with e | ⟨x, hx, e⟩
    · rw [e]; exact b1
    · obtain ⟨y, hy, e2⟩ := h1 x hx
      rw [e, e2]
      exact b2 y hy
  · rcases b3 with e | ⟨y, hy, e⟩
    · rw [e]; exact a1
    · obtain ⟨x, hx, e2⟩ := h2 y hy
      rw [e, ← e2]
      exact a2 x hx
theorem fold_max_same' (f : List Bool → Int) (g : (Nat → Bool) → Int) (T : List (List Bool)) (rs : List (Nat → Bool)) (z : Int) (hm : ∀ r, (∃ t ∈ T, asF t = r) ↔ r ∈ rs) (h : ∀ t, f t = g (asF t) := by intro t; rfl) :
    T.foldl (fun n x => max n (f x)) z = rs.foldl (fun n y => max n (g y)) z :=
  fold_max_same f g T rs z (fun t ht => ⟨asF t, (hm _).1 ⟨t, ht, rfl⟩, h t⟩) (fun r hr => by obtain ⟨t, ht, e⟩ := (hm r).2 hr; exact ⟨t, ht, by rw [h, e]⟩)
theorem fold_min_same' (f : List Bool → Int) (g : (Nat → Bool) → Int) (T : List (List Bool)) (rs : List (Nat → Bool)) (z : Int) (hm : ∀ r, (∃ t ∈ T, asF t = r) ↔ r ∈ rs) (h : ∀ t, f t = g (asF t) := by intro t; rfl) :
    T.foldl (fun n x => min n (f x)) z = rs.foldl (fun n y => min n (g y)) z :=
  Peel.fold_min_same f g T rs z (fun t ht => ⟨asF t, (hm _).1 ⟨t, ht, rfl⟩, h t⟩) (fun r hr => by obtain ⟨t, ht, e⟩ := (hm r).2 hr; exact ⟨t, ht, by rw [h, e]⟩)
theorem ok_if {xs : List Int} {s : Int} {ks : List SK} (hf : few xs ks) (ok : (plOf xs s ks).Ok) : Ev (fun k => luciferref01_Check.f k xs s ks) 0 := by
  have := check_ev xs s ks hf
  rwa [if_pos ok] at this
theorem bad_if {xs : List Int} {s : Int} {ks : List SK} (hf : few xs ks) (ok : ¬ (plOf xs s ks).Ok) : Ev (fun k => luciferref01_Check.f k xs s ks) 10 := by
  have := check_ev xs s ks hf
  rwa [if_neg ok] at this
end Go.Proofs.YtigofgdmefobaaaDoor.PP
