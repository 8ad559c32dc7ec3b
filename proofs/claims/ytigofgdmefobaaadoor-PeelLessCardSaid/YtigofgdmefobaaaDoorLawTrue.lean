/- PeelTrue, PeelKnotty and PeelHope in plain numbers. -/
import Derived.Test.YtigofgdmefobaaaDoorG7
import Derived.Test.YtigofgdmefobaaaDoorGiven
set_option linter.unusedVariables false
set_option linter.unusedSimpArgs false
namespace Go.Proofs.YtigofgdmefobaaaDoor.PP
open Go.RowKit Go.Proofs.YtigofgdmefobaaaDoorW.PrintWords Go.Proofs.YtigofgdmefobaaaDoorW.PrintLast Go.Proofs.YtigofgdmefobaaaDoorW.PrintMore
open Peel (PL Kn Sp sumTo)
theorem possible_of {l : PL} {r : Nat → Bool} (hr : r ∈ l.truths l.knots Peel.none72) (i : Nat) (h : r i = true) : l.possible i = true := by
  unfold PL.possible
  rw [Peel.anyOf_true]
  exact ⟨r, hr, h⟩
theorem free_mono (l : PL) {r r' : Nat → Bool} (h : ∀ i, r' i = true → r i = true) (c : Nat) (hf : l.free r c = true) : l.free r' c = true := by
  rw [Peel.free_iff] at *
  intro j hj
  cases hr : r' (c + j) with
  | false => rfl
  | true => have := h _ hr; rw [hf j hj] at this; cases this
theorem count_mono (l : PL) {r r' : Nat → Bool} (h : ∀ i, r' i = true → r i = true) : ∀ cs : List Int, l.count r cs ≤ l.count r' cs := by
  intro cs
  induction cs with
  | nil => exact Int.le_refl _
  | cons c cs ih =>
    rw [Peel.count_cons, Peel.count_cons]
    by_cases hf : l.free r c.toNat = true
    · rw [if_pos hf, if_pos (free_mono l h _ hf)]; omega
    · rw [if_neg hf]; split <;> omega
theorem count_cut_mono {l : PL} (ok : l.Ok) {r r' : Nat → Bool} (h : ∀ i, r' i = true → r i = true) : l.count r' (l.cut r) = ((l.cut r).length : Int) := by
  have h1 := (Peel.cut_own ok r).2
  have h2 := count_mono l h (l.cut r)
  have h3 := Peel.count_bd l r' (l.cut r)
  omega
theorem most_ge (l : PL) (rs : List (Nat → Bool)) (r : Nat → Bool) (hr : r ∈ rs) : ((l.cut r).length : Int) ≤ l.most rs := by
  unfold PL.most
  have : ∀ (rs : List (Nat → Bool)) (z : Int), (z ≤ rs.foldl (fun n r => max n ((l.cut r).length : Int)) z) ∧ ∀ r ∈ rs, ((l.cut r).length : Int) ≤ rs.foldl (fun n r => max n ((l.cut r).length : Int)) z := by
    intro rs
    induction rs with
    | nil => intro z; simp
    | cons x rs ih =>
      intro z
      obtain ⟨a, b⟩ := ih (max z ((l.cut x).length : Int))
      refine ⟨by simp only [List.foldl_cons]; omega, fun y hy => ?_⟩
      simp only [List.foldl_cons]
      rcases List.mem_cons.1 hy with rfl | hy
      · omega
      · exact b y hy
  exact (this rs 0).2 r hr
theorem most_at (l : PL) (rs : List (Nat → Bool)) (hne : rs ≠ []) : ∃ r ∈ rs, l.most rs = ((l.cut r).length : Int) := by
  unfold PL.most
  have : ∀ (rs : List (Nat → Bool)) (z : Int), rs.foldl (fun n r => max n ((l.cut r).length : Int)) z = z ∨ ∃ r ∈ rs, rs.foldl (fun n r => max n ((l.cut r).length : Int)) z = ((l.cut r).length : Int) := by
    intro rs
    induction rs with
    | nil => intro z; simp
    | cons x rs ih =>
      intro z
      simp only [List.foldl_cons]
      rcases ih (max z ((l.cut x).length : Int)) with h | ⟨r, hr, h⟩
      · rw [h]
        rcases Int.le_total z ((l.cut x).length : Int) with h2 | h2
        · exact .inr ⟨x, List.mem_cons_self .., by omega⟩
        · exact .inl (by omega)
      · exact .inr ⟨r, List.mem_cons_of_mem _ hr, h⟩
  rcases this rs 0 with h | h
  · cases rs with
    | nil => exact absurd rfl hne
    | cons r rs =>
      refine ⟨r, List.mem_cons_self .., ?_⟩
      have := most_ge l (r :: rs) r (List.mem_cons_self ..)
      unfold PL.most at this
      rw [h] at this ⊢
      omega
  · exact h
theorem low_le (l : PL) (cs : List Int) (rs : List (Nat → Bool)) (r : Nat → Bool) (hr : r ∈ rs) : l.low cs rs ≤ l.count r cs := (Peel.fold_min (fun r => l.count r cs) rs (cs.length : Int)).2.1 r hr
theorem low_ge (l : PL) (cs : List Int) (rs : List (Nat → Bool)) (n : Int) (h : ∀ r ∈ rs, n ≤ l.count r cs) (h0 : n ≤ cs.length) : n ≤ l.low cs rs := by
  rcases (Peel.fold_min (fun r => l.count r cs) rs (cs.length : Int)).2.2 with e | ⟨r, hr, e⟩
  · unfold PL.low; rw [e]; exact h0
  · unfold PL.low; rw [e]; exact h r hr
theorem high_ge (l : PL) (cs : List Int) (rs : List (Nat → Bool)) (r : Nat → Bool) (hr : r ∈ rs) : l.count r cs ≤ l.high cs rs := by
  unfold PL.high
  have : ∀ (rs : List (Nat → Bool)) (z : Int), (z ≤ rs.foldl (fun n r => max n (l.count r cs)) z) ∧ ∀ r ∈ rs, l.count r cs ≤ rs.foldl (fun n r => max n (l.count r cs)) z := by
    intro rs
    induction rs with
    | nil => intro z; simp
    | cons x rs ih =>
      intro z
      obtain ⟨a, b⟩ := ih (max z (l.count x cs))
      refine ⟨by simp only [List.foldl_cons]; omega, fun y hy => ?_⟩
      simp only [List.foldl_cons]
      rcases List.mem_cons.1 hy with rfl | hy
      · omega
      · exact b y hy
  exact (this rs 0).2 r hr
end Go.Proofs.YtigofgdmefobaaaDoor.PP
