/- PeelMost in plain numbers: no cutting has more whole pieces than the greedy one, and none comes before it. -/
import Derived.Test.YtigofgdmefobaaaDoorGreed
set_option linter.unusedVariables false
set_option linter.unusedSimpArgs false
namespace Go.Proofs.YtigofgdmefobaaaDoor.Peel
theorem free_iff (l : PL) (r : Nat → Bool) (c : Nat) : l.free r c = true ↔ ∀ j : Nat, j < l.size.toNat → r (c + j) = false := by
  unfold PL.free
  simp
/-- Where a window is free, the greedy cutting has a piece no later. -/
theorem cutF_first (l : PL) (h1 : 1 ≤ l.size) (ha : l.all ≤ 72) (r : Nat → Bool) : ∀ (n c x : Nat), x - c ≤ n → c ≤ x → (x : Int) + l.size ≤ l.all → l.free r x = true →
    ∃ p : Nat, c ≤ p ∧ p ≤ x ∧ l.cutF r (73 - c) c = (p : Int) :: l.cutF r (73 - (p + l.size.toNat)) (p + l.size.toNat) := by
  intro n
  induction n with
  | zero =>
    intro c x hn hc hx hf
    obtain rfl : c = x := by omega
    refine ⟨c, Nat.le_refl _, Nat.le_refl _, cutF_free l h1 ha r c hx (fun j hj => ?_)⟩
    exact (free_iff l r c).1 hf j (by omega)
  | succ n ih =>
    intro c x hn hc hx hf
    rcases free_or r c l.size.toNat with h | ⟨k, hk, hfr, hr⟩
    · exact ⟨c, Nat.le_refl _, hc, cutF_free l h1 ha r c (by omega) (fun j hj => h j (by omega))⟩
    · have hlt : c + k < x := by
        rcases Nat.lt_or_ge (c + k) x with h | h
        · exact h
        · have := (free_iff l r x).1 hf (c + k - x) (by omega)
          rw [show x + (c + k - x) = c + k by omega, hr] at this
          cases this
      obtain ⟨p, hp1, hp2, he⟩ := ih (c + k + 1) x (by omega) (by omega) hx hf
      exact ⟨p, by omega, hp2, by rw [cutF_knot l h1 ha r c k (by omega) (by omega) hfr hr, he]⟩
theorem count_cons (l : PL) (r : Nat → Bool) (x : Int) (cs : List Int) : l.count r (x :: cs) = (if l.free r x.toNat = true then 1 else 0) + l.count r cs := by
  unfold PL.count
  by_cases h : l.free r x.toNat = true
  · simp [h]; omega
  · simp [h]
theorem isCut_cons (l : PL) (b x : Int) (cs : List Int) (h : l.isCut b (x :: cs) = true) : b ≤ x ∧ x ≤ l.all - l.size ∧ l.isCut (x + l.size) cs = true := by
  simp only [PL.isCut, Bool.and_eq_true, decide_eq_true_eq] at h
  exact ⟨h.1.1, h.1.2, h.2⟩
theorem cut_most (l : PL) (h1 : 1 ≤ l.size) (ha : l.all ≤ 72) (r : Nat → Bool) : ∀ (cs : List Int) (b : Int) (c : Nat), (c : Int) ≤ b → l.isCut b cs = true → l.count r cs ≤ ((l.cutF r (73 - c) c).length : Int) := by
  intro cs
  induction cs with
  | nil => intro b c _ _; simp [PL.count]
  | cons x cs ih =>
    intro b c hc hcut
    obtain ⟨hb, hx, hcs⟩ := isCut_cons l b x cs hcut
    rw [count_cons]
    obtain ⟨y, rfl⟩ : ∃ y : Nat, x = y := ⟨x.toNat, by omega⟩
    by_cases hf : l.free r (y : Int).toNat = true
    · rw [if_pos hf]
      obtain ⟨p, hp1, hp2, he⟩ := cutF_first l h1 ha r _ c y (Nat.le_refl _) (by omega) (by omega) (by simpa using hf)
      have := ih (y + l.size) (p + l.size.toNat) (by simp; omega) hcs
      rw [he]
      simp only [List.length_cons]
      omega
    · rw [if_neg hf]
      have := ih (y + l.size) c (by omega) hcs
      omega
theorem cut_ahead (l : PL) (h1 : 1 ≤ l.size) (ha : l.all ≤ 72) (r : Nat → Bool) : ∀ (cs : List Int) (b : Int) (c : Nat), (c : Int) ≤ b → l.isCut b cs = true → (∀ x ∈ cs, l.free r x.toNat = true) → ∀ i, i < cs.length → (l.cutF r (73 - c) c).getD i 0 ≤ cs.getD i 0 := by
  intro cs
  induction cs with
  | nil => intro b c _ _ _ i hi; simp at hi
  | cons x cs ih =>
    intro b c hc hcut hfree i hi
    obtain ⟨hb, hx, hcs⟩ := isCut_cons l b x cs hcut
    obtain ⟨y, rfl⟩ : ∃ y : Nat, x = y := ⟨x.toNat, by omega⟩
    have hf := hfree _ (List.mem_cons_self ..)
    obtain ⟨p, hp1, hp2, he⟩ := cutF_first l h1 ha r _ c y (Nat.le_refl _) (by omega) (by omega) (by simpa using hf)
    rw [he]
    cases i with
    | zero => simp; omega
    | succ i =>
      have := ih (y + l.size) (p + l.size.toNat) (by simp; omega) hcs (fun z hz => hfree z (List.mem_cons_of_mem _ hz)) i (by simpa using hi)
      simpa using this
theorem isCut_mono (l : PL) (b b' : Int) (h : b' ≤ b) (cs : List Int) (hc : l.isCut b cs = true) : l.isCut b' cs = true := by
  cases cs with
  | nil => rfl
  | cons x cs =>
    obtain ⟨h1, h2, h3⟩ := isCut_cons l b x cs hc
    simp only [PL.isCut, Bool.and_eq_true, decide_eq_true_eq]
    exact ⟨⟨by omega, h2⟩, h3⟩
theorem cutF_own (l : PL) (h1 : 1 ≤ l.size) (r : Nat → Bool) : ∀ (f c : Nat), l.isCut c (l.cutF r f c) = true ∧ l.count r (l.cutF r f c) = ((l.cutF r f c).length : Int) := by
  intro f
  induction f with
  | zero => intro c; exact ⟨rfl, rfl⟩
  | succ f ih =>
    intro c
    unfold PL.cutF
    by_cases hc : (c : Int) + l.size ≤ l.all
    · rw [if_pos hc]
      cases hf : (List.range l.size.toNat).find? (fun k => r (c + k)) with
      | none =>
        simp only
        have hfr : l.free r (c : Int).toNat = true := by
          rw [free_iff]
          intro j hj
          have := List.find?_eq_none.1 hf j (List.mem_range.2 hj)
          simpa using this
        obtain ⟨i1, i2⟩ := ih (c + l.size.toNat)
        have e : ((c + l.size.toNat : Nat) : Int) = (c : Int) + l.size := by simp; omega
        rw [e] at i1
        refine ⟨?_, ?_⟩
        · simp only [PL.isCut, Bool.and_eq_true, decide_eq_true_eq]
          exact ⟨⟨Int.le_refl _, by omega⟩, i1⟩
        · rw [count_cons, if_pos hfr, i2]
          simp only [List.length_cons]
          omega
      | some k =>
        simp only
        obtain ⟨i1, i2⟩ := ih (c + k + 1)
        exact ⟨isCut_mono l _ _ (by omega) _ i1, i2⟩
    · rw [if_neg hc]
      exact ⟨rfl, rfl⟩
theorem cut_own {l : PL} (ok : l.Ok) (r : Nat → Bool) : l.isCut 0 (l.cut r) = true ∧ l.count r (l.cut r) = ((l.cut r).length : Int) := cutF_own l ok.size1 r 73 0
theorem count_all (l : PL) (r : Nat → Bool) : ∀ (cs : List Int), l.count r cs = (cs.length : Int) → ∀ x ∈ cs, l.free r x.toNat = true := by
  intro cs
  induction cs with
  | nil => intro _ x hx; simp at hx
  | cons y cs ih =>
    intro h x hx
    rw [count_cons] at h
    have hb := count_bd l r cs
    by_cases hf : l.free r y.toNat = true
    · rw [if_pos hf] at h
      rcases List.mem_cons.1 hx with rfl | hx
      · exact hf
      · exact ih (by simp only [List.length_cons] at h; omega) x hx
    · rw [if_neg hf] at h
      simp only [List.length_cons] at h
      omega
/-- The end of a cutting. -/
def PL.endOf (l : PL) : Int → List Int → Int
  | b, [] => b
  | _, c :: cs => l.endOf (c + l.size) cs
theorem isCut_snoc (l : PL) (x : Int) : ∀ (cs : List Int) (b : Int), l.isCut b cs = true → l.endOf b cs ≤ x → x ≤ l.all - l.size → l.isCut b (cs ++ [x]) = true ∧ l.endOf b (cs ++ [x]) = x + l.size := by
  intro cs
  induction cs with
  | nil =>
    intro b _ h1 h2
    refine ⟨?_, rfl⟩
    simp only [List.nil_append, PL.isCut, Bool.and_true, decide_eq_true_eq]
    exact ⟨h1, h2⟩
  | cons y cs ih =>
    intro b hc h1 h2
    obtain ⟨c1, c2, c3⟩ := isCut_cons l b y cs hc
    obtain ⟨i1, i2⟩ := ih (y + l.size) c3 h1 h2
    refine ⟨?_, i2⟩
    simp only [List.cons_append, PL.isCut, Bool.and_eq_true, decide_eq_true_eq]
    exact ⟨⟨c1, c2⟩, i1⟩
end Go.Proofs.YtigofgdmefobaaaDoor.Peel
