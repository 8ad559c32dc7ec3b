/- Cuttings and truths in plain numbers. -/
import Derived.Test.YtigofgdmefobaaaDoorG4
/- Cuttings in plain numbers: fewer columns with a knot give no fewer pieces; the knot that is best to know. -/
set_option linter.unusedVariables false
set_option linter.unusedSimpArgs false
namespace Go.Proofs.YtigofgdmefobaaaDoor.Peel
theorem free_or (r : Nat → Bool) (c : Nat) : ∀ n : Nat, (∀ j : Nat, j < n → r (c + j) = false) ∨ ∃ k : Nat, k < n ∧ (∀ j, j < k → r (c + j) = false) ∧ r (c + k) = true := by
  intro n
  induction n with
  | zero => exact .inl fun j hj => by omega
  | succ n ih =>
    rcases ih with h | ⟨k, hk, h1, h2⟩
    · cases hr : r (c + n) with
      | false =>
        refine .inl fun j hj => ?_
        rcases Nat.lt_or_ge j n with hlt | hge
        · exact h j hlt
        · obtain rfl : j = n := by omega
          exact hr
      | true => exact .inr ⟨n, by omega, h, hr⟩
    · exact .inr ⟨k, by omega, h1, h2⟩
/-- Greed stays ahead. -/
theorem cutF_mono (l : PL) (h1 : 1 ≤ l.size) (ha : l.all ≤ 72) (r r' : Nat → Bool) (h : ∀ i, r' i = true → r i = true) : ∀ (n c c' : Nat), (l.all + l.size - c).toNat + (l.all + l.size - c').toNat ≤ n → c' ≤ c →
    (l.cutF r (73 - c) c).length ≤ (l.cutF r' (73 - c') c').length := by
  intro n
  induction n with
  | zero =>
    intro c c' hn hc
    rw [cutF_stop l r c _ (by omega)]
    exact Nat.zero_le _
  | succ n ih =>
    intro c c' hn hc
    by_cases hca : (c : Int) + l.size ≤ l.all
    · rcases free_or r c l.size.toNat with hf | ⟨k, hk, hf, hr⟩
      · rw [cutF_free l h1 ha r c hca (fun j hj => hf j (by omega))]
        rcases free_or r' c' l.size.toNat with hf' | ⟨k, hk, hf', hr'⟩
        · rw [cutF_free l h1 ha r' c' (by omega) (fun j hj => hf' j (by omega))]
          have := ih (c + l.size.toNat) (c' + l.size.toNat) (by omega) (by omega)
          simp only [List.length_cons]
          omega
        · rw [cutF_knot l h1 ha r' c' k (by omega) (by omega) hf' hr']
          rcases Nat.lt_or_ge (c' + k) c with hlt | hge
          · have := ih c (c' + k + 1) (by omega) (by omega)
            rw [cutF_free l h1 ha r c hca (fun j hj => hf j (by omega))] at this
            exact this
          · have e := hf (c' + k - c) (by omega)
            rw [show c + (c' + k - c) = c' + k by omega, h _ hr'] at e
            cases e
      · rw [cutF_knot l h1 ha r c k hca (by omega) hf hr]
        exact ih (c + k + 1) c' (by omega) (by omega)
    · rw [cutF_stop l r c _ hca]
      exact Nat.zero_le _
theorem cut_mono {l : PL} (ok : l.Ok) {r r' : Nat → Bool} (h : ∀ i, r' i = true → r i = true) : (l.cut r).length ≤ (l.cut r').length :=
  cutF_mono l ok.size1 (all_bd ok).2 r r' h _ 0 0 (Nat.le_refl _) (Nat.le_refl _)
/-- A truth of some knots, from columns that have one already. -/
theorem truths_mem (l : PL) : ∀ (ks : List Kn) (r0 r : Nat → Bool), r ∈ l.truths ks r0 ↔ ∃ ss : List (Int × Int), ss.length = ks.length ∧ (∀ (i : Nat) (x : Kn) (s : Int × Int), ks[i]? = some x → ss[i]? = some s → s ∈ x.spots) ∧ r = fun j => r0 j || ss.any fun s => l.mark s j := by
  intro ks
  induction ks with
  | nil =>
    intro r0 r
    simp only [PL.truths, List.mem_singleton]
    constructor
    · rintro rfl
      exact ⟨[], rfl, by simp, by simp⟩
    · rintro ⟨ss, hl, _, rfl⟩
      have : ss = [] := List.eq_nil_of_length_eq_zero hl
      subst this
      simp
  | cons x ks ih =>
    intro r0 r
    simp only [PL.truths, List.mem_flatMap]
    constructor
    · rintro ⟨s, hs, hr⟩
      obtain ⟨ss, hl, hm, rfl⟩ := (ih _ _).1 hr
      refine ⟨s :: ss, by simp [hl], ?_, ?_⟩
      · intro i y t hy ht
        cases i with
        | zero => cases hy; cases ht; exact hs
        | succ i => exact hm i y t (by simpa using hy) (by simpa using ht)
      · funext j
        simp [Bool.or_assoc]
    · rintro ⟨ss, hl, hm, rfl⟩
      cases ss with
      | nil => simp at hl
      | cons s ss =>
        refine ⟨s, hm 0 x s rfl rfl, (ih _ _).2 ⟨ss, by simpa using hl, fun i y t hy ht => hm (i + 1) y t (by simpa using hy) (by simpa using ht), ?_⟩⟩
        funext j
        simp [Bool.or_assoc]
theorem anyOf_true (xs : List (Nat → Bool)) (i : Nat) : anyOf xs i = true ↔ ∃ r ∈ xs, r i = true := by
  unfold anyOf
  simp
theorem spot_single (s : Int × Int) : (⟨⟨s.1, s.1⟩, ⟨s.2, s.2⟩⟩ : Kn).spots = [s] := by
  obtain ⟨a, b⟩ := s
  unfold Kn.spots Kn.many Kn.spot Sp.n
  simp
theorem possible_found {l : PL} {k : Nat} {x : Kn} (hx : l.knots[k]? = some x) {s : Int × Int} (hs : s ∈ x.spots) (i : Nat) (h : (l.found k s).possible i = true) : l.possible i = true := by
  unfold PL.possible at *
  rw [anyOf_true] at *
  obtain ⟨r, hr, hi⟩ := h
  obtain ⟨ss, hl, hm, rfl⟩ := (truths_mem (l.found k s) _ _ _).1 hr
  refine ⟨_, (truths_mem l _ _ _).2 ⟨ss, ?_, ?_, rfl⟩, hi⟩
  · rw [hl]; unfold PL.found; simp
  · intro j y t hy ht
    by_cases hjk : j = k
    · subst hjk
      rw [hx] at hy
      cases hy
      have hlt : j < l.knots.length := (List.getElem?_eq_some_iff.1 hx).1
      have := hm j ⟨⟨s.1, s.1⟩, ⟨s.2, s.2⟩⟩ t (by unfold PL.found; simp [hlt]) ht
      rw [spot_single] at this
      simp at this
      rw [this]
      exact hs
    · exact hm j y t (by unfold PL.found; simp [List.getElem?_set_ne (Ne.symm hjk), hy]) ht
theorem found_cutF (l : PL) (k : Nat) (s : Int × Int) (r : Nat → Bool) : ∀ f c, (l.found k s).cutF r f c = l.cutF r f c := by
  intro f
  induction f with
  | zero => intro c; rfl
  | succ f ih =>
    intro c
    simp only [PL.cutF, show (l.found k s).size = l.size from rfl, show (l.found k s).all = l.all from rfl, ih]
theorem found_pieces {l : PL} (ok : l.Ok) {k : Nat} {x : Kn} (hx : l.knots[k]? = some x) {s : Int × Int} (hs : s ∈ x.spots) : l.pieces ≤ (l.found k s).pieces := by
  unfold PL.pieces
  have := cut_mono ok (r := l.possible) (r' := (l.found k s).possible) (possible_found hx hs)
  have e : (l.found k s).cut (l.found k s).possible = l.cut (l.found k s).possible := found_cutF l k s _ 73 0
  rw [e]
  omega
/-- The least of several numbers, and a first one. -/
theorem fold_min {α : Type} (f : α → Int) : ∀ (xs : List α) (z : Int), (xs.foldl (fun n x => min n (f x)) z ≤ z) ∧ (∀ x ∈ xs, xs.foldl (fun n x => min n (f x)) z ≤ f x) ∧ (xs.foldl (fun n x => min n (f x)) z = z ∨ ∃ x ∈ xs, xs.foldl (fun n x => min n (f x)) z = f x) := by
  intro xs
  induction xs with
  | nil => intro z; simp
  | cons x xs ih =>
    intro z
    obtain ⟨h1, h2, h3⟩ := ih (min z (f x))
    refine ⟨by simp only [List.foldl_cons]; omega, ?_, ?_⟩
    · intro y hy
      rcases List.mem_cons.1 hy with rfl | hy
      · simp only [List.foldl_cons]; omega
      · exact h2 y hy
    · simp only [List.foldl_cons]
      rcases h3 with h3 | ⟨y, hy, h3⟩
      · rw [h3]
        rcases Int.le_total z (f x) with h | h
        · exact .inl (by omega)
        · exact .inr ⟨x, List.mem_cons_self .., by omega⟩
      · exact .inr ⟨y, List.mem_cons_of_mem _ hy, h3⟩
theorem fold_min_same {α β : Type} (f : α → Int) (g : β → Int) (xs : List α) (ys : List β) (z : Int) (h1 : ∀ x ∈ xs, ∃ y ∈ ys, f x = g y) (h2 : ∀ y ∈ ys, ∃ x ∈ xs, f x = g y) :
    xs.foldl (fun n x => min n (f x)) z = ys.foldl (fun n y => min n (g y)) z := by
  obtain ⟨a1, a2, a3⟩ := fold_min f xs z
  obtain ⟨b1, b2, b3⟩ := fold_min g ys z
  refine Int.le_antisymm ?_ ?_
  · rcases b3 with e | ⟨y, hy, e⟩
    · rw [e]; exact a1
    · obtain ⟨x, hx, e2⟩ := h2 y hy
      rw [e, ← e2]
      exact a2 x hx
  · rcases a3 with e | ⟨x, hx, e⟩
    · rw [e]; exact b1
    · obtain ⟨y, hy, e2⟩ := h1 x hx
      rw [e, e2]
      exact b2 y hy
/-- What is told of the knot that is best to know. -/
theorem askF_best (l : PL) : ∀ n, 0 < n → ∃ b : Nat, (l.askF n).1 = (b : Int) ∧ b < n ∧ (l.askF n).2 = l.worst b ∧ ∀ k, k < n → l.worst k < l.worst b ∨ (l.worst k = l.worst b ∧ b ≤ k) := by
  intro n
  induction n with
  | zero => intro h; omega
  | succ n ih =>
    intro _
    have hstep : l.askF (n + 1) = if l.worst n > (l.askF n).2 ∨ (l.askF n).1 < 0 then ((n : Int), l.worst n) else l.askF n := rfl
    rw [hstep]
    clear hstep
    rcases Nat.eq_zero_or_pos n with rfl | hn
    · rw [if_pos (.inr (show (l.askF 0).1 < 0 by show (-1 : Int) < 0; omega))]
      refine ⟨0, rfl, by omega, rfl, fun k hk => ?_⟩
      obtain rfl : k = 0 := by omega
      exact .inr ⟨rfl, Nat.le_refl _⟩
    · obtain ⟨b, e1, e2, e3, e4⟩ := ih hn
      by_cases h : l.worst n > (l.askF n).2 ∨ (l.askF n).1 < 0
      · rw [if_pos h]
        have hgt : l.worst n > l.worst b := by
          rcases h with h | h
          · rw [e3] at h; exact h
          · omega
        refine ⟨n, rfl, by omega, rfl, fun k hk => ?_⟩
        rcases Nat.lt_or_ge k n with hlt | hge
        · rcases e4 k hlt with h | ⟨h, _⟩ <;> exact .inl (by omega)
        · obtain rfl : k = n := by omega
          exact .inr ⟨rfl, Nat.le_refl _⟩
      · rw [if_neg h]
        refine ⟨b, e1, by omega, e3, fun k hk => ?_⟩
        rcases Nat.lt_or_ge k n with hlt | hge
        · exact e4 k hlt
        · obtain rfl : k = n := by omega
          have : ¬ l.worst k > l.worst b := fun hh => h (.inl (by rw [e3]; exact hh))
          rcases Int.lt_or_eq_of_le (show l.worst k ≤ l.worst b by omega) with h' | h'
          · exact .inl h'
          · exact .inr ⟨h', by omega⟩
end Go.Proofs.YtigofgdmefobaaaDoor.Peel

/- PeelMost in plain numbers: no cutting has more whole pieces than the greedy one, and none comes before it. -/
set_option linter.unusedVariables false
set_option linter.unusedSimpArgs false
namespace Go.Proofs.YtigofgdmefobaaaDoor.Peel
theorem free_iff (l : PL) (r : Nat → Bool) (c : Nat) : l.free r c = true ↔ ∀ j : Nat, j < l.size.toNat → r (c + j) = false := by
  unfold PL.free
  simp
/-- Where a window is free, the greedy cutting has a piece no later. -/
theorem cutF_first (l : PL) (h1 : 1 ≤ l.size) (ha : l.all ≤ 72) (r : Nat → Bool) : ∀ (n c x : Nat), x - c ≤ n → c ≤ x → (x : Int) + l.size ≤ l.all → l.free r x = true →
    ∃ p : Nat, c ≤ p ∧ p ≤ x ∧ l.cutF r (73 - c) c = (p : Int) :: l.cutF r (73 - (p + l.size.toNat)) (p + l.size.toNat) := by
  intro n
  induction n with
  | zero =>
    intro c x hn hc hx hf
    obtain rfl : c = x := by omega
    refine ⟨c, Nat.le_refl _, Nat.le_refl _, cutF_free l h1 ha r c hx (fun j hj => ?_)⟩
    exact (free_iff l r c).1 hf j (by omega)
  | succ n ih =>
    intro c x hn hc hx hf
    rcases free_or r c l.size.toNat with h | ⟨k, hk, hfr, hr⟩
    · exact ⟨c, Nat.le_refl _, hc, cutF_free l h1 ha r c (by omega) (fun j hj => h j (by omega))⟩
    · have hlt : c + k < x := by
        rcases Nat.lt_or_ge (c + k) x with h | h
        · exact h
        · have := (free_iff l r x).1 hf (c + k - x) (by omega)
          rw [show x + (c + k - x) = c + k by omega, hr] at this
          cases this
      obtain ⟨p, hp1, hp2, he⟩ := ih (c + k + 1) x (by omega) (by omega) hx hf
      exact ⟨p, by omega, hp2, by rw [cutF_knot l h1 ha r c k (by omega) (by omega) hfr hr, he]⟩
theorem count_cons (l : PL) (r : Nat → Bool) (x : Int) (cs : List Int) : l.count r (x :: cs) = (if l.free r x.toNat = true then 1 else 0) + l.count r cs := by
  unfold PL.count
  by_cases h : l.free r x.toNat = true
  · simp [h]; omega
  · simp [h]
theorem isCut_cons (l : PL) (b x : Int) (cs : List Int) (h : l.isCut b (x :: cs) = true) : b ≤ x ∧ x ≤ l.all - l.size ∧ l.isCut (x + l.size) cs = true := by
  simp only [PL.isCut, Bool.and_eq_true, decide_eq_true_eq] at h
  exact ⟨h.1.1, h.1.2, h.2⟩
theorem cut_most (l : PL) (h1 : 1 ≤ l.size) (ha : l.all ≤ 72) (r : Nat → Bool) : ∀ (cs : List Int) (b : Int) (c : Nat), (c : Int) ≤ b → l.isCut b cs = true → l.count r cs ≤ ((l.cutF r (73 - c) c).length : Int) := by
  intro cs
  induction cs with
  | nil => intro b c _ _; simp [PL.count]
  | cons x cs ih =>
    intro b c hc hcut
    obtain ⟨hb, hx, hcs⟩ := isCut_cons l b x cs hcut
    rw [count_cons]
    obtain ⟨y, rfl⟩ : ∃ y : Nat, x = y := ⟨x.toNat, by omega⟩
    by_cases hf : l.free r (y : Int).toNat = true
    · rw [if_pos hf]
      obtain ⟨p, hp1, hp2, he⟩ := cutF_first l h1 ha r _ c y (Nat.le_refl _) (by omega) (by omega) (by simpa using hf)
      have := ih (y + l.size) (p + l.size.toNat) (by simp; omega) hcs
      rw [he]
      simp only [List.length_cons]
      omega
    · rw [if_neg hf]
      have := ih (y + l.size) c (by omega) hcs
      omega
theorem cut_ahead (l : PL) (h1 : 1 ≤ l.size) (ha : l.all ≤ 72) (r : Nat → Bool) : ∀ (cs : List Int) (b : Int) (c : Nat), (c : Int) ≤ b → l.isCut b cs = true → (∀ x ∈ cs, l.free r x.toNat = true) → ∀ i, i < cs.length → (l.cutF r (73 - c) c).getD i 0 ≤ cs.getD i 0 := by
  intro cs
  induction cs with
  | nil => intro b c _ _ _ i hi; simp at hi
  | cons x cs ih =>
    intro b c hc hcut hfree i hi
    obtain ⟨hb, hx, hcs⟩ := isCut_cons l b x cs hcut
    obtain ⟨y, rfl⟩ : ∃ y : Nat, x = y := ⟨x.toNat, by omega⟩
    have hf := hfree _ (List.mem_cons_self ..)
    obtain ⟨p, hp1, hp2, he⟩ := cutF_first l h1 ha r _ c y (Nat.le_refl _) (by omega) (by omega) (by simpa using hf)
    rw [he]
    cases i with
    | zero => simp; omega
    | succ i =>
      have := ih (y + l.size) (p + l.size.toNat) (by simp; omega) hcs (fun z hz => hfree z (List.mem_cons_of_mem _ hz)) i (by simpa using hi)
      simpa using this
theorem isCut_mono (l : PL) (b b' : Int) (h : b' ≤ b) (cs : List Int) (hc : l.isCut b cs = true) : l.isCut b' cs = true := by
  cases cs with
  | nil => rfl
  | cons x cs =>
    obtain ⟨h1, h2, h3⟩ := isCut_cons l b x cs hc
    simp only [PL.isCut, Bool.and_eq_true, decide_eq_true_eq]
    exact ⟨⟨by omega, h2⟩, h3⟩
theorem cutF_own (l : PL) (h1 : 1 ≤ l.size) (r : Nat → Bool) : ∀ (f c : Nat), l.isCut c (l.cutF r f c) = true ∧ l.count r (l.cutF r f c) = ((l.cutF r f c).length : Int) := by
  intro f
  induction f with
  | zero => intro c; exact ⟨rfl, rfl⟩
  | succ f ih =>
    intro c
    unfold PL.cutF
    by_cases hc : (c : Int) + l.size ≤ l.all
    · rw [if_pos hc]
      cases hf : (List.range l.size.toNat).find? (fun k => r (c + k)) with
      | none =>
        simp only
        have hfr : l.free r (c : Int).toNat = true := by
          rw [free_iff]
          intro j hj
          have := List.find?_eq_none.1 hf j (List.mem_range.2 hj)
          simpa using this
        obtain ⟨i1, i2⟩ := ih (c + l.size.toNat)
        have e : ((c + l.size.toNat : Nat) : Int) = (c : Int) + l.size := by simp; omega
        rw [e] at i1
        refine ⟨?_, ?_⟩
        · simp only [PL.isCut, Bool.and_eq_true, decide_eq_true_eq]
          exact ⟨⟨Int.le_refl _, by omega⟩, i1⟩
        · rw [count_cons, if_pos hfr, i2]
          simp only [List.length_cons]
          omega
      | some k =>
        simp only
        obtain ⟨i1, i2⟩ := ih (c + k + 1)
        exact ⟨isCut_mono l _ _ (by omega) _ i1, i2⟩
    · rw [if_neg hc]
      exact ⟨rfl, rfl⟩
theorem cut_own {l : PL} (ok : l.Ok) (r : Nat → Bool) : l.isCut 0 (l.cut r) = true ∧ l.count r (l.cut r) = ((l.cut r).length : Int) := cutF_own l ok.size1 r 73 0
theorem count_all (l : PL) (r : Nat → Bool) : ∀ (cs : List Int), l.count r cs = (cs.length : Int) → ∀ x ∈ cs, l.free r x.toNat = true := by
  intro cs
  induction cs with
  | nil => intro _ x hx; simp at hx
  | cons y cs ih =>
    intro h x hx
    rw [count_cons] at h
    have hb := count_bd l r cs
    by_cases hf : l.free r y.toNat = true
    · rw [if_pos hf] at h
      rcases List.mem_cons.1 hx with rfl | hx
      · exact hf
      · exact ih (by simp only [List.length_cons] at h; omega) x hx
    · rw [if_neg hf] at h
      simp only [List.length_cons] at h
      omega
/-- The end of a cutting. -/
def PL.endOf (l : PL) : Int → List Int → Int
  | b, [] => b
  | _, c :: cs => l.endOf (c + l.size) cs
theorem isCut_snoc (l : PL) (x : Int) : ∀ (cs : List Int) (b : Int), l.isCut b cs = true → l.endOf b cs ≤ x → x ≤ l.all - l.size → l.isCut b (cs ++ [x]) = true ∧ l.endOf b (cs ++ [x]) = x + l.size := by
  intro cs
  induction cs with
  | nil =>
    intro b _ h1 h2
    refine ⟨?_, rfl⟩
    simp only [List.nil_append, PL.isCut, Bool.and_true, decide_eq_true_eq]
    exact ⟨h1, h2⟩
  | cons y cs ih =>
    intro b hc h1 h2
    obtain ⟨c1, c2, c3⟩ := isCut_cons l b y cs hc
    obtain ⟨i1, i2⟩ := ih (y + l.size) c3 h1 h2
    refine ⟨?_, i2⟩
    simp only [List.cons_append, PL.isCut, Bool.and_eq_true, decide_eq_true_eq]
    exact ⟨⟨c1, c2⟩, i1⟩
end Go.Proofs.YtigofgdmefobaaaDoor.Peel

/- The spots of a knot as a set. -/
set_option linter.unusedVariables false
set_option linter.unusedSimpArgs false
namespace Go.Proofs.YtigofgdmefobaaaDoor.Peel
/-- The spot that number j of eight draws. -/
def wspot (x : Kn) (j : Nat) : Int × Int := (x.a.lo + ((j : Int) % 4) % x.a.n, x.f.lo + ((j : Int) / 4) % x.f.n)
theorem spots_in {x : Kn} {n : Int} (h : x.Ok n) (u v : Int) (hu : 0 ≤ u ∧ u < x.a.n) (hv : 0 ≤ v ∧ v < x.f.n) : (x.a.lo + u, x.f.lo + v) ∈ x.spots := by
  have hc := h.cases
  refine List.mem_map.2 ⟨(u + v * x.a.n).toNat, List.mem_range.2 ?_, ?_⟩
  · unfold Kn.many
    obtain ⟨h1, h2⟩ := hc
    rcases h1 with e | e | e | e <;> rcases h2 with e2 | e2 <;> rw [e, e2] <;> rw [e] at hu <;> rw [e2] at hv <;> omega
  · unfold Kn.spot
    obtain ⟨h1, h2⟩ := hc
    rcases h1 with e | e | e | e <;> rcases h2 with e2 | e2 <;> rw [e] <;> rw [e] at hu <;> rw [e2] at hv <;> refine Prod.ext ?_ ?_ <;> dsimp only <;> omega
theorem spots_of {x : Kn} {n : Int} (h : x.Ok n) {s : Int × Int} (hs : s ∈ x.spots) : ∃ u v, (0 ≤ u ∧ u < x.a.n) ∧ (0 ≤ v ∧ v < x.f.n) ∧ s = (x.a.lo + u, x.f.lo + v) := by
  have hc := h.cases
  obtain ⟨i, hi, rfl⟩ := List.mem_map.1 hs
  rw [List.mem_range] at hi
  unfold Kn.many at hi
  refine ⟨(i : Int) % x.a.n, (i : Int) / x.a.n, ?_, ?_, rfl⟩
  · obtain ⟨h1, h2⟩ := hc
    rcases h1 with e | e | e | e <;> rw [e] <;> omega
  · obtain ⟨h1, h2⟩ := hc
    rcases h1 with e | e | e | e <;> rcases h2 with e2 | e2 <;> rw [e, e2] at hi <;> rw [e, e2] <;> omega
theorem wspot_in {x : Kn} {n : Int} (h : x.Ok n) (j : Nat) : wspot x j ∈ x.spots := by
  have hc := h.cases
  refine spots_in h _ _ ?_ ?_
  · obtain ⟨h1, h2⟩ := hc
    rcases h1 with e | e | e | e <;> rw [e] <;> omega
  · obtain ⟨h1, h2⟩ := hc
    rcases h2 with e | e <;> rw [e] <;> omega
theorem wspot_all {x : Kn} {n : Int} (h : x.Ok n) {s : Int × Int} (hs : s ∈ x.spots) : ∃ j, j < 8 ∧ wspot x j = s := by
  obtain ⟨u, v, hu, hv, rfl⟩ := spots_of h hs
  have hc := h.cases
  refine ⟨(u + 4 * v).toNat, ?_, ?_⟩
  · obtain ⟨h1, h2⟩ := hc
    omega
  · unfold wspot
    obtain ⟨h1, h2⟩ := hc
    rcases h1 with e | e | e | e <;> rcases h2 with e2 | e2 <;> rw [e, e2] <;> rw [e] at hu <;> rw [e2] at hv <;> refine Prod.ext ?_ ?_ <;> dsimp only <;> omega
end Go.Proofs.YtigofgdmefobaaaDoor.Peel
