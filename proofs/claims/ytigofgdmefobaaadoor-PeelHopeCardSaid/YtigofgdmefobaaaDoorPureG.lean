/- The laws' own functions in plain numbers: truths that numbers choose, the columns that then have a knot, whole pieces. -/
import Derived.Test.YtigofgdmefobaaaDoorPPxf41
import Derived.Test.YtigofgdmefobaaaDoorPPxf40
import Derived.Test.YtigofgdmefobaaaDoorPPxf44
import Derived.Test.YtigofgdmefobaaaDoorPPxf55
import Derived.Test.YtigofgdmefobaaaDoorPureF
import Derived.Test.YtigofgdmefobaaaDoorPureB
set_option linter.unusedVariables false
set_option linter.unusedSimpArgs false
namespace Go.Proofs.YtigofgdmefobaaaDoor.PP
open Go.RowKit Go.Proofs.YtigofgdmefobaaaDoorW.PrintWords Go.Proofs.YtigofgdmefobaaaDoorW.PrintLast Go.Proofs.YtigofgdmefobaaaDoorW.PrintMore
open Peel (PL Kn Sp sumTo)
theorem few_ok {xs : List Int} {s : Int} {ks : List SK} (ok : (plOf xs s ks).Ok) : few xs ks ∧ ks.length ≤ 3 ∧ xs.length ≤ 6 := by
  have h3 := ok.knots3
  rw [show (plOf xs s ks).knots.length = ks.length from List.length_map ..] at h3
  have h6 : xs.length ≤ 6 := ok.turns
  exact ⟨⟨by omega, by omega⟩, h3, h6⟩
/-- Where numbers choose that a knot is. -/
def spotOf (x : SK) (p q : Int) : Int × Int := (x.f0.f0 + p % (x.f0.f1 - x.f0.f0 + 1), x.f1.f0 + q % (x.f1.f1 - x.f1.f0 + 1))
def atSpot (s : Int × Int) : SK := ⟨⟨s.1, s.1⟩, ⟨s.2, s.2⟩⟩
def chosen (ks : List SK) (bits : List Int) (i : Nat) : Int × Int := spotOf (knotAt ks i) (itemZ bits (2 * (i : Int))) (itemZ bits (2 * (i : Int) + 1))
def trulyL (ks : List SK) (bits : List Int) : List SK := (List.range ks.length).map fun i => atSpot (chosen ks bits i)
theorem only_ev (n : Int) : luciferref00_Only.f n = some (n, n) := rfl
theorem spotOf_mem {x : SK} {n : Int} (h : (knOf x).Ok n) (p q : Int) : spotOf x p q ∈ (knOf x).spots := by
  have a2 : x.f0.f0 ≤ x.f0.f1 := h.a.ends
  have b2 : x.f1.f0 ≤ x.f1.f1 := h.f.ends
  exact Peel.spots_in h (p % (x.f0.f1 - x.f0.f0 + 1)) (q % (x.f1.f1 - x.f1.f0 + 1)) ⟨Int.emod_nonneg _ (by omega), Int.emod_lt_of_pos _ (by omega)⟩ ⟨Int.emod_nonneg _ (by omega), Int.emod_lt_of_pos _ (by omega)⟩
theorem truly_ev {xs : List Int} {s : Int} {ks : List SK} (ok : (plOf xs s ks).Ok) {bits : List Int} (hn : fewI bits) : Ev (fun k => luciferlaw01_truly.f k xs s ks bits) (xs, s, trulyL ks bits) := by
  obtain ⟨hf, h3, h6⟩ := few_ok ok
  obtain ⟨_, _, hK⟩ := (ok_iff xs s ks).1 ok
  have loop : ∀ (d i : Nat), i ≤ ks.length → ks.length - i = d → Ev (fun k => luciferlaw01_truly.l0 k bits (i : Int) xs s ks xs s ((List.range i).map fun i => atSpot (chosen ks bits i))) (xs, s, trulyL ks bits) := by
    intro d
    induction d with
    | zero =>
      intro i hi hd
      obtain rfl : i = ks.length := by omega
      refine Ev.step (fun k => ?_) (Ev.now _)
      simp only [luciferlaw01_truly.l0]
      rw [if_neg (by omega)]
      rfl
    | succ d ih =>
      intro i hi hd
      have hk := hK i (by omega)
      have e : rd_T61 ks (i : Int) = knotAt ks i := rfl
      have b1 : 0 ≤ (knotAt ks i).f0.f0 := hk.a.low
      have b2 : (knotAt ks i).f0.f0 ≤ (knotAt ks i).f0.f1 := hk.a.ends
      have b3 : (knotAt ks i).f0.f1 ≤ 23 := hk.a.high
      have c1 : 0 ≤ (knotAt ks i).f1.f0 := hk.f.low
      have c2 : (knotAt ks i).f1.f0 ≤ (knotAt ks i).f1.f1 := hk.f.ends
      have c3 : (knotAt ks i).f1.f1 ≤ (xs.length : Int) := hk.f.high
      have := ih (i + 1) (by omega) (by omega)
      rw [List.range_succ, List.map_append] at this
      refine Ev.step (fun k => ?_) this
      simp only [luciferlaw01_truly.l0]
      rw [if_pos (by omega), if_pos (by omega), wrap_id (x := 2 * (i : Int)) (by omega) (by omega), wrap_id (x := 2 * (i : Int) + 1) (by omega) (by omega), item_ev _ hn, item_ev _ hn, e]
      simp only [Option.bind_some]
      rw [drawn_ev _ _ _ b1 b2 (by omega)]
      simp only [Option.bind_some, only_ev]
      rw [drawn_ev _ _ _ c1 c2 (by omega)]
      simp only [Option.bind_some]
      rw [if_pos (by simp; omega), wrap_succ _ (by omega)]
      rfl
  have := loop ks.length 0 (by omega) (by omega)
  exact this
theorem truly_get {ks : List SK} {bits : List Int} {i : Nat} (h : i < ks.length) : (trulyL ks bits)[i]? = some (atSpot (chosen ks bits i)) := by
  unfold trulyL
  rw [List.getElem?_map, List.getElem?_range h]
  rfl
theorem truly_len (ks : List SK) (bits : List Int) : (trulyL ks bits).length = ks.length := by simp [trulyL]
theorem truly_at {ks : List SK} {bits : List Int} {i : Nat} (h : i < ks.length) : knotAt (trulyL ks bits) i = atSpot (chosen ks bits i) := by
  have := knotAt_get (ks := trulyL ks bits) (j := i) (by rw [truly_len]; exact h)
  rw [truly_get h] at this
  exact (Option.some.inj this).symm
theorem chosen_mem {xs : List Int} {s : Int} {ks : List SK} (ok : (plOf xs s ks).Ok) (bits : List Int) {i : Nat} (h : i < ks.length) : chosen ks bits i ∈ (knOf (knotAt ks i)).spots :=
  spotOf_mem (((ok_iff xs s ks).1 ok).2.2 i h) _ _
theorem truly_ok {xs : List Int} {s : Int} {ks : List SK} (ok : (plOf xs s ks).Ok) (bits : List Int) : (plOf xs s (trulyL ks bits)).Ok := by
  obtain ⟨⟨h1, h2, h3⟩, h4, h5⟩ := (ok_iff xs s ks).1 ok
  refine (ok_iff xs s _).2 ⟨⟨h1, h2, by rw [truly_len]; exact h3⟩, h4, fun j hj => ?_⟩
  rw [truly_len] at hj
  rw [truly_at hj]
  have hm := chosen_mem ok bits hj
  generalize chosen ks bits j = p at hm ⊢
  obtain ⟨p1, p2⟩ := p
  obtain ⟨i, hi⟩ := List.getElem?_of_mem hm
  have := Peel.spots_bd (h5 j hj) hi
  exact ⟨⟨this.1, Int.le_refl _, this.2.1, by show p1 - p1 ≤ 3; omega⟩, ⟨this.2.2.1, Int.le_refl _, this.2.2.2, by show p2 - p2 ≤ 1; omega⟩⟩
/-- The columns that have a knot where numbers choose that knots are. -/
def trueF (xs : List Int) (s : Int) (ks : List SK) (bits : List Int) : Nat → Bool := fun c => ((List.range ks.length).map (chosen ks bits)).any fun p => (plOf xs s ks).mark p c
theorem trueF_mem {xs : List Int} {s : Int} {ks : List SK} (ok : (plOf xs s ks).Ok) (bits : List Int) : trueF xs s ks bits ∈ (plOf xs s ks).truths (plOf xs s ks).knots Peel.none72 := by
  refine (Peel.truths_mem _ _ _ _).2 ⟨(List.range ks.length).map (chosen ks bits), ?_, ?_, ?_⟩
  · rw [show (plOf xs s ks).knots.length = ks.length from List.length_map ..]; simp
  · intro m x q hx hq
    have hlt : m < ks.length := by
      have := (List.getElem?_eq_some_iff.1 hx).1
      rwa [show (plOf xs s ks).knots.length = ks.length from List.length_map ..] at this
    rw [knots_get hlt] at hx
    cases hx
    rw [List.getElem?_map, List.getElem?_range hlt] at hq
    cases hq
    exact chosen_mem ok bits hlt
  · funext j
    simp [trueF, Peel.none72]
/-- A column that numbers are in: the turn's first one, and the angle's. -/
theorem knots_ev {xs : List Int} {s : Int} {ks : List SK} (ok : (plOf xs s ks).Ok) (hs : ∀ j, j < ks.length → ∃ p, knotAt ks j = atSpot p) :
    ∃ out, Ev (fun k => luciferlaw01_knots.f k xs s ks) out ∧ (out.length : Int) = (plOf xs s ks).all ∧ ∀ c, asF out c = true ↔ ∃ j, j < ks.length ∧ (plOf xs s ks).mark ((knotAt ks j).f0.f0, (knotAt ks j).f1.f0) c = true := by
  obtain ⟨hf, h3, h6⟩ := few_ok ok
  obtain ⟨_, hL, hK⟩ := (ok_iff xs s ks).1 ok
  have el : (plOf xs s ks).long = xs := rfl
  have hb := Peel.all_bd ok
  -- the columns of a turn
  have inner : ∀ (t : Nat), t < xs.length → ∀ (base : List Bool) (R : List Bool), (base.length : Int) = sumTo xs t → ∀ (d j : Nat) (row : List Bool), j ≤ ks.length → ks.length - j = d → (row.length : Int) = xs.getD t 0 →
      (∀ row' : List Bool, (row'.length : Int) = xs.getD t 0 → (∀ c, asF row' c = true ↔ asF row c = true ∨ ∃ j', j ≤ j' ∧ j' < ks.length ∧ (knotAt ks j').f1.f0 ≤ t ∧ (knotAt ks j').f0.f0 * xs.getD t 0 / 24 = (c : Int)) → Ev (fun k => luciferlaw01_knots.l0 k (base ++ row') ((t + 1 : Nat) : Int) xs s ks) R) →
      Ev (fun k => luciferlaw01_knots.l1 k base (t : Int) row (j : Int) xs s ks) R := by
    intro t ht base R hbase d
    have hs1 := Peel.sumTo_bd ok (t + 1) (by rw [el]; omega)
    rw [el, Peel.sumTo_succ _ _ ht] at hs1
    have hlong := (hL t ht).1
    induction d with
    | zero =>
      intro j row hj hd hrow hR
      obtain rfl : j = ks.length := by omega
      refine Ev.step (fun k => ?_) (hR row hrow (fun c => ⟨.inl, fun h => h.resolve_right (by rintro ⟨j', a1, a2, _⟩; omega)⟩))
      simp only [luciferlaw01_knots.l1]
      rw [if_neg (by omega), if_pos (by omega), wrap_succ _ (by omega)]
    | succ d ih =>
      intro j row hj hd hrow hR
      have hlt : j < ks.length := by omega
      have hk := hK j hlt
      have e : rd_T61 ks (j : Int) = knotAt ks j := rfl
      have b1 : 0 ≤ (knotAt ks j).f0.f0 := hk.a.low
      have b2 : (knotAt ks j).f0.f0 ≤ (knotAt ks j).f0.f1 := hk.a.ends
      have b3 : (knotAt ks j).f0.f1 ≤ 23 := hk.a.high
      by_cases hsh : (knotAt ks j).f1.f0 ≤ (t : Int)
      · have hm0 : 0 ≤ (knotAt ks j).f0.f0 * xs.getD t 0 := Int.mul_nonneg b1 (by omega)
        have hm1 : (knotAt ks j).f0.f0 * xs.getD t 0 ≤ 23 * xs.getD t 0 := Int.mul_le_mul_of_nonneg_right (by omega) (by omega)
        have ew : wrap64 (Int.tdiv (wrap64 ((knotAt ks j).f0.f0 * rd xs (t : Int))) 24) = (knotAt ks j).f0.f0 * xs.getD t 0 / 24 := by
          rw [rd_nat, wrap_id (x := (knotAt ks j).f0.f0 * xs.getD t 0) (by omega) (by omega), Int.tdiv_eq_ediv_of_nonneg hm0, wrap_id (by omega) (by omega)]
        obtain ⟨c0, hc0⟩ : ∃ c0 : Nat, (knotAt ks j).f0.f0 * xs.getD t 0 / 24 = c0 := ⟨((knotAt ks j).f0.f0 * xs.getD t 0 / 24).toNat, by omega⟩
        refine Ev.step (fun k => ?_) (ih (j + 1) (row.set c0 true) (by omega) (by omega) (by simpa using hrow) (fun row' hrow' hm => hR row' hrow' (fun c => ?_)))
        · simp only [luciferlaw01_knots.l1]
          rw [if_pos (by omega), if_pos (by omega), e, if_pos hsh, if_pos (by omega), if_pos (by omega), ew, hc0, if_pos (by omega), if_pos (by omega), wrap_succ _ (by omega)]
          rfl
        · rw [hm, asF_set _ _ (by omega)]
          constructor
          · rintro ((h | h) | ⟨j', a1, a2, a3⟩)
            · exact .inl h
            · exact .inr ⟨j, Nat.le_refl _, hlt, hsh, by omega⟩
            · exact .inr ⟨j', by omega, a2, a3⟩
          · rintro (h | ⟨j', a1, a2, a3, a4⟩)
            · exact .inl (.inl h)
            · rcases Nat.lt_or_ge j j' with h | h
              · exact .inr ⟨j', by omega, a2, a3, a4⟩
              · obtain rfl : j' = j := by omega
                exact .inl (.inr (by omega))
      · refine Ev.step (fun k => ?_) (ih (j + 1) row (by omega) (by omega) hrow (fun row' hrow' hm => hR row' hrow' (fun c => ?_)))
        · simp only [luciferlaw01_knots.l1]
          rw [if_pos (by omega), if_pos (by omega), e, if_neg hsh, wrap_succ _ (by omega)]
        · rw [hm]
          constructor
          · rintro (h | ⟨j', a1, a2, a3⟩)
            · exact .inl h
            · exact .inr ⟨j', by omega, a2, a3⟩
          · rintro (h | ⟨j', a1, a2, a3, a4⟩)
            · exact .inl h
            · rcases Nat.lt_or_ge j j' with h | h
              · exact .inr ⟨j', by omega, a2, a3, a4⟩
              · obtain rfl : j' = j := by omega
                exact absurd a3 hsh
  have outer : ∀ (d t : Nat) (base : List Bool), t ≤ xs.length → xs.length - t = d → (base.length : Int) = sumTo xs t → (∀ c, asF base c = true ↔ ∃ t', t' < t ∧ ∃ j, j < ks.length ∧ (knotAt ks j).f1.f0 ≤ (t' : Int) ∧ (plOf xs s ks).col t' (knotAt ks j).f0.f0 = (c : Int)) →
      ∃ out, Ev (fun k => luciferlaw01_knots.l0 k base (t : Int) xs s ks) out ∧ (out.length : Int) = (plOf xs s ks).all ∧ ∀ c, asF out c = true ↔ ∃ t', t' < xs.length ∧ ∃ j, j < ks.length ∧ (knotAt ks j).f1.f0 ≤ (t' : Int) ∧ (plOf xs s ks).col t' (knotAt ks j).f0.f0 = (c : Int) := by
    intro d
    induction d with
    | zero =>
      intro t base ht hd hbase hm
      obtain rfl : t = xs.length := by omega
      refine ⟨base, Ev.step (fun k => ?_) (Ev.now _), by rw [hbase, Peel.sumTo_all]; rfl, hm⟩
      simp only [luciferlaw01_knots.l0]
      rw [if_neg (by omega)]
    | succ d ih =>
      intro t base ht hd hbase hm
      have hlt : t < xs.length := by omega
      have hlong := (hL t hlt).1
      have hs0 := Peel.sumTo_bd ok t (by rw [el]; omega)
      rw [el] at hs0
      -- the turn's columns, as a function
      have hex : ∃ row' : List Bool, (row'.length : Int) = xs.getD t 0 ∧ ∀ c, asF row' c = true ↔ asF (List.replicate (xs.getD t 0).toNat false) c = true ∨ ∃ j', 0 ≤ j' ∧ j' < ks.length ∧ (knotAt ks j').f1.f0 ≤ t ∧ (knotAt ks j').f0.f0 * xs.getD t 0 / 24 = (c : Int) := by
        refine ⟨(List.range (xs.getD t 0).toNat).map fun (c : Nat) => decide (∃ j', j' < ks.length ∧ (knotAt ks j').f1.f0 ≤ t ∧ (knotAt ks j').f0.f0 * xs.getD t 0 / 24 = (c : Int)), by rw [List.length_map, List.length_range]; omega, fun c => ?_⟩
        rw [asF_none]
        unfold asF
        by_cases hc : c < (xs.getD t 0).toNat
        · rw [List.getD_eq_getElem?_getD, List.getElem?_map, List.getElem?_range hc]
          simp [Peel.none72]
        · rw [List.getD_eq_getElem?_getD, List.getElem?_eq_none (by rw [List.length_map, List.length_range]; omega)]
          simp only [Peel.none72, Option.getD_none, Bool.false_eq_true, false_or, false_iff]
          rintro ⟨j', _, h2, _, h4⟩
          have hk := hK j' h2
          have b1 : 0 ≤ (knotAt ks j').f0.f0 := hk.a.low
          have b2 : (knotAt ks j').f0.f0 ≤ (knotAt ks j').f0.f1 := hk.a.ends
          have b3 : (knotAt ks j').f0.f1 ≤ 23 := hk.a.high
          have hm1 : (knotAt ks j').f0.f0 * xs.getD t 0 ≤ 23 * xs.getD t 0 := Int.mul_le_mul_of_nonneg_right (by omega) (by omega)
          omega
      obtain ⟨row, hrow, hrm⟩ := hex
      have hstep : ∀ c, asF (base ++ row) c = true ↔ ∃ t', t' < t + 1 ∧ ∃ j, j < ks.length ∧ (knotAt ks j).f1.f0 ≤ (t' : Int) ∧ (plOf xs s ks).col t' (knotAt ks j).f0.f0 = (c : Int) := by
        intro c
        have hcol : ∀ j, (plOf xs s ks).col t (knotAt ks j).f0.f0 = sumTo xs t + (knotAt ks j).f0.f0 * xs.getD t 0 / 24 := fun j => rfl
        by_cases hc : c < base.length
        · have e1 : asF (base ++ row) c = asF base c := by unfold asF; simp [List.getD_eq_getElem?_getD, List.getElem?_append_left hc]
          rw [e1, hm]
          constructor
          · rintro ⟨t', a1, a2⟩
            exact ⟨t', by omega, a2⟩
          · rintro ⟨t', a1, j, a2, a3, a4⟩
            rcases Nat.lt_or_ge t' t with h | h
            · exact ⟨t', h, j, a2, a3, a4⟩
            · obtain rfl : t' = t := by omega
              have hk := hK j a2
              have b1 : 0 ≤ (knotAt ks j).f0.f0 := hk.a.low
              have hm0 : 0 ≤ (knotAt ks j).f0.f0 * xs.getD t' 0 := Int.mul_nonneg b1 (by omega)
              rw [hcol] at a4
              omega
        · have e1 : asF (base ++ row) c = asF row (c - base.length) := by unfold asF; simp [List.getD_eq_getElem?_getD, List.getElem?_append_right (Nat.not_lt.1 hc)]
          rw [e1, hrm, asF_none]
          constructor
          · rintro (h | ⟨j, _, a2, a3, a4⟩)
            · cases h
            · exact ⟨t, by omega, j, a2, a3, by rw [hcol]; omega⟩
          · rintro ⟨t', a1, j, a2, a3, a4⟩
            rcases Nat.lt_or_ge t' t with h | h
            · have : asF base c = true := (hm c).2 ⟨t', h, j, a2, a3, a4⟩
              rw [asF_far _ _ (Nat.not_lt.1 hc)] at this
              cases this
            · obtain rfl : t' = t := by omega
              rw [hcol] at a4
              exact .inr ⟨j, Nat.zero_le _, a2, a3, by omega⟩
      obtain ⟨out, ho, hol, hom⟩ := ih (t + 1) (base ++ row) (by omega) (by omega) (by rw [List.length_append, Peel.sumTo_succ _ _ hlt]; omega) hstep
      refine ⟨out, ?_, hol, hom⟩
      refine Ev.step (f := fun k => luciferlaw01_knots.l1 k base (t : Int) (List.replicate (xs.getD t 0).toNat false) ((0 : Nat) : Int) xs s ks) (fun k => ?_) (inner t hlt base out hbase ks.length 0 (List.replicate (xs.getD t 0).toNat false) (by omega) (by omega) (by rw [List.length_replicate]; omega) ?_)
      · simp only [luciferlaw01_knots.l0]
        rw [if_pos (by omega), if_pos (by omega), rd_nat, if_pos (by omega), if_pos (by omega)]
        rfl
      · intro row' hrow' hm'
        have : row' = row := by
          apply List.ext_getElem (by omega)
          intro c h1 h2
          have e1 : asF row' c = row'[c] := by unfold asF; simp [List.getD_eq_getElem?_getD, h1]
          have e2 : asF row c = row[c] := by unfold asF; simp [List.getD_eq_getElem?_getD, h2]
          rw [← e1, ← e2, Bool.eq_iff_iff, hm', hrm]
        rw [this]
        exact ho
  obtain ⟨out, ho, hol, hom⟩ := outer xs.length 0 [] (by omega) (by omega) (by rw [Peel.sumTo_zero]; rfl) (fun c => by
    have : asF [] c = false := by simp [asF]
    rw [this]
    constructor
    · intro h; cases h
    · rintro ⟨t', h, _⟩; omega)
  refine ⟨out, ho, hol, fun c => ?_⟩
  rw [hom]
  constructor
  · rintro ⟨t', a1, j, a2, a3, a4⟩
    exact ⟨j, a2, (mark_iff _ _ _).2 ⟨t', a1, a3, a4⟩⟩
  · rintro ⟨j, a2, h⟩
    obtain ⟨t', a1, a3, a4⟩ := (mark_iff _ _ _).1 h
    exact ⟨t', a1, j, a2, a3, a4⟩
theorem mark_same (xs : List Int) (s : Int) (ks ks' : List SK) (p : Int × Int) : (plOf xs s ks').mark p = (plOf xs s ks).mark p := rfl
/-- The columns that have a knot, where numbers choose that knots are. -/
theorem truly_knots {xs : List Int} {s : Int} {ks : List SK} (ok : (plOf xs s ks).Ok) (bits : List Int) : ∃ out, Ev (fun k => luciferlaw01_knots.f k xs s (trulyL ks bits)) out ∧ (out.length : Int) = (plOf xs s ks).all ∧ asF out = trueF xs s ks bits := by
  obtain ⟨out, ho, hol, hom⟩ := knots_ev (truly_ok ok bits) (fun j hj => by rw [truly_len] at hj; exact ⟨_, truly_at hj⟩)
  refine ⟨out, ho, hol, ?_⟩
  funext c
  rw [Bool.eq_iff_iff, hom, truly_len]
  unfold trueF
  simp only [List.any_map, List.any_eq_true, List.mem_range, Function.comp]
  constructor
  · rintro ⟨j, hj, h⟩
    rw [truly_at hj] at h
    exact ⟨j, hj, h⟩
  · rintro ⟨j, hj, h⟩
    refine ⟨j, hj, ?_⟩
    rw [truly_at hj]
    exact h
/-- How many pieces are whole, as the laws count them. -/
theorem wholeLaw_ev {xs : List Int} {s : Int} {ks : List SK} (ok : (plOf xs s ks).Ok) {kn : List Bool} (hl : (kn.length : Int) = (plOf xs s ks).all) {cs : List Int} (hn : fewI cs) (hc : ∀ i, i < cs.length → 0 ≤ cs.getD i 0 ∧ cs.getD i 0 + s ≤ (plOf xs s ks).all) :
    Ev (fun k => luciferlaw01_whole.f k xs s ks kn cs) ((plOf xs s ks).count (asF kn) cs) := by
  have hn' : cs.length ≤ 4611686018427387904 := hn
  have hb := Peel.all_bd ok
  have h1 : 1 ≤ s := ok.size1
  have h6 : s ≤ 6 := ok.size6
  have es : (plOf xs s ks).size = s := rfl
  have inner : ∀ (i : Nat) (hi : i < cs.length) (c : Nat) (hcc : cs.getD i 0 = c) (n : Int) (R : Int), 0 ≤ n → n ≤ i → Ev (fun k => luciferlaw01_whole.l0 k kn cs (n + if (plOf xs s ks).free (asF kn) c = true then 1 else 0) ((i + 1 : Nat) : Int) xs s ks) R → ∀ (d m : Nat) (b : Bool), (m : Int) + d = s → (b = true ↔ ∀ j, j < m → asF kn (c + j) = false) → Ev (fun k => luciferlaw01_whole.l1 k kn cs n (i : Int) b ((c + m : Nat) : Int) xs s ks) R := by
    intro i hi c hcc n R hn0 hn1 hR d
    obtain ⟨a1, a2⟩ := hc i hi
    have ew : wrap64 (rd cs (i : Int) + s) = (c : Int) + s := by rw [rd_nat, hcc, wrap_id (by omega) (by omega)]
    induction d with
    | zero =>
      intro m b hm hb'
      have hfree : (plOf xs s ks).free (asF kn) c = b := by
        rw [Bool.eq_iff_iff, hb', Peel.free_iff, es]
        exact ⟨fun h j hj => h j (by omega), fun h j hj => h j (by omega)⟩
      rw [hfree] at hR
      refine Ev.step (fun k => ?_) hR
      simp only [luciferlaw01_whole.l1]
      rw [if_pos (by omega), if_pos (by omega), ew, if_neg (by omega), wrap_succ _ (by omega)]
      cases b with
      | true => simp only [if_true]; rw [wrap_id (by omega) (by omega)]
      | false => simp
    | succ d ih =>
      intro m b hm hb'
      cases b with
      | true =>
        refine Ev.step (fun k => ?_) (ih (m + 1) (!(asF kn (c + m))) (by omega) ?_)
        · simp only [luciferlaw01_whole.l1]
          rw [if_pos (by omega), if_pos (by omega), ew, if_pos (by omega), if_pos trivial, if_pos (by omega), if_pos (by omega), rdOf_nat, wrap_succ _ (by omega)]
          rfl
        · rw [Bool.not_eq_true']
          constructor
          · intro h j hj
            rcases Nat.lt_or_ge j m with h' | h'
            · exact hb'.1 rfl j h'
            · obtain rfl : j = m := by omega
              exact h
          · intro h
            exact h m (by omega)
      | false =>
        refine Ev.step (fun k => ?_) (ih (m + 1) false (by omega) ⟨fun h => (by cases h), fun h => hb'.2 fun j hj => h j (by omega)⟩)
        simp only [luciferlaw01_whole.l1]
        rw [if_pos (by omega), if_pos (by omega), ew, if_pos (by omega), if_neg (by simp), wrap_succ _ (by omega)]
        rfl
  have loop : ∀ (d i : Nat) (n : Int), i ≤ cs.length → cs.length - i = d → 0 ≤ n → n ≤ i → Ev (fun k => luciferlaw01_whole.l0 k kn cs n (i : Int) xs s ks) (n + (plOf xs s ks).count (asF kn) (cs.drop i)) := by
    intro d
    induction d with
    | zero =>
      intro i n hi hd h0 h1
      obtain rfl : i = cs.length := by omega
      refine Ev.step (fun k => ?_) (Ev.now _)
      simp only [luciferlaw01_whole.l0]
      rw [if_neg (by omega), List.drop_length]
      simp [PL.count]
    | succ d ih =>
      intro i n hi hd h0 h1'
      have hlt : i < cs.length := by omega
      obtain ⟨a1, a2⟩ := hc i hlt
      obtain ⟨c, hcc⟩ : ∃ c : Nat, cs.getD i 0 = c := ⟨(cs.getD i 0).toNat, by omega⟩
      rw [drop_cons hlt, Peel.count_cons, hcc, ← Int.add_assoc]
      refine Ev.step (f := fun k => luciferlaw01_whole.l1 k kn cs n (i : Int) true ((c + 0 : Nat) : Int) xs s ks) (fun k => ?_) (inner i hlt c hcc n _ h0 h1' ?_ s.toNat 0 true (by omega) (by simp))
      · simp only [luciferlaw01_whole.l0]
        rw [if_pos (by omega), if_pos (by omega), rd_nat, hcc]
        rfl
      · have e : (c : Int).toNat = c := by simp
        rw [e]
        exact ih (i + 1) _ (by omega) (by omega) (by split <;> omega) (by split <;> omega)
  have := loop cs.length 0 0 (by omega) (by omega) (by omega) (by omega)
  rw [Int.zero_add, List.drop_zero] at this
  exact this
end Go.Proofs.YtigofgdmefobaaaDoor.PP
