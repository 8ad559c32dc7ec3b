/- The reference of package peel in plain numbers: truths, what is possible, pieces, cuttings. -/
import Derived.Test.YtigofgdmefobaaaDoorPPxf67
import Derived.Test.YtigofgdmefobaaaDoorPPxf76
import Derived.Test.YtigofgdmefobaaaDoorPureB
set_option linter.unusedVariables false
set_option linter.unusedSimpArgs false
namespace Go.Proofs.YtigofgdmefobaaaDoor.PP
open Go.RowKit Go.Proofs.YtigofgdmefobaaaDoorW.PrintWords Go.Proofs.YtigofgdmefobaaaDoorW.PrintLast Go.Proofs.YtigofgdmefobaaaDoorW.PrintMore
open Peel (PL Kn Sp sumTo)
def placeAt (ps : List SP) (i : Nat) : SP := rd_T108 ps (i : Int)
theorem placeAt_get {ps : List SP} {j : Nat} (h : j < ps.length) : ps[j]? = some (placeAt ps j) := by
  unfold placeAt rd_T108
  simp [List.getD_eq_getElem?_getD, h]
theorem placeAt_drop {ps : List SP} {j : Nat} (h : j < ps.length) : ps.drop j = placeAt ps j :: ps.drop (j + 1) := by
  rw [List.drop_eq_getElem_cons h]
  congr 1
  have := placeAt_get h
  rw [List.getElem?_eq_getElem h] at this
  exact Option.some.inj this
theorem knots_drop {xs : List Int} {s : Int} {ks : List SK} {j : Nat} (h : j < ks.length) : (plOf xs s ks).knots.drop j = knOf (knotAt ks j) :: (plOf xs s ks).knots.drop (j + 1) := by
  have hj := knots_get (xs := xs) (s := s) h
  obtain ⟨h1, h2⟩ := List.getElem?_eq_some_iff.1 hj
  rw [List.drop_eq_getElem_cons h1, h2]
theorem knots_len (xs : List Int) (s : Int) (ks : List SK) : (plOf xs s ks).knots.length = ks.length := List.length_map ..
theorem knot_ok {xs : List Int} {s : Int} {ks : List SK} (ok : (plOf xs s ks).Ok) {j : Nat} (hj : j < ks.length) : (knOf (knotAt ks j)).Ok xs.length := ok.knots _ (List.mem_of_getElem? (knots_get (xs := xs) (s := s) hj))
theorem places_at {xs : List Int} {s : Int} {ks : List SK} (ok : (plOf xs s ks).Ok) {j : Nat} (hj : j < ks.length) : ∃ ps, Ev (fun k => luciferref01_places.f k (knotAt ks j).f0.f0 (knotAt ks j).f0.f1 (knotAt ks j).f1.f0 (knotAt ks j).f1.f1) ps ∧ ps.length ≤ 8 ∧ ps ≠ [] ∧ ∀ p : SP, p ∈ ps ↔ (p.f0, p.f1) ∈ (knOf (knotAt ks j)).spots :=
  places_ev _ (by have := ok.turns; have e : (plOf xs s ks).long = xs := rfl; rw [e] at this; omega) (knot_ok ok hj)
theorem truths_ev {xs : List Int} {s : Int} {ks : List SK} (ok : (plOf xs s ks).Ok) : ∀ (d j : Nat) (kn : List Bool), j ≤ ks.length → ks.length - j = d → (kn.length : Int) = (plOf xs s ks).all →
    ∃ T, Ev (fun k => luciferref01_truths.f k xs s ks (j : Int) kn) T ∧ T.length ≤ 8 ^ d ∧ T ≠ [] ∧ (∀ t ∈ T, (t.length : Int) = (plOf xs s ks).all) ∧ ∀ r, (∃ t ∈ T, asF t = r) ↔ r ∈ (plOf xs s ks).truths ((plOf xs s ks).knots.drop j) (asF kn) := by
  have h3 : ks.length ≤ 3 := by have := ok.knots3; rwa [knots_len] at this
  intro d
  induction d with
  | zero =>
    intro j kn hj hd hl
    obtain rfl : j = ks.length := by omega
    refine ⟨[kn], Ev.step (fun k => ?_) (Ev.now _), by simp, by simp, fun t ht => ?_, fun r => ?_⟩
    · simp only [luciferref01_truths.f]
      rw [if_pos trivial]
    · rw [List.mem_singleton.1 ht]; exact hl
    · rw [show (plOf xs s ks).knots.drop ks.length = [] by rw [← knots_len xs s ks]; exact List.drop_length ..]
      simp only [PL.truths, List.mem_singleton]
      exact ⟨fun ⟨t, e1, e2⟩ => by rw [← e2, e1], fun h => ⟨kn, rfl, h.symm⟩⟩
  | succ d ih =>
    intro j kn hj hd hl
    have hlt : j < ks.length := by omega
    obtain ⟨ps, hps, hpl, hpn, hpm⟩ := places_at ok hlt
    have h8 : 8 ^ d ≤ 64 := by
      have : d ≤ 2 := by omega
      calc 8 ^ d ≤ 8 ^ 2 := Nat.pow_le_pow_right (by omega) this
        _ = 64 := rfl
    have loop : ∀ (m i : Nat) (acc : List (List Bool)), i ≤ ps.length → ps.length - i = m → acc.length + m * 8 ^ d < 5864062014805 →
        ∃ T, Ev (fun k => luciferref01_truths.l0 k (j : Int) kn acc ps (i : Int) xs s ks) (acc ++ T) ∧ T.length ≤ m * 8 ^ d ∧ (0 < m → T ≠ []) ∧ (∀ t ∈ T, (t.length : Int) = (plOf xs s ks).all) ∧ ∀ r, (∃ t ∈ T, asF t = r) ↔ ∃ p ∈ ps.drop i, r ∈ (plOf xs s ks).truths ((plOf xs s ks).knots.drop (j + 1)) (fun i => asF kn i || (plOf xs s ks).mark (p.f0, p.f1) i) := by
      intro m
      induction m with
      | zero =>
        intro i acc hi hm hb
        obtain rfl : i = ps.length := by omega
        refine ⟨[], Ev.step (fun k => ?_) (by rw [List.append_nil]; exact Ev.now _), by simp, by omega, by simp, by simp⟩
        simp only [luciferref01_truths.l0]
        rw [if_neg (by omega)]
      | succ m ihm =>
        intro i acc hi hm hb
        have hil : i < ps.length := by omega
        rw [Nat.succ_mul] at hb
        have hmem : placeAt ps i ∈ ps := List.mem_of_getElem? (placeAt_get hil)
        obtain ⟨p1, p2, p3⟩ := spot_bd ok hlt ((hpm _).1 hmem)
        obtain ⟨out, ho, hol, hof⟩ := mark_ev ok p1 p2 p3 hl
        obtain ⟨T1, hT1, hT1l, hT1n, hT1a, hT1m⟩ := ih (j + 1) out (by omega) (by omega) hol
        obtain ⟨T2, hT2, hT2l, hT2n, hT2a, hT2m⟩ := ihm (i + 1) (acc ++ T1) (by omega) (by omega) (by rw [List.length_append]; omega)
        refine ⟨T1 ++ T2, ?_, ?_, ?_, ?_, ?_⟩
        · refine Ev.step (f := fun k => (luciferref01_mark.f k xs s ks kn (placeAt ps i).f0 (placeAt ps i).f1).bind fun t149 => ((luciferref01_truths.f k xs s ks (wrap64 ((j : Int) + 1)) t149).bind fun t152 => (if acc.length + t152.length < 5864062014805 then (luciferref01_truths.l0 k (j : Int) kn (acc ++ t152) ps (wrap64 ((i : Int) + 1)) xs s ks) else (none)))) (fun k => ?_) (Ev.bind ho (Ev.bind (a := T1) ?_ ?_))
          · simp only [luciferref01_truths.l0]
            rw [if_pos (by omega), if_pos (by omega)]
            rfl
          · rw [wrap_succ _ (by omega)]
            exact hT1
          · rw [← List.append_assoc]
            refine Ev.congr (fun k => ?_) hT2
            rw [if_pos (by omega), wrap_succ _ (by omega)]
        · rw [List.length_append, Nat.succ_mul]; omega
        · intro _ h
          exact hT1n (List.append_eq_nil_iff.1 h).1
        · intro t ht
          rcases List.mem_append.1 ht with h | h
          · exact hT1a t h
          · exact hT2a t h
        · intro r
          rw [placeAt_drop hil]
          constructor
          · rintro ⟨t, ht, e⟩
            rcases List.mem_append.1 ht with h | h
            · refine ⟨placeAt ps i, List.mem_cons_self .., ?_⟩
              rw [← hof]
              exact (hT1m r).1 ⟨t, h, e⟩
            · obtain ⟨p, hp, hr⟩ := (hT2m r).1 ⟨t, h, e⟩
              exact ⟨p, List.mem_cons_of_mem _ hp, hr⟩
          · rintro ⟨p, hp, hr⟩
            rcases List.mem_cons.1 hp with rfl | hp
            · rw [← hof] at hr
              obtain ⟨t, ht, e⟩ := (hT1m r).2 hr
              exact ⟨t, List.mem_append_left _ ht, e⟩
            · obtain ⟨t, ht, e⟩ := (hT2m r).2 ⟨p, hp, hr⟩
              exact ⟨t, List.mem_append_right _ ht, e⟩
    have hp8 : ps.length * 8 ^ d ≤ 8 * 8 ^ d := Nat.mul_le_mul_right _ hpl
    obtain ⟨T, hT, hTl, hTn, hTa, hTm⟩ := loop ps.length 0 [] (by omega) (by omega) (by simp; omega)
    refine ⟨T, ?_, by rw [Nat.pow_succ]; omega, hTn (List.length_pos_iff.2 hpn), hTa, fun r => ?_⟩
    · refine Ev.step (f := fun k => (luciferref01_places.f k (knotAt ks j).f0.f0 (knotAt ks j).f0.f1 (knotAt ks j).f1.f0 (knotAt ks j).f1.f1).bind fun t145 => (luciferref01_truths.l0 k (j : Int) kn ([] : List (List Bool)) t145 0 xs s ks)) (fun k => ?_) (Ev.bind hps ?_)
      · simp only [luciferref01_truths.f]
        rw [if_neg (by omega), if_pos (by omega), if_pos (by omega)]
        rfl
      · exact hT
    · rw [hTm, knots_drop hlt]
      simp only [PL.truths, List.mem_flatMap, List.drop_zero]
      constructor
      · rintro ⟨p, hp, hr⟩
        exact ⟨_, (hpm p).1 hp, hr⟩
      · rintro ⟨⟨p1, p2⟩, hp, hr⟩
        exact ⟨⟨p1, p2⟩, (hpm ⟨p1, p2⟩).2 hp, hr⟩
theorem all_ev {xs : List Int} {s : Int} {ks : List SK} (ok : (plOf xs s ks).Ok) : ∃ T, Ev (fun k => luciferref01_All.f k xs s ks) T ∧ T.length ≤ 512 ∧ T ≠ [] ∧ (∀ t ∈ T, (t.length : Int) = (plOf xs s ks).all) ∧ ∀ r, (∃ t ∈ T, asF t = r) ↔ r ∈ (plOf xs s ks).truths (plOf xs s ks).knots Peel.none72 := by
  have hb := Peel.all_bd ok
  have h3 : ks.length ≤ 3 := by have := ok.knots3; rwa [knots_len] at this
  obtain ⟨T, hT, hTl, hTn, hTa, hTm⟩ := truths_ev ok ks.length 0 (List.replicate (plOf xs s ks).all.toNat false) (by omega) (by omega) (by simp; omega)
  refine ⟨T, ?_, Nat.le_trans hTl (Nat.pow_le_pow_right (by omega) h3), hTn, hTa, fun r => ?_⟩
  · refine Ev.bind (total_ok ok) (Ev.congr (f := fun k => (luciferref01_truths.f k xs s ks 0 (List.replicate (plOf xs s ks).all.toNat false)).bind fun t163 => (some t163)) (fun k => ?_) (Ev.bind hT (Ev.now _)))
    rw [if_pos hb.1, if_pos (by omega)]
  · rw [hTm, asF_none, List.drop_zero]
/-- In some truth: at some spot of some knot. -/
theorem possible_iff {xs : List Int} {s : Int} {ks : List SK} (ok : (plOf xs s ks).Ok) (i : Nat) : (plOf xs s ks).possible i = true ↔ ∃ j : Nat, j < ks.length ∧ ∃ p ∈ (knOf (knotAt ks j)).spots, (plOf xs s ks).mark p i = true := by
  unfold PL.possible
  rw [Peel.anyOf_true]
  constructor
  · rintro ⟨r, hr, hi⟩
    obtain ⟨ss, hl, hm, rfl⟩ := (Peel.truths_mem _ _ _ _).1 hr
    simp only [Peel.none72, Bool.false_or, List.any_eq_true] at hi
    obtain ⟨p, hp, hpi⟩ := hi
    obtain ⟨j, hj⟩ := List.getElem?_of_mem hp
    have hlt : j < ks.length := by
      have := (List.getElem?_eq_some_iff.1 hj).1
      rw [hl, knots_len] at this
      exact this
    exact ⟨j, hlt, p, hm j _ p (knots_get hlt) hj, hpi⟩
  · rintro ⟨j, hj, p, hp, hpi⟩
    refine ⟨_, (Peel.truths_mem _ _ _ _).2 ⟨(List.range ks.length).map fun m => if m = j then p else ((knOf (knotAt ks m)).a.lo, (knOf (knotAt ks m)).f.lo), by rw [knots_len]; simp, ?_, rfl⟩, ?_⟩
    · intro m x q hx hq
      have hlt : m < ks.length := by
        have := (List.getElem?_eq_some_iff.1 hx).1
        rwa [knots_len] at this
      rw [knots_get hlt] at hx
      cases hx
      rw [List.getElem?_map, List.getElem?_range hlt] at hq
      simp only [Option.map_some, Option.some.injEq] at hq
      by_cases e : m = j
      · subst e
        rw [if_pos rfl] at hq
        rw [← hq]; exact hp
      · rw [if_neg e] at hq
        rw [← hq]
        have hk := knot_ok ok hlt
        have h1 := hk.a.ends
        have h2 := hk.f.ends
        have := Peel.spots_in hk 0 0 ⟨by omega, by unfold Sp.n; omega⟩ ⟨by omega, by unfold Sp.n; omega⟩
        rwa [Int.add_zero, Int.add_zero] at this
    · simp only [Peel.none72, Bool.false_or, List.any_eq_true]
      refine ⟨p, List.mem_map.2 ⟨j, List.mem_range.2 hj, if_pos rfl⟩, hpi⟩
theorem some_ev {xs : List Int} {s : Int} {ks : List SK} (ok : (plOf xs s ks).Ok) : ∃ out, Ev (fun k => luciferref01_some.f k xs s ks) out ∧ (out.length : Int) = (plOf xs s ks).all ∧ asF out = (plOf xs s ks).possible := by
  have hb := Peel.all_bd ok
  have h3 : ks.length ≤ 3 := by have := ok.knots3; rwa [knots_len] at this
  have loop : ∀ (d j : Nat) (kn : List Bool), j ≤ ks.length → ks.length - j = d → (kn.length : Int) = (plOf xs s ks).all →
      ∃ out, Ev (fun k => luciferref01_some.l0 k kn (j : Int) xs s ks) out ∧ (out.length : Int) = (plOf xs s ks).all ∧ ∀ i, asF out i = true ↔ asF kn i = true ∨ ∃ j' : Nat, j ≤ j' ∧ j' < ks.length ∧ ∃ p ∈ (knOf (knotAt ks j')).spots, (plOf xs s ks).mark p i = true := by
    intro d
    induction d with
    | zero =>
      intro j kn hj hd hl
      obtain rfl : j = ks.length := by omega
      refine ⟨kn, Ev.step (fun k => ?_) (Ev.now _), hl, fun i => ⟨.inl, fun h => h.resolve_right ?_⟩⟩
      · simp only [luciferref01_some.l0]
        rw [if_neg (by omega)]
      · rintro ⟨j', h1, h2, _⟩
        omega
    | succ d ih =>
      intro j kn hj hd hl
      have hlt : j < ks.length := by omega
      obtain ⟨ps, hps, hpl, hpn, hpm⟩ := places_at ok hlt
      have inner : ∀ (m i : Nat) (kn : List Bool), i ≤ ps.length → ps.length - i = m → (kn.length : Int) = (plOf xs s ks).all →
          ∃ out, Ev (fun k => luciferref01_some.l1 k kn (j : Int) ps (i : Int) xs s ks) out ∧ (out.length : Int) = (plOf xs s ks).all ∧ ∀ c, asF out c = true ↔ asF kn c = true ∨ (∃ p ∈ ps.drop i, (plOf xs s ks).mark (p.f0, p.f1) c = true) ∨ ∃ j' : Nat, j + 1 ≤ j' ∧ j' < ks.length ∧ ∃ p ∈ (knOf (knotAt ks j')).spots, (plOf xs s ks).mark p c = true := by
        intro m
        induction m with
        | zero =>
          intro i kn hi hm hl
          obtain rfl : i = ps.length := by omega
          obtain ⟨out, ho, hol, hof⟩ := ih (j + 1) kn (by omega) (by omega) hl
          refine ⟨out, Ev.step (fun k => ?_) ho, hol, fun c => ?_⟩
          · simp only [luciferref01_some.l1]
            rw [if_neg (by omega), wrap_succ _ (by omega)]
          · rw [hof]
            simp
        | succ m ihm =>
          intro i kn hi hm hl
          have hil : i < ps.length := by omega
          have hmem : placeAt ps i ∈ ps := List.mem_of_getElem? (placeAt_get hil)
          obtain ⟨p1, p2, p3⟩ := spot_bd ok hlt ((hpm _).1 hmem)
          obtain ⟨o1, ho1, hol1, hof1⟩ := mark_ev ok p1 p2 p3 hl
          obtain ⟨out, ho, hol, hof⟩ := ihm (i + 1) o1 (by omega) (by omega) hol1
          refine ⟨out, Ev.step (f := fun k => (luciferref01_mark.f k xs s ks kn (placeAt ps i).f0 (placeAt ps i).f1).bind fun t200 => (luciferref01_some.l1 k t200 (j : Int) ps (wrap64 ((i : Int) + 1)) xs s ks)) (fun k => ?_) (Ev.bind ho1 ?_), hol, fun c => ?_⟩
          · simp only [luciferref01_some.l1]
            rw [if_pos (by omega), if_pos (by omega)]
            rfl
          · rw [wrap_succ _ (by omega)]
            exact ho
          · rw [hof, hof1, placeAt_drop hil, Bool.or_eq_true]
            constructor
            · rintro ((h | h) | ⟨p, hp, h⟩ | h)
              · exact .inl h
              · exact .inr (.inl ⟨_, List.mem_cons_self .., h⟩)
              · exact .inr (.inl ⟨p, List.mem_cons_of_mem _ hp, h⟩)
              · exact .inr (.inr h)
            · rintro (h | ⟨p, hp, h⟩ | h)
              · exact .inl (.inl h)
              · rcases List.mem_cons.1 hp with rfl | hp
                · exact .inl (.inr h)
                · exact .inr (.inl ⟨p, hp, h⟩)
              · exact .inr (.inr h)
      obtain ⟨out, ho, hol, hof⟩ := inner ps.length 0 kn (by omega) (by omega) hl
      refine ⟨out, Ev.step (f := fun k => (luciferref01_places.f k (knotAt ks j).f0.f0 (knotAt ks j).f0.f1 (knotAt ks j).f1.f0 (knotAt ks j).f1.f1).bind fun t196 => (luciferref01_some.l1 k kn (j : Int) t196 0 xs s ks)) (fun k => ?_) (Ev.bind hps ho), hol, fun c => ?_⟩
      · simp only [luciferref01_some.l0]
        rw [if_pos (by omega), if_pos (by omega)]
        rfl
      · rw [hof, List.drop_zero]
        constructor
        · rintro (h | ⟨p, hp, h⟩ | ⟨j', h1, h2, h3⟩)
          · exact .inl h
          · exact .inr ⟨j, Nat.le_refl _, hlt, _, (hpm p).1 hp, h⟩
          · exact .inr ⟨j', by omega, h2, h3⟩
        · rintro (h | ⟨j', h1, h2, p, hp, h⟩)
          · exact .inl h
          · rcases Nat.lt_or_ge j j' with e | e
            · exact .inr (.inr ⟨j', by omega, h2, p, hp, h⟩)
            · obtain rfl : j' = j := by omega
              obtain ⟨p1, p2⟩ := p
              exact .inr (.inl ⟨⟨p1, p2⟩, (hpm ⟨p1, p2⟩).2 hp, h⟩)
  obtain ⟨out, ho, hol, hof⟩ := loop ks.length 0 (List.replicate (plOf xs s ks).all.toNat false) (by omega) (by omega) (by simp; omega)
  refine ⟨out, Ev.bind (total_ok ok) (Ev.congr (fun k => ?_) ho), hol, ?_⟩
  · rw [if_pos hb.1, if_pos (by omega)]
    rfl
  · funext i
    rw [Bool.eq_iff_iff, hof, possible_iff ok, asF_none]
    constructor
    · rintro (h | ⟨j, _, h⟩)
      · cases h
      · exact ⟨j, h⟩
    · rintro ⟨j, h⟩
      exact .inr ⟨j, Nat.zero_le _, h⟩
end Go.Proofs.YtigofgdmefobaaaDoor.PP
