/- PeelLess over the printed functions. -/
import Derived.Test.YtigofgdmefobaaaDoorPPxf10
import Derived.Test.YtigofgdmefobaaaDoorLawTrue
import Derived.Test.YtigofgdmefobaaaDoorPureFa
import Derived.Test.YtigofgdmefobaaaDoorPureH
import Derived.Test.YtigofgdmefobaaaDoorLawsA
set_option linter.unusedVariables false
set_option linter.unusedSimpArgs false
namespace Go.Proofs.YtigofgdmefobaaaDoor.PP
open Go.RowKit Go.Proofs.YtigofgdmefobaaaDoorW.PrintWords Go.Proofs.YtigofgdmefobaaaDoorW.PrintLast Go.Proofs.YtigofgdmefobaaaDoorW.PrintMore
open Peel (PL Kn Sp sumTo RawAt CutAt EndsAt)
theorem best_ok2 {xs : List Int} {s : Int} {ks : List SK} (ok : (plOf xs s ks).Ok) : peel_Best.f xs s ks = some ((plOf xs s ks).cut (plOf xs s ks).possible, 0) := by
  unfold peel_Best.f Peel.bestS
  rw [if_pos (few_ok ok).1, if_pos ok]
theorem hope_ok2 {xs : List Int} {s : Int} {ks : List SK} (ok : (plOf xs s ks).Ok) : peel_Hope.f xs s ks = some ((plOf xs s ks).hope, 0) := by
  unfold peel_Hope.f Peel.hopeS
  rw [if_pos (few_ok ok).1, if_pos ok]
theorem cut_same2 (xs : List Int) (s : Int) (ks ks' : List SK) (r : Nat → Bool) : (plOf xs s ks').cut r = (plOf xs s ks).cut r := by
  have : ∀ f c, (plOf xs s ks').cutF r f c = (plOf xs s ks).cutF r f c := by
    intro f
    induction f with
    | zero => intro c; rfl
    | succ f ih =>
      intro c
      simp only [PL.cutF, show (plOf xs s ks').size = (plOf xs s ks).size from rfl, show (plOf xs s ks').all = (plOf xs s ks).all from rfl, ih]
  exact this 73 0
/-- A cutting to longer pieces is one to shorter ones. -/
theorem isCut_size (xs : List Int) (s s' : Int) (ks : List SK) (h : s ≤ s') : ∀ (cs : List Int) (b b' : Int), b ≤ b' → (plOf xs s' ks).isCut b' cs = true → (plOf xs s ks).isCut b cs = true := by
  intro cs
  induction cs with
  | nil => intro b b' _ _; rfl
  | cons c cs ih =>
    intro b b' hb hc
    obtain ⟨a1, a2, a3⟩ := Peel.isCut_cons _ _ _ _ hc
    have e1 : (plOf xs s' ks).all = (plOf xs s ks).all := rfl
    have e2 : (plOf xs s' ks).size = s' := rfl
    have e3 : (plOf xs s ks).size = s := rfl
    rw [e1, e2] at a2
    rw [e2] at a3
    simp only [PL.isCut, Bool.and_eq_true, decide_eq_true_eq]
    rw [e3]
    exact ⟨⟨by omega, by omega⟩, ih _ _ (by omega) a3⟩
theorem count_size (xs : List Int) (s s' : Int) (ks : List SK) (h : s ≤ s') (r : Nat → Bool) : ∀ cs : List Int, (plOf xs s' ks).count r cs ≤ (plOf xs s ks).count r cs := by
  intro cs
  induction cs with
  | nil => exact Int.le_refl _
  | cons c cs ih =>
    rw [Peel.count_cons, Peel.count_cons]
    by_cases hf : (plOf xs s' ks).free r c.toNat = true
    · have hg : (plOf xs s ks).free r c.toNat = true := by
        rw [Peel.free_iff] at *
        intro j hj
        have e2 : (plOf xs s' ks).size = s' := rfl
        have e3 : (plOf xs s ks).size = s := rfl
        rw [e3] at hj
        exact hf j (by rw [e2]; omega)
      rw [if_pos hf, if_pos hg]; omega
    · rw [if_neg hf]; split <;> omega
theorem longer_less {xs : List Int} {s s' : Int} {ks : List SK} (ok : (plOf xs s ks).Ok) (ok' : (plOf xs s' ks).Ok) (h : s ≤ s') (r : Nat → Bool) : ((plOf xs s' ks).cut r).length ≤ ((plOf xs s ks).cut r).length := by
  have h1 := Peel.cut_own ok' r
  have h2 := isCut_size xs s s' ks h _ 0 0 (Int.le_refl _) h1.1
  have h3 := count_size xs s s' ks h r ((plOf xs s' ks).cut r)
  have h4 := Peel.cut_most (plOf xs s ks) ok.size1 (Peel.all_bd ok).2 r _ 0 0 (by omega) h2
  have h5 : (((plOf xs s ks).cut r).length : Int) = (((plOf xs s ks).cutF r (73 - 0) 0).length : Int) := rfl
  omega
theorem possible_sub {xs : List Int} {s : Int} {ks ks' : List SK} (ok : (plOf xs s ks).Ok) (ok' : (plOf xs s ks').Ok) (h : ∀ j, j < ks'.length → ∃ i, i < ks.length ∧ ∀ p ∈ (knOf (knotAt ks' j)).spots, p ∈ (knOf (knotAt ks i)).spots) (c : Nat) (hc : (plOf xs s ks').possible c = true) : (plOf xs s ks).possible c = true := by
  obtain ⟨j, hj, p, hp, hm⟩ := (possible_iff ok' c).1 hc
  obtain ⟨i, hi, hs⟩ := h j hj
  exact (possible_iff ok c).2 ⟨i, hi, p, hs p hp, hm⟩
theorem truths_sub {xs : List Int} {s : Int} {ks ks' : List SK} (hl : ks'.length = ks.length) (h : ∀ j, j < ks.length → ∀ p ∈ (knOf (knotAt ks' j)).spots, p ∈ (knOf (knotAt ks j)).spots) (r : Nat → Bool) (hr : r ∈ (plOf xs s ks').truths (plOf xs s ks').knots Peel.none72) : r ∈ (plOf xs s ks).truths (plOf xs s ks).knots Peel.none72 := by
  obtain ⟨ss, h1, h2, rfl⟩ := (Peel.truths_mem _ _ _ _).1 hr
  refine (Peel.truths_mem _ _ _ _).2 ⟨ss, by rw [h1, knots_len, knots_len, hl], fun i x q hx hq => ?_, rfl⟩
  have hi : i < ks.length := by
    have := (List.getElem?_eq_some_iff.1 hx).1
    rwa [knots_len] at this
  rw [knots_get hi] at hx
  cases hx
  exact h i hi q (h2 i _ q (knots_get (by omega)) hq)
theorem hope_mono {xs : List Int} {s : Int} {ks ks' : List SK} (hne : (plOf xs s ks').truths (plOf xs s ks').knots Peel.none72 ≠ []) (h : ∀ r, r ∈ (plOf xs s ks').truths (plOf xs s ks').knots Peel.none72 → r ∈ (plOf xs s ks).truths (plOf xs s ks).knots Peel.none72) : (plOf xs s ks').hope ≤ (plOf xs s ks).hope := by
  obtain ⟨r, hr, e⟩ := most_at (plOf xs s ks') _ hne
  have := most_ge (plOf xs s ks) _ r (h r hr)
  unfold PL.hope
  rw [e, cut_same2 xs s ks]
  exact this
theorem knotAt_set (ks : List SK) (k : Nat) (x : SK) (hk : k < ks.length) (j : Nat) (hj : j < ks.length) : knotAt (ks.set k x) j = if j = k then x else knotAt ks j := by
  have h1 := knotAt_get (ks := ks.set k x) (j := j) (by simpa using hj)
  by_cases e : j = k
  · subst e
    rw [if_pos rfl]
    rw [List.getElem?_set_self hj] at h1
    exact (Option.some.inj h1).symm
  · rw [if_neg e]
    rw [List.getElem?_set_ne (fun h => e h.symm), knotAt_get hj] at h1
    exact (Option.some.inj h1).symm
theorem knotAt_less (ks : List SK) (k : Nat) (j : Nat) (hj : j < (ks.take k ++ ks.drop (k + 1)).length) : ∃ i, i < ks.length ∧ knotAt (ks.take k ++ ks.drop (k + 1)) j = knotAt ks i := by
  have h1 := knotAt_get hj
  have hm := List.mem_of_getElem? h1
  have hm' : knotAt (ks.take k ++ ks.drop (k + 1)) j ∈ ks := by
    rcases List.mem_append.1 hm with h | h
    · exact List.mem_of_mem_take h
    · exact List.mem_of_mem_drop h
  obtain ⟨i, hi⟩ := List.getElem?_of_mem hm'
  have hlt := (List.getElem?_eq_some_iff.1 hi).1
  refine ⟨i, hlt, ?_⟩
  rw [knotAt_get hlt] at hi
  exact (Option.some.inj hi).symm
/-- A knot of which more is known. -/
def nearer (x : SK) (p q : Int) : SK := ⟨⟨x.f0.f0 + p % (x.f0.f1 - x.f0.f0 + 1), x.f0.f1⟩, ⟨x.f1.f0, x.f1.f0 + q % (x.f1.f1 - x.f1.f0 + 1)⟩⟩
theorem nearer_ok {x : SK} {n : Int} (h : (knOf x).Ok n) (p q : Int) : (knOf (nearer x p q)).Ok n ∧ ∀ s ∈ (knOf (nearer x p q)).spots, s ∈ (knOf x).spots := by
  have a1 : 0 ≤ x.f0.f0 := h.a.low
  have a2 : x.f0.f0 ≤ x.f0.f1 := h.a.ends
  have a3 : x.f0.f1 ≤ 23 := h.a.high
  have a4 : x.f0.f1 - x.f0.f0 ≤ 3 := h.a.close
  have b1 : 0 ≤ x.f1.f0 := h.f.low
  have b2 : x.f1.f0 ≤ x.f1.f1 := h.f.ends
  have b3 : x.f1.f1 ≤ n := h.f.high
  have b4 : x.f1.f1 - x.f1.f0 ≤ 1 := h.f.close
  have p1 := Int.emod_nonneg p (show x.f0.f1 - x.f0.f0 + 1 ≠ 0 by omega)
  have p2 := Int.emod_lt_of_pos p (show 0 < x.f0.f1 - x.f0.f0 + 1 by omega)
  have q1 := Int.emod_nonneg q (show x.f1.f1 - x.f1.f0 + 1 ≠ 0 by omega)
  have q2 := Int.emod_lt_of_pos q (show 0 < x.f1.f1 - x.f1.f0 + 1 by omega)
  have ok : (knOf (nearer x p q)).Ok n := ⟨⟨by show 0 ≤ x.f0.f0 + _; omega, by show x.f0.f0 + _ ≤ x.f0.f1; omega, a3, by show x.f0.f1 - (x.f0.f0 + _) ≤ 3; omega⟩, ⟨b1, by show x.f1.f0 ≤ x.f1.f0 + _; omega, by show x.f1.f0 + _ ≤ n; omega, by show x.f1.f0 + _ - x.f1.f0 ≤ 1; omega⟩⟩
  refine ⟨ok, fun s hs => ?_⟩
  obtain ⟨u, v, hu, hv, rfl⟩ := Peel.spots_of ok hs
  have hu' : 0 ≤ u ∧ u < x.f0.f1 - (x.f0.f0 + p % (x.f0.f1 - x.f0.f0 + 1)) + 1 := hu
  have hv' : 0 ≤ v ∧ v < x.f1.f0 + q % (x.f1.f1 - x.f1.f0 + 1) - x.f1.f0 + 1 := hv
  have := Peel.spots_in h (p % (x.f0.f1 - x.f0.f0 + 1) + u) v ⟨by omega, by show _ < x.f0.f1 - x.f0.f0 + 1; omega⟩ ⟨by omega, by show _ < x.f1.f1 - x.f1.f0 + 1; omega⟩
  have e : ((knOf (nearer x p q)).a.lo + u, (knOf (nearer x p q)).f.lo + v) = ((knOf x).a.lo + (p % (x.f0.f1 - x.f0.f0 + 1) + u), (knOf x).f.lo + v) := by
    show (x.f0.f0 + p % (x.f0.f1 - x.f0.f0 + 1) + u, x.f1.f0 + v) = (x.f0.f0 + (p % (x.f0.f1 - x.f0.f0 + 1) + u), x.f1.f0 + v)
    rw [Int.add_assoc]
  rw [e]
  exact this
theorem less_pure (xs : List Int) (s : Int) (ks : List SK) (n0 n1 n2 n3 : Int) (hf : few xs ks) : ∃ k, luciferlaw01_PeelLess.f k xs s ks n0 n1 n2 n3 = some true := by
  refine Ev.rounds (g := fun k => luciferlaw01_PeelLess.f k xs s ks n0 n1 n2 n3) ?_
  by_cases ok : (plOf xs s ks).Ok
  · obtain ⟨_, h3, h6⟩ := few_ok ok
    obtain ⟨hh1, hh2, hK⟩ := (ok_iff xs s ks).1 ok
    have s1 : 1 ≤ s := ok.size1
    have s6 : s ≤ 6 := ok.size6
    have t1 := Int.emod_nonneg n3 (show (2 : Int) ≠ 0 by omega)
    have t2 := Int.emod_lt_of_pos n3 (show (0 : Int) < 2 by omega)
    obtain ⟨s', hs'⟩ : ∃ s', s' = mn 6 (s + 1 + n3 % 2) := ⟨_, rfl⟩
    have hsb : s ≤ s' ∧ 1 ≤ s' ∧ s' ≤ 6 := by rw [hs']; unfold mn; split <;> omega
    have ok' : (plOf xs s' ks).Ok := (ok_iff xs s' ks).2 ⟨⟨hh1.1, ⟨hsb.2.1, hsb.2.2⟩, hh1.2.2⟩, hh2, hK⟩
    have eposs : (plOf xs s' ks).possible = (plOf xs s ks).possible := by
      funext c
      rw [Bool.eq_iff_iff, possible_iff ok, possible_iff ok']
      rfl
    have hlonger := Aside0.mk (longer_less ok ok' hsb.1 (plOf xs s ks).possible)
    refine Ev.bind (sound_yes hf ok) (Ev.congr (fun k => if_pos rfl) ?_)
    simp only [best_ok2 ok, hope_ok2 ok, spin_ev n3 2 (by omega) (by omega), Option.bind_some]
    have ew : mn 6 (wrap64 (wrap64 (s + 1) + n3 % 2)) = s' := by rw [wrap_id (x := s + 1) (by omega) (by omega), wrap_id (by omega) (by omega), hs']
    simp only [ew, best_ok2 ok', Option.bind_some, if_true, eposs]
    rw [decide_eq_false (Int.not_lt.2 (Int.ofNat_le.2 hlonger.out))]
    clear hlonger ew eposs
    by_cases h0 : ks.length = 0
    · refine Ev.step (fun k => ?_) (Ev.now _)
      simp only [luciferlaw01_PeelLess.j0]
      rw [if_neg (by simp), if_pos (by omega)]
      rfl
    · have a1 := Int.emod_nonneg n0 (show (ks.length : Int) ≠ 0 by omega)
      have a2 := Int.emod_lt_of_pos n0 (show (0 : Int) < (ks.length : Int) by omega)
      obtain ⟨k, hk⟩ : ∃ k : Nat, n0 % (ks.length : Int) = k := ⟨(n0 % (ks.length : Int)).toNat, by omega⟩
      have hkl : k < ks.length := by omega
      have hkx := hK k hkl
      have b1 : 0 ≤ (knotAt ks k).f0.f0 := hkx.a.low
      have b2 : (knotAt ks k).f0.f0 ≤ (knotAt ks k).f0.f1 := hkx.a.ends
      have b3 : (knotAt ks k).f0.f1 ≤ 23 := hkx.a.high
      have c1 : 0 ≤ (knotAt ks k).f1.f0 := hkx.f.low
      have c2 : (knotAt ks k).f1.f0 ≤ (knotAt ks k).f1.f1 := hkx.f.ends
      have c3 : (knotAt ks k).f1.f1 ≤ (xs.length : Int) := hkx.f.high
      have hspin : luciferref00_Spin.f n0 (ks.length : Int) = some (k : Int) := by rw [spin_ev _ _ (by omega) (by omega), hk]
      have e : ∀ ys : List SK, rd_T61 ys (k : Int) = knotAt ys k := fun ys => rfl
      obtain ⟨known, hknown⟩ : ∃ ys, ys = ks.set k (nearer (knotAt ks k) n1 n2) := ⟨_, rfl⟩
      obtain ⟨less, hless⟩ : ∃ ys, ys = ks.take k ++ ks.drop (k + 1) := ⟨_, rfl⟩
      have hkn := nearer_ok hkx n1 n2
      have hklen : known.length = ks.length := by rw [hknown]; simp
      have hkat : ∀ j, j < ks.length → knotAt known j = if j = k then nearer (knotAt ks k) n1 n2 else knotAt ks j := fun j hj => by rw [hknown]; exact knotAt_set ks k _ hkl j hj
      have okk : (plOf xs s known).Ok := (ok_iff xs s known).2 ⟨⟨hh1.1, hh1.2.1, by omega⟩, hh2, fun j hj => by
        rw [hkat j (by omega)]
        split
        · exact hkn.1
        · exact hK j (by omega)⟩
      have hsub : ∀ j, j < ks.length → ∀ p ∈ (knOf (knotAt known j)).spots, p ∈ (knOf (knotAt ks j)).spots := by
        intro j hj p hp
        rw [hkat j hj] at hp
        by_cases ej : j = k
        · subst ej
          rw [if_pos rfl] at hp
          exact hkn.2 p hp
        · rw [if_neg ej] at hp
          exact hp
      have hll : less.length ≤ ks.length := by rw [hless]; simp; omega
      have hlat : ∀ j, j < less.length → ∃ i, i < ks.length ∧ knotAt less j = knotAt ks i := by rw [hless]; exact fun j hj => knotAt_less ks k j hj
      have okl : (plOf xs s less).Ok := (ok_iff xs s less).2 ⟨⟨hh1.1, hh1.2.1, by omega⟩, hh2, fun j hj => by
        obtain ⟨i, hi, e⟩ := hlat j hj
        rw [e]
        exact hK i hi⟩
      have G1 : Aside0 (((plOf xs s ks).cut (plOf xs s ks).possible).length ≤ ((plOf xs s less).cut (plOf xs s less).possible).length) := by
        refine ⟨?_⟩
        rw [cut_same2 xs s ks less]
        refine Peel.cut_mono ok (possible_sub ok okl fun j hj => ?_)
        obtain ⟨i, hi, e⟩ := hlat j hj
        exact ⟨i, hi, by rw [e]; exact fun p hp => hp⟩
      have G2 : Aside0 (((plOf xs s ks).cut (plOf xs s ks).possible).length ≤ ((plOf xs s known).cut (plOf xs s known).possible).length) := by
        refine ⟨?_⟩
        rw [cut_same2 xs s ks known]
        exact Peel.cut_mono ok (possible_sub ok okk fun j hj => ⟨j, by omega, hsub j (by omega)⟩)
      have G3 : Aside0 ((plOf xs s known).hope ≤ (plOf xs s ks).hope) := by
        refine ⟨?_⟩
        exact hope_mono (truths_ne okk) (truths_sub hklen hsub)
      have HN := Aside0.mk hknown
      have HL := Aside0.mk hless
      have OL := Aside0.mk okl
      have OK := Aside0.mk okk
      clear hknown hless okl okk hkat hsub hlat hkn ok'
      have htk : (ks.take k).length ≤ ks.length := by rw [List.length_take]; exact Nat.min_le_right _ _
      have hdk : (ks.drop (k + 1)).length ≤ ks.length := by rw [List.length_drop]; exact Nat.sub_le _ _
      have ca : (0 : Int) ≤ (k : Int) := Int.natCast_nonneg k
      have cb : (k : Int) ≤ (ks.length : Int) := by omega
      have cc : 0 + (ks.take k).length < 4398046511104 := by omega
      have cd : (0 : Int) ≤ ((k + 1 : Nat) : Int) := Int.natCast_nonneg _
      have ce : ((k + 1 : Nat) : Int) ≤ (ks.length : Int) := by omega
      have cf : (ks.take k).length + (ks.drop (k + 1)).length < 4398046511104 := by omega
      have cg : 0 + ks.length < 4398046511104 := by omega
      have ch : (k : Int) < (ks.length : Int) := by omega
      have cn : ¬ ((ks.length : Int) = 0) := by omega
      have d1 := drawn_ev (knotAt ks k).f0.f0 (knotAt ks k).f0.f1 n1 b1 b2 (by omega)
      have d2 := drawn_ev (knotAt ks k).f1.f0 (knotAt ks k).f1.f1 n2 c1 c2 (by omega)
      have es : knotAt (ks.set k ⟨⟨(knotAt ks k).f0.f0 + n1 % ((knotAt ks k).f0.f1 - (knotAt ks k).f0.f0 + 1), (knotAt ks k).f0.f1⟩, ⟨(knotAt ks k).f1.f0, (knotAt ks k).f1.f1⟩⟩) k = ⟨⟨(knotAt ks k).f0.f0 + n1 % ((knotAt ks k).f0.f1 - (knotAt ks k).f0.f0 + 1), (knotAt ks k).f0.f1⟩, ⟨(knotAt ks k).f1.f0, (knotAt ks k).f1.f1⟩⟩ := by rw [knotAt_set ks k _ hkl k hkl, if_pos rfl]
      have ek : ks.set k (⟨⟨(knotAt ks k).f0.f0 + n1 % ((knotAt ks k).f0.f1 - (knotAt ks k).f0.f0 + 1), (knotAt ks k).f0.f1⟩, ⟨(knotAt ks k).f1.f0, (knotAt ks k).f1.f0 + n2 % ((knotAt ks k).f1.f1 - (knotAt ks k).f1.f0 + 1)⟩⟩ : SK) = known := HN.out.symm
      have w1 : wrap64 ((k : Int) + 1) = ((k + 1 : Nat) : Int) := wrap_succ k (by omega)
      refine Ev.step (fun m => ?_) (Ev.now _)
      simp only [luciferlaw01_PeelLess.j0]
      rw [if_neg (by simp), if_neg cn, hspin]
      simp only [Option.bind_some, List.nil_append, List.length_nil, Int.toNat_natCast, w1, if_pos ca, if_pos cb, if_pos cc, if_pos cd, if_pos ce, if_pos cf, if_pos cg, if_pos ch, e, d1, d2, es, List.set_set, List.length_set]
      rw [ek, ← HL.out, best_ok2 OL.out, best_ok2 OK.out, hope_ok2 OK.out]
      simp only [Option.bind_some, if_true]
      rw [if_pos (Int.ofNat_le.2 G1.out), if_pos (Int.ofNat_le.2 G2.out), if_pos G3.out]
      rfl
  · refine Ev.bind (sound_no hf ok) ?_
    exact Ev.congr (fun k => by rw [if_neg (by simp)]; rfl) (Ev.now _)
theorem less_walk {w : World} {l : PL} {A B : Option Addr} {c d : Nat} (h : RawAt w l A B c d) (he : EndsAt w) (x y z u : Int) :
    Calls Tryd.prog 10 #[.agg #[.slice A l.long.length c, .int .i64 l.size, .slice B l.knots.length d], .agg #[.int .i64 x, .int .i64 y, .int .i64 z, .int .i64 u]] w fun e w' => e = .returned (.bool true) ∧ Below w.heap.size w w' := by
  obtain ⟨k, hk⟩ := less_pure l.long l.size (l.knots.map unKn) x y z u (few_un h)
  have := luciferlaw01_PeelLess.calls k A c l.long l.size B d (l.knots.map unKn) x y z u true w (long_c h) h.c (knots_c h) (by rw [len_un]; exact h.d) he rfl hk
  rwa [len_un] at this
end Go.Proofs.YtigofgdmefobaaaDoor.PP
