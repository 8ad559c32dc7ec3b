/- PeelHope over the printed functions. -/
import Derived.Test.YtigofgdmefobaaaDoorPPxf9
import Derived.Test.YtigofgdmefobaaaDoorLawTrue
import Derived.Test.YtigofgdmefobaaaDoorPureC
import Derived.Test.YtigofgdmefobaaaDoorLawsA
set_option linter.unusedVariables false
set_option linter.unusedSimpArgs false
namespace Go.Proofs.YtigofgdmefobaaaDoor.PP
open Go.RowKit Go.Proofs.YtigofgdmefobaaaDoorW.PrintWords Go.Proofs.YtigofgdmefobaaaDoorW.PrintLast Go.Proofs.YtigofgdmefobaaaDoorW.PrintMore
open Peel (PL Kn Sp sumTo RawAt CutAt EndsAt)
theorem best_ok' {xs : List Int} {s : Int} {ks : List SK} (ok : (plOf xs s ks).Ok) : peel_Best.f xs s ks = some ((plOf xs s ks).cut (plOf xs s ks).possible, 0) := by
  unfold peel_Best.f Peel.bestS
  rw [if_pos (few_ok ok).1, if_pos ok]
theorem hope_ok' {xs : List Int} {s : Int} {ks : List SK} (ok : (plOf xs s ks).Ok) : peel_Hope.f xs s ks = some ((plOf xs s ks).hope, 0) := by
  unfold peel_Hope.f Peel.hopeS
  rw [if_pos (few_ok ok).1, if_pos ok]
theorem cut_same (xs : List Int) (s : Int) (ks ks' : List SK) (r : Nat → Bool) : (plOf xs s ks').cut r = (plOf xs s ks).cut r := by
  have : ∀ f c, (plOf xs s ks').cutF r f c = (plOf xs s ks).cutF r f c := by
    intro f
    induction f with
    | zero => intro c; rfl
    | succ f ih =>
      intro c
      simp only [PL.cutF, show (plOf xs s ks').size = (plOf xs s ks).size from rfl, show (plOf xs s ks').all = (plOf xs s ks).all from rfl, ih]
  exact this 73 0
theorem truly_truths {xs : List Int} {s : Int} {ks : List SK} (ok : (plOf xs s ks).Ok) (bits : List Int) (r : Nat → Bool) (hr : r ∈ (plOf xs s (trulyL ks bits)).truths (plOf xs s (trulyL ks bits)).knots Peel.none72) : r = trueF xs s ks bits := by
  obtain ⟨ss, hl, hm, rfl⟩ := (Peel.truths_mem _ _ _ _).1 hr
  have hl' : ss.length = ks.length := by rw [hl, knots_len, truly_len]
  have : ss = (List.range ks.length).map (chosen ks bits) := by
    apply List.ext_getElem (by simp [hl'])
    intro i h1 h2
    have hi : i < ks.length := by omega
    have hi' : i < (trulyL ks bits).length := by rw [truly_len]; exact hi
    have := hm i _ ss[i] (knots_get (xs := xs) (s := s) hi') (List.getElem?_eq_getElem h1)
    rw [truly_at hi] at this
    have e := Peel.spot_single (chosen ks bits i)
    have e2 : knOf (atSpot (chosen ks bits i)) = ⟨⟨(chosen ks bits i).1, (chosen ks bits i).1⟩, ⟨(chosen ks bits i).2, (chosen ks bits i).2⟩⟩ := rfl
    rw [e2, e, List.mem_singleton] at this
    rw [this, List.getElem_map, List.getElem_range]
  funext c
  rw [this]
  simp only [Peel.none72, Bool.false_or]
  rfl
theorem truly_possible {xs : List Int} {s : Int} {ks : List SK} (ok : (plOf xs s ks).Ok) (bits : List Int) : (plOf xs s (trulyL ks bits)).possible = trueF xs s ks bits := by
  obtain ⟨T, _, _, hTn, _, hTm⟩ := all_ev (truly_ok ok bits)
  obtain ⟨t, ht⟩ := List.exists_mem_of_length_pos (List.length_pos_iff.2 hTn)
  have hmem := (hTm (asF t)).1 ⟨t, ht, rfl⟩
  have e := truly_truths ok bits _ hmem
  funext c
  unfold PL.possible
  rw [Bool.eq_iff_iff, Peel.anyOf_true]
  constructor
  · rintro ⟨r, hr, h⟩
    rw [truly_truths ok bits r hr] at h
    exact h
  · intro h
    exact ⟨_, hmem, by rw [e]; exact h⟩
theorem truly_hope {xs : List Int} {s : Int} {ks : List SK} (ok : (plOf xs s ks).Ok) (bits : List Int) : (plOf xs s (trulyL ks bits)).hope = (((plOf xs s ks).cut (trueF xs s ks bits)).length : Int) := by
  obtain ⟨T, _, _, hTn, _, hTm⟩ := all_ev (truly_ok ok bits)
  obtain ⟨t, ht⟩ := List.exists_mem_of_length_pos (List.length_pos_iff.2 hTn)
  have hmem := (hTm (asF t)).1 ⟨t, ht, rfl⟩
  obtain ⟨r, hr, e⟩ := most_at (plOf xs s (trulyL ks bits)) _ (List.ne_nil_of_mem hmem)
  unfold PL.hope
  rw [e, truly_truths ok bits r hr, cut_same xs s ks]
def bitsOf (i : Nat) : List Int := [(i : Int) % 4, (i : Int) / 4 % 2, (i : Int) / 8 % 4, (i : Int) / 32 % 2, (i : Int) / 64 % 4, (i : Int) / 256]
theorem bits_ev (i : Nat) (h : i < 512) : ([Int.tmod (i : Int) 4, Int.tmod (wrap64 (Int.tdiv (i : Int) 4)) 2, Int.tmod (wrap64 (Int.tdiv (i : Int) 8)) 4, Int.tmod (wrap64 (Int.tdiv (i : Int) 32)) 2, Int.tmod (wrap64 (Int.tdiv (i : Int) 64)) 4, wrap64 (Int.tdiv (i : Int) 256)] : List Int) = bitsOf i := by
  unfold bitsOf
  have h0 : (0 : Int) ≤ (i : Int) := by omega
  have t : ∀ m : Int, Int.tdiv (i : Int) m = (i : Int) / m := fun m => Int.tdiv_eq_ediv_of_nonneg h0
  rw [t, t, t, t, t, wrap_id (x := (i : Int) / 4) (by omega) (by omega), wrap_id (x := (i : Int) / 8) (by omega) (by omega), wrap_id (x := (i : Int) / 32) (by omega) (by omega), wrap_id (x := (i : Int) / 64) (by omega) (by omega), wrap_id (x := (i : Int) / 256) (by omega) (by omega)]
  rw [Int.tmod_eq_emod_of_nonneg h0, Int.tmod_eq_emod_of_nonneg (show (0 : Int) ≤ (i : Int) / 4 by omega), Int.tmod_eq_emod_of_nonneg (show (0 : Int) ≤ (i : Int) / 8 by omega), Int.tmod_eq_emod_of_nonneg (show (0 : Int) ≤ (i : Int) / 32 by omega), Int.tmod_eq_emod_of_nonneg (show (0 : Int) ≤ (i : Int) / 64 by omega)]
/-- The greatest of some numbers. -/
def top (F : Nat → Int) : Nat → Nat → Int → Int
  | 0, _, m => m
  | d + 1, i, m => top F d (i + 1) (max m (F i))
theorem top_facts (F : Nat → Int) : ∀ (d i : Nat) (m : Int), m ≤ top F d i m ∧ (∀ j, i ≤ j → j < i + d → F j ≤ top F d i m) ∧ (top F d i m = m ∨ ∃ j, i ≤ j ∧ j < i + d ∧ top F d i m = F j) := by
  intro d
  induction d with
  | zero => intro i m; exact ⟨Int.le_refl _, fun j h1 h2 => by omega, .inl rfl⟩
  | succ d ih =>
    intro i m
    obtain ⟨h1, h2, h3⟩ := ih (i + 1) (max m (F i))
    refine ⟨by show m ≤ top F d (i + 1) (max m (F i)); omega, fun j a b => ?_, ?_⟩
    · show F j ≤ top F d (i + 1) (max m (F i))
      rcases Nat.lt_or_ge i j with h | h
      · exact h2 j (by omega) (by omega)
      · obtain rfl : j = i := by omega
        omega
    · show top F d (i + 1) (max m (F i)) = m ∨ ∃ j, i ≤ j ∧ j < i + (d + 1) ∧ top F d (i + 1) (max m (F i)) = F j
      rcases h3 with h | ⟨j, a, b, h⟩
      · rw [h]
        rcases Int.le_total m (F i) with h' | h'
        · exact .inr ⟨i, Nat.le_refl _, by omega, by omega⟩
        · exact .inl (by omega)
      · exact .inr ⟨j, by omega, by omega, h⟩
theorem item_at (i : Nat) (h : i < 512) (k : Nat) (hk : k < 3) : itemZ (bitsOf i) (2 * (k : Int)) = ((i / 8 ^ k % 8 : Nat) : Int) % 4 ∧ itemZ (bitsOf i) (2 * (k : Int) + 1) = ((i / 8 ^ k % 8 : Nat) : Int) / 4 := by
  unfold itemZ
  have hl : (bitsOf i).length = 6 := rfl
  rw [hl]
  rcases k with _ | _ | _ | k
  · refine ⟨?_, ?_⟩ <;> simp [bitsOf] <;> omega
  · refine ⟨?_, ?_⟩ <;> simp [bitsOf] <;> omega
  · refine ⟨?_, ?_⟩ <;> simp [bitsOf] <;> omega
  · omega
/-- Eight places of each knot reach all of its spots. -/
theorem reach {xs : List Int} {s : Int} {ks : List SK} (ok : (plOf xs s ks).Ok) {r : Nat → Bool} (hr : r ∈ (plOf xs s ks).truths (plOf xs s ks).knots Peel.none72) : ∃ i, i < 8 ^ ks.length ∧ trueF xs s ks (bitsOf i) = r := by
  obtain ⟨hf, h3, h6⟩ := few_ok ok
  obtain ⟨ss, hl, hm, rfl⟩ := (Peel.truths_mem _ _ _ _).1 hr
  rw [knots_len] at hl
  have hj : ∀ k : Nat, ∃ j, j < 8 ∧ (k < ks.length → ss[k]? = some (Peel.wspot (knOf (knotAt ks k)) j)) := by
    intro k
    by_cases hk : k < ks.length
    · have h1 : k < ss.length := by omega
      obtain ⟨j, hj8, he⟩ := Peel.wspot_all (knot_ok ok hk) (hm k _ ss[k] (knots_get hk) (List.getElem?_eq_getElem h1))
      exact ⟨j, hj8, fun _ => by rw [List.getElem?_eq_getElem h1, he]⟩
    · exact ⟨0, by omega, fun h => absurd h hk⟩
  obtain ⟨j0, a0, b0⟩ := hj 0
  obtain ⟨j1, a1, b1⟩ := hj 1
  obtain ⟨j2, a2, b2⟩ := hj 2
  have key : ∃ i, i < 8 ^ ks.length ∧ i < 512 ∧ (0 < ks.length → i / 8 ^ 0 % 8 = j0) ∧ (1 < ks.length → i / 8 ^ 1 % 8 = j1) ∧ (2 < ks.length → i / 8 ^ 2 % 8 = j2) := by
    have hc : ks.length = 0 ∨ ks.length = 1 ∨ ks.length = 2 ∨ ks.length = 3 := by omega
    rcases hc with e | e | e | e <;> rw [e]
    · exact ⟨0, by omega, by omega, by omega, by omega, by omega⟩
    · exact ⟨j0, by omega, by omega, by omega, by omega, by omega⟩
    · exact ⟨j0 + 8 * j1, by omega, by omega, by omega, by omega, by omega⟩
    · exact ⟨j0 + 8 * j1 + 64 * j2, by omega, by omega, by omega, by omega, by omega⟩
  obtain ⟨i, hi, hi5, c0, c1, c2⟩ := key
  refine ⟨i, hi, ?_⟩
  have hss : (List.range ks.length).map (chosen ks (bitsOf i)) = ss := by
    apply List.ext_getElem (by simp [hl])
    intro k h1 h2
    have hk : k < ks.length := by simpa using h1
    rw [List.getElem_map, List.getElem_range]
    have hit := item_at i hi5 k (by omega)
    have hjk : ∃ j, i / 8 ^ k % 8 = j ∧ ss[k]? = some (Peel.wspot (knOf (knotAt ks k)) j) := by
      rcases k with _ | _ | _ | k
      · exact ⟨j0, c0 hk, b0 hk⟩
      · exact ⟨j1, c1 hk, b1 hk⟩
      · exact ⟨j2, c2 hk, b2 hk⟩
      · omega
    obtain ⟨j, e1, e2⟩ := hjk
    rw [List.getElem?_eq_getElem h2] at e2
    rw [Option.some.inj e2]
    unfold chosen spotOf Peel.wspot
    rw [hit.1, hit.2, e1]
    rfl
  funext c
  unfold trueF
  rw [hss]
  simp [Peel.none72]
theorem shl_eight (n : Nat) (h : n ≤ 3) : shl .i64 1 (wrap64 (3 * (n : Int))) = ((8 ^ n : Nat) : Int) := by
  rcases n with _ | _ | _ | _ | n
  · decide +kernel
  · decide +kernel
  · decide +kernel
  · decide +kernel
  · omega
theorem hope_pure (xs : List Int) (s : Int) (ks : List SK) (bits : List Int) (hf : few xs ks) (hn1 : fewI bits) : ∃ k, luciferlaw01_PeelHope.f k xs s ks bits = some true := by
  refine Ev.rounds (g := fun k => luciferlaw01_PeelHope.f k xs s ks bits) ?_
  by_cases ok : (plOf xs s ks).Ok
  · obtain ⟨_, h3, h6⟩ := few_ok ok
    have hmem := trueF_mem ok bits
    have hle : ∀ bits, (((plOf xs s ks).cut (trueF xs s ks bits)).length : Int) ≤ (plOf xs s ks).hope := fun bits => most_ge _ _ _ (trueF_mem ok bits)
    have hbest : ∀ bits, peel_Best.f xs s (trulyL ks bits) = some ((plOf xs s ks).cut (trueF xs s ks bits), 0) := fun bits => by rw [best_ok' (truly_ok ok bits), truly_possible ok bits, cut_same xs s ks]
    have hhope : peel_Hope.f xs s (trulyL ks bits) = some ((((plOf xs s ks).cut (trueF xs s ks bits)).length : Int), 0) := by rw [hope_ok' (truly_ok ok bits), truly_hope ok bits]
    have h8 : 8 ^ ks.length ≤ 512 := Nat.le_trans (Nat.pow_le_pow_right (by omega) h3) (by decide)
    have hsh := shl_eight ks.length h3
    have h3n : 0 ≤ wrap64 (3 * (ks.length : Int)) := by rw [wrap_id (by omega) (by omega)]; omega
    have loop : ∀ (d i : Nat) (m : Int), i + d = 8 ^ ks.length → top (fun i => (((plOf xs s ks).cut (trueF xs s ks (bitsOf i))).length : Int)) d i m = (plOf xs s ks).hope → Ev (fun k => luciferlaw01_PeelHope.l0 k (plOf xs s ks).hope m (i : Int) xs s ks) true := by
      intro d
      induction d with
      | zero =>
        intro i m hi hm
        have hm : m = (plOf xs s ks).hope := hm
        refine Ev.step (fun k => ?_) (Ev.now _)
        simp only [luciferlaw01_PeelHope.l0]
        rw [if_pos h3n, hsh, if_neg (by omega), if_pos hm]
        rfl
      | succ d ih =>
        intro i m hi hm
        refine Ev.step (f := fun k => (luciferlaw01_truly.f k xs s ks (bitsOf i)).bind fun bt526 => ((peel_Best.f bt526.1 bt526.2.1 bt526.2.2).bind fun bt534 => (if bt534.2 = 0 then (luciferlaw01_PeelHope.l0 k (plOf xs s ks).hope (mx m (bt534.1.length : Int)) (wrap64 ((i : Int) + 1)) xs s ks) else (some false)))) (fun k => ?_) (Ev.bind (truly_ev ok (by unfold fewI bitsOf; simp)) ?_)
        · simp only [luciferlaw01_PeelHope.l0]
          rw [if_pos h3n, hsh, if_pos (by omega), bits_ev i (by omega)]
        · simp only [hbest, Option.bind_some, if_true]
          rw [wrap_succ _ (by omega)]
          have e : ∀ a b : Int, mx a b = max a b := fun a b => by unfold mx; omega
          rw [e]
          exact ih (i + 1) _ (by omega) hm
    have htop : top (fun i => (((plOf xs s ks).cut (trueF xs s ks (bitsOf i))).length : Int)) (8 ^ ks.length) 0 0 = (plOf xs s ks).hope := by
      obtain ⟨t1, t2, t3⟩ := top_facts (fun i => (((plOf xs s ks).cut (trueF xs s ks (bitsOf i))).length : Int)) (8 ^ ks.length) 0 0
      obtain ⟨r, hr, he⟩ := most_at (plOf xs s ks) ((plOf xs s ks).truths (plOf xs s ks).knots Peel.none72) (List.ne_nil_of_mem hmem)
      obtain ⟨i, hi, hir⟩ := reach ok hr
      have h1 := t2 i (by omega) (by omega)
      rw [hir] at h1
      have he' : (plOf xs s ks).hope = (((plOf xs s ks).cut r).length : Int) := he
      rcases t3 with h | ⟨j, _, _, h⟩
      · omega
      · have := hle (bitsOf j)
        omega
    refine Ev.bind (sound_yes hf ok) (Ev.congr (fun k => if_pos rfl) ?_)
    simp only [hope_ok' ok, Option.bind_some]
    refine Ev.bind (truly_ev ok hn1) ?_
    simp only [hbest, Option.bind_some]
    refine Ev.bind (truly_ev ok hn1) ?_
    simp only [hhope, Option.bind_some, if_true]
    refine Ev.congr (f := fun k => luciferlaw01_PeelHope.j0 k (plOf xs s ks).hope false xs s ks) (fun k => ?_) (Ev.step (f := fun k => luciferlaw01_PeelHope.l0 k (plOf xs s ks).hope 0 ((0 : Nat) : Int) xs s ks) (fun k => ?_) (loop (8 ^ ks.length) 0 0 (by omega) htop))
    · rw [if_neg (by have := hle bits; omega)]
      simp
    · simp only [luciferlaw01_PeelHope.j0]
      rw [if_neg (by simp)]
      rfl
  · refine Ev.bind (sound_no hf ok) ?_
    exact Ev.congr (fun k => by rw [if_neg (by simp)]; rfl) (Ev.now _)
theorem hope_walk {w : World} {l : PL} {A B : Option Addr} {c d : Nat} (h : RawAt w l A B c d) (he : EndsAt w) {cs : List Int} {C : Option Addr} {n : Nat} (hC : CutAt w cs C n) :
    Calls Tryd.prog 9 #[.agg #[.slice A l.long.length c, .int .i64 l.size, .slice B l.knots.length d], .slice C cs.length n] w fun e w' => e = .returned (.bool true) ∧ Below w.heap.size w w' := by
  obtain ⟨k, hk⟩ := hope_pure l.long l.size (l.knots.map unKn) cs (few_un h) hC.len
  have := luciferlaw01_PeelHope.calls k A c l.long l.size B d (l.knots.map unKn) C n cs true w (long_c h) h.c (knots_c h) (by rw [len_un]; exact h.d) (c_of_cut hC) hC.cap he rfl hk
  rwa [len_un] at this
end Go.Proofs.YtigofgdmefobaaaDoor.PP
