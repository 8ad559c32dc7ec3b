/- PeelKnotty over the printed functions. -/
import Derived.Test.YtigofgdmefobaaaDoorPPxf8
import Derived.Test.YtigofgdmefobaaaDoorLawTrue
import Derived.Test.YtigofgdmefobaaaDoorPureC
import Derived.Test.YtigofgdmefobaaaDoorLawsA
set_option linter.unusedVariables false
set_option linter.unusedSimpArgs false
namespace Go.Proofs.YtigofgdmefobaaaDoor.PP
open Go.RowKit Go.Proofs.YtigofgdmefobaaaDoorW.PrintWords Go.Proofs.YtigofgdmefobaaaDoorW.PrintLast Go.Proofs.YtigofgdmefobaaaDoorW.PrintMore
open Peel (PL Kn Sp sumTo RawAt CutAt EndsAt)
theorem all_pos {l : PL} (ok : l.Ok) : 1 ≤ l.all := by
  have h1 := ok.turns1
  have h2 := ok.long 0 (by omega)
  have h3 := Peel.sumTo_mono ok 1 l.long.length (by omega) (Nat.le_refl _)
  rw [Peel.sumTo_succ _ _ (by omega), Peel.sumTo_zero, Peel.sumTo_all] at h3
  unfold PL.all
  omega
theorem knotty_ok {xs : List Int} {s : Int} {ks : List SK} (ok : (plOf xs s ks).Ok) {c : Nat} (hc : (c : Int) < (plOf xs s ks).all) : peel_Knotty.f xs s ks (c : Int) = some ((plOf xs s ks).knottyAt ((plOf xs s ks).truths (plOf xs s ks).knots Peel.none72) c, 0) := by
  unfold peel_Knotty.f Peel.knottyS
  rw [if_pos (few_ok ok).1, if_pos ok, if_pos ⟨by omega, by omega⟩]
  simp
theorem knottyAt_zero {l : PL} (rs : List (Nat → Bool)) (hne : rs ≠ []) (c : Nat) : l.knottyAt rs c = 0 ↔ Peel.anyOf rs c = false := by
  unfold PL.knottyAt Peel.anyOf
  cases hany : rs.any (fun r => r c) with
  | false =>
    have : rs.all (fun r => r c) = false := by
      cases rs with
      | nil => exact absurd rfl hne
      | cons r rs =>
        rw [List.any_cons, Bool.or_eq_false_iff] at hany
        rw [List.all_cons, hany.1, Bool.false_and]
    simp [this]
  | true =>
    simp only [Bool.true_eq_false, iff_false]
    split <;> simp
theorem knottyAt_two {l : PL} (rs : List (Nat → Bool)) (c : Nat) (h : l.knottyAt rs c = 2) : ∀ r ∈ rs, r c = true := by
  unfold PL.knottyAt at h
  cases hall : rs.all (fun r => r c) with
  | true => exact fun r hr => List.all_eq_true.1 hall r hr
  | false =>
    rw [hall] at h
    simp only [Bool.false_eq_true, if_false] at h
    split at h <;> omega
theorem knottyAt_bd (l : PL) (rs : List (Nat → Bool)) (c : Nat) : 0 ≤ l.knottyAt rs c ∧ l.knottyAt rs c ≤ 2 := by
  unfold PL.knottyAt
  split
  · omega
  · split <;> omega
theorem knotty_pure (xs : List Int) (s : Int) (ks : List SK) (n : Int) (bits : List Int) (hf : few xs ks) (hn1 : fewI bits) : ∃ k, luciferlaw01_PeelKnotty.f k xs s ks n bits = some true := by
  refine Ev.rounds (g := fun k => luciferlaw01_PeelKnotty.f k xs s ks n bits) ?_
  by_cases ok : (plOf xs s ks).Ok
  · have h1 : 1 ≤ s := ok.size1
    have h6 : s ≤ 6 := ok.size6
    have es : (plOf xs s ks).size = s := rfl
    have hb := Peel.all_bd ok
    have hp := all_pos ok
    obtain ⟨kn, hkn, hkl, hkf⟩ := truly_knots ok bits
    have hmem := trueF_mem ok bits
    have hne : (plOf xs s ks).truths (plOf xs s ks).knots Peel.none72 ≠ [] := List.ne_nil_of_mem hmem
    have a1 := Int.emod_nonneg n (show (plOf xs s ks).all ≠ 0 by omega)
    have a2 := Int.emod_lt_of_pos n (show 0 < (plOf xs s ks).all by omega)
    obtain ⟨c, hc⟩ : ∃ c : Nat, n % (plOf xs s ks).all = c := ⟨(n % (plOf xs s ks).all).toNat, by omega⟩
    have hspin : luciferref00_Spin.f n (plOf xs s ks).all = some (c : Int) := by rw [spin_ev _ _ hp (by omega), hc]
    have hK := knotty_ok ok (c := c) (by omega)
    have hbd := knottyAt_bd (plOf xs s ks) ((plOf xs s ks).truths (plOf xs s ks).knots Peel.none72) c
    -- what is left behind the first question
    have fin : Ev (fun k => luciferlaw01_PeelKnotty.j0 k (plOf xs s ks).all (c : Int) false xs s ks) true := by
      by_cases hroom : (c : Int) + s > (plOf xs s ks).all
      · refine Ev.step (fun k => ?_) (Ev.now _)
        simp only [luciferlaw01_PeelKnotty.j0]
        rw [if_neg (by simp), wrap_id (by omega) (by omega), if_pos hroom]
        rfl
      · have ew : wrap64 ((c : Int) + s) = (c : Int) + s := wrap_id (by omega) (by omega)
        have hcut : (plOf xs s ks).isCut 0 [(c : Int)] = true := by
          simp only [PL.isCut, Bool.and_true, decide_eq_true_eq]
          rw [es]; omega
        have hS : peel_Sure.f xs s ks [(c : Int)] = some ((plOf xs s ks).count (plOf xs s ks).possible [(c : Int)], 0) := by
          unfold peel_Sure.f Peel.sureS
          rw [if_pos ⟨hf, by unfold fewI; simp⟩, if_pos ok, if_pos hcut]
        have hcount : (plOf xs s ks).count (plOf xs s ks).possible [(c : Int)] = if (plOf xs s ks).free (plOf xs s ks).possible c = true then 1 else 0 := by
          rw [Peel.count_cons]
          simp [PL.count]
        have loop : ∀ (d m : Nat) (b : Bool), (m : Int) + d = s → (b = true ↔ ∀ j, j < m → (plOf xs s ks).possible (c + j) = false) → Ev (fun k => luciferlaw01_PeelKnotty.l0 k (c : Int) b ((c + m : Nat) : Int) xs s ks) true := by
          intro d
          induction d with
          | zero =>
            intro m b hm hbb
            have hfree : (plOf xs s ks).free (plOf xs s ks).possible c = b := by
              rw [Bool.eq_iff_iff, hbb, Peel.free_iff, es]
              exact ⟨fun h j hj => h j (by omega), fun h j hj => h j (by omega)⟩
            refine Ev.step (fun k => ?_) (Ev.now _)
            simp only [luciferlaw01_PeelKnotty.l0]
            rw [ew, if_neg (by omega), hS, Option.bind_some, hcount, hfree]
            cases b <;> simp [fits_ev, luciferlaw01_peeled.f]
          | succ d ih =>
            intro m b hm hbb
            have hk := knotty_ok ok (c := c + m) (by omega)
            cases b with
            | true =>
              refine Ev.step (fun k => ?_) (ih (m + 1) ((plOf xs s ks).knottyAt ((plOf xs s ks).truths (plOf xs s ks).knots Peel.none72) (c + m) == 0) (by omega) ?_)
              · simp only [luciferlaw01_PeelKnotty.l0]
                rw [ew, if_pos (by omega), hk, Option.bind_some, if_pos rfl, if_pos trivial, wrap_succ _ (by omega)]
                rfl
              · rw [beq_iff_eq, knottyAt_zero _ hne]
                constructor
                · intro h j hj
                  rcases Nat.lt_or_ge j m with h' | h'
                  · exact hbb.1 rfl j h'
                  · obtain rfl : j = m := by omega
                    exact h
                · intro h
                  exact h m (by omega)
            | false =>
              refine Ev.step (fun k => ?_) (ih (m + 1) false (by omega) ⟨fun h => (by cases h), fun h => hbb.2 fun j hj => h j (by omega)⟩)
              simp only [luciferlaw01_PeelKnotty.l0]
              rw [ew, if_pos (by omega), hk, Option.bind_some, if_pos rfl, if_neg (by simp), wrap_succ _ (by omega)]
              rfl
        refine Ev.step (f := fun k => luciferlaw01_PeelKnotty.l0 k (c : Int) true ((c + 0 : Nat) : Int) xs s ks) (fun k => ?_) (loop s.toNat 0 true (by omega) (by simp))
        simp only [luciferlaw01_PeelKnotty.j0]
        rw [if_neg (by simp), ew, if_neg hroom]
        rfl
    refine Ev.bind (sound_yes hf ok) (Ev.congr (fun k => if_pos rfl) ?_)
    refine Ev.bind (total_ok ok) ?_
    simp only [hspin, Option.bind_some]
    refine Ev.bind (truly_ev ok hn1) (Ev.bind hkn ?_)
    simp only [hK, Option.bind_some, fits_ev]
    simp only [decide_eq_true hbd, if_true]
    refine Ev.congr (fun k => ?_) fin
    have hlen : (c : Int) < (kn.length : Int) := by omega
    have h0 : (0 : Int) ≤ (c : Int) := by omega
    by_cases e0 : (plOf xs s ks).knottyAt ((plOf xs s ks).truths (plOf xs s ks).knots Peel.none72) c = 0
    · have hfalse : asF kn c = false := by
        have := (knottyAt_zero _ hne c).1 e0
        cases ha : asF kn c with
        | false => rfl
        | true =>
          rw [hkf] at ha
          have h2 := possible_of hmem c ha
          unfold PL.possible at h2
          rw [this] at h2
          cases h2
      rw [if_pos e0, if_pos h0, if_pos hlen, rdOf_nat, hfalse, if_neg (by simp), if_neg (by omega)]
    · rw [if_neg e0]
      by_cases e2 : (plOf xs s ks).knottyAt ((plOf xs s ks).truths (plOf xs s ks).knots Peel.none72) c = 2
      · have htrue : asF kn c = true := by rw [hkf]; exact knottyAt_two _ c e2 _ hmem
        rw [if_pos e2, if_pos h0, if_pos hlen, rdOf_nat, htrue]
        rfl
      · rw [if_neg e2]
  · refine Ev.bind (sound_no hf ok) ?_
    exact Ev.congr (fun k => by rw [if_neg (by simp)]; rfl) (Ev.now _)
theorem knotty_walk {w : World} {l : PL} {A B : Option Addr} {c d : Nat} (h : RawAt w l A B c d) (he : EndsAt w) (n : Int) (hw : (Lit.int .i64 n).wf = true) {cs : List Int} {C : Option Addr} {m : Nat} (hC : CutAt w cs C m) :
    Calls Tryd.prog 8 #[.agg #[.slice A l.long.length c, .int .i64 l.size, .slice B l.knots.length d], .int .i64 n, .slice C cs.length m] w fun e w' => e = .returned (.bool true) ∧ Below w.heap.size w w' := by
  obtain ⟨k, hk⟩ := knotty_pure l.long l.size (l.knots.map unKn) n cs (few_un h) hC.len
  have := luciferlaw01_PeelKnotty.calls k A c l.long l.size B d (l.knots.map unKn) n C m cs true w (long_c h) h.c (knots_c h) (by rw [len_un]; exact h.d) (c_of_cut hC) hC.cap he rfl hk
  rwa [len_un] at this
end Go.Proofs.YtigofgdmefobaaaDoor.PP
