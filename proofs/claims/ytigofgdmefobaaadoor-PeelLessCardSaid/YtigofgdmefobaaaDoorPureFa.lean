/- The laws' own functions in plain numbers: what is sound, drawn numbers. -/
import Derived.Test.YtigofgdmefobaaaDoorPPxf39
import Derived.Test.YtigofgdmefobaaaDoorPPxf49
import Derived.Test.YtigofgdmefobaaaDoorPPxf50
import Derived.Test.YtigofgdmefobaaaDoorPureA
set_option linter.unusedVariables false
set_option linter.unusedSimpArgs false
namespace Go.Proofs.YtigofgdmefobaaaDoor.PP
open Go.RowKit Go.Proofs.YtigofgdmefobaaaDoorW.PrintWords Go.Proofs.YtigofgdmefobaaaDoorW.PrintLast Go.Proofs.YtigofgdmefobaaaDoorW.PrintMore
open Peel (PL Kn Sp sumTo)
theorem sound_no {xs : List Int} {s : Int} {ks : List SK} (hf : few xs ks) (ok : ¬ (plOf xs s ks).Ok) : Ev (fun k => luciferlaw01_sound.f k xs s ks) false := by
  have g : peel_Check.f xs s ks = some 10 := by unfold peel_Check.f; rw [if_pos hf, if_neg ok]
  refine Ev.congr (f := fun k => luciferlaw01_sound.j0 k false xs s ks) (fun k => by unfold luciferlaw01_sound.f; rw [g, Option.bind_some, if_neg (by omega)]) ?_
  refine Ev.step (fun k => by simp only [luciferlaw01_sound.j0]; rfl) (Ev.step (fun k => by simp only [luciferlaw01_sound.l0]; rw [if_neg (by simp)]) (Ev.step (fun k => by simp only [luciferlaw01_sound.j2]; rfl) (Ev.step (fun k => by simp only [luciferlaw01_sound.l1]; rw [if_neg (by simp)]) (Ev.step (fun k => by simp only [luciferlaw01_sound.j4]; rw [if_neg (by simp)]) (Ev.now _)))))
theorem sound_yes {xs : List Int} {s : Int} {ks : List SK} (hf : few xs ks) (ok : (plOf xs s ks).Ok) : Ev (fun k => luciferlaw01_sound.f k xs s ks) true := by
  have g : peel_Check.f xs s ks = some 0 := by unfold peel_Check.f; rw [if_pos hf, if_pos ok]
  obtain ⟨⟨⟨a1, a2⟩, ⟨a3, a4⟩, a5⟩, hL, hK⟩ := (ok_iff xs s ks).1 ok
  have h1 : ∀ (d i : Nat), i ≤ ks.length → ks.length - i = d → Ev (fun k => luciferlaw01_sound.l1 k true (i : Int) xs s ks) true := by
    intro d
    induction d with
    | zero =>
      intro i hi hd
      obtain rfl : i = ks.length := by omega
      refine Ev.step (f := fun k => luciferlaw01_sound.j4 k true (ks.length : Int) false xs s ks) (fun k => by simp only [luciferlaw01_sound.l1]; simp) (Ev.step (fun k => by simp only [luciferlaw01_sound.j4]; rw [if_neg (by simp)]) (Ev.now _))
    | succ d ih =>
      intro i hi hd
      have hlt : (i : Int) < (ks.length : Int) := by omega
      have hk := hK i (by omega)
      have e : rd_T61 ks (i : Int) = knotAt ks i := rfl
      have b1 : 0 ≤ (knotAt ks i).f0.f0 := hk.a.low
      have b2 : (knotAt ks i).f0.f0 ≤ (knotAt ks i).f0.f1 := hk.a.ends
      have b3 : (knotAt ks i).f0.f1 ≤ 23 := hk.a.high
      have b4 : (knotAt ks i).f0.f1 - (knotAt ks i).f0.f0 ≤ 3 := hk.a.close
      have c1 : 0 ≤ (knotAt ks i).f1.f0 := hk.f.low
      have c2 : (knotAt ks i).f1.f0 ≤ (knotAt ks i).f1.f1 := hk.f.ends
      have c3 : (knotAt ks i).f1.f1 ≤ (xs.length : Int) := hk.f.high
      have c4 : (knotAt ks i).f1.f1 - (knotAt ks i).f1.f0 ≤ 1 := hk.f.close
      refine Ev.step (f := fun k => luciferlaw01_sound.j4 k true (i : Int) true xs s ks) (fun k => by simp only [luciferlaw01_sound.l1]; simp [hlt]) (Ev.step (fun k => ?_) (ih (i + 1) (by omega) (by omega)))
      simp only [luciferlaw01_sound.j4]
      rw [if_pos trivial, if_pos (by omega), if_pos hlt, e, right_ev, right_ev, decide_eq_true (⟨b1, b2, b3⟩ : 0 ≤ (knotAt ks i).f0.f0 ∧ (knotAt ks i).f0.f0 ≤ (knotAt ks i).f0.f1 ∧ (knotAt ks i).f0.f1 ≤ 23), decide_eq_true (⟨c1, c2, c3⟩ : 0 ≤ (knotAt ks i).f1.f0 ∧ (knotAt ks i).f1.f0 ≤ (knotAt ks i).f1.f1 ∧ (knotAt ks i).f1.f1 ≤ (xs.length : Int))]
      simp only [Option.bind_some, if_true]
      rw [wrap_id (x := (knotAt ks i).f0.f1 - (knotAt ks i).f0.f0) (by omega) (by omega), wrap_id (x := (knotAt ks i).f1.f1 - (knotAt ks i).f1.f0) (by omega) (by omega), if_pos b4, decide_eq_true c4, wrap_succ _ (by omega)]
  have h0 : ∀ (d i : Nat), i ≤ xs.length → xs.length - i = d → Ev (fun k => luciferlaw01_sound.l0 k true (i : Int) xs s ks) true := by
    intro d
    induction d with
    | zero =>
      intro i hi hd
      obtain rfl : i = xs.length := by omega
      refine Ev.step (f := fun k => luciferlaw01_sound.j2 k true xs s ks) (fun k => by simp only [luciferlaw01_sound.l0]; simp) (Ev.step (fun k => by simp only [luciferlaw01_sound.j2]; rfl) (h1 ks.length 0 (by omega) (by omega)))
    | succ d ih =>
      intro i hi hd
      have hl := (hL i (by omega)).1
      refine Ev.step (fun k => ?_) (ih (i + 1) (by omega) (by omega))
      simp only [luciferlaw01_sound.l0]
      rw [if_pos trivial, if_pos (by omega), if_pos (by omega), rd_nat, fits_ev, decide_eq_true hl, Option.bind_some, wrap_succ _ (by omega)]
  have e1 : (1 : Int) ≤ (xs.length : Int) ∧ (xs.length : Int) ≤ 6 := by omega
  have e2 : 1 ≤ s ∧ s ≤ 6 := ⟨a3, a4⟩
  refine Ev.congr (f := fun k => luciferlaw01_sound.j0 k true xs s ks) (fun k => ?_) (Ev.step (fun k => by simp only [luciferlaw01_sound.j0]; rfl) (h0 xs.length 0 (by omega) (by omega)))
  unfold luciferlaw01_sound.f
  rw [g, Option.bind_some, if_pos rfl, fits_ev, fits_ev, decide_eq_true e1, decide_eq_true e2, decide_eq_true (show (ks.length : Int) ≤ 3 by omega)]
  simp
/-- A number of a ring. -/
theorem spin_ev (n m : Int) (h1 : 1 ≤ m) (h2 : m ≤ 4611686018427387904) : luciferref00_Spin.f n m = some (n % m) := by
  unfold luciferref00_Spin.f
  rw [if_neg (by omega), if_neg (by omega)]
  have hr0 : n.tmod m < m := Int.tmod_lt_of_pos n (by omega)
  have hr1 : -m < n.tmod m := by
    rcases Int.le_total 0 n with h | h
    · have := Int.tmod_nonneg m h
      omega
    · have e : n.tmod m = -((-n).tmod m) := by rw [Int.neg_tmod]; omega
      have := Int.tmod_lt_of_pos (-n) (show 0 < m by omega)
      omega
  have hd := Int.mul_tdiv_add_tmod n m
  by_cases hr : n.tmod m < 0
  · rw [if_pos hr, wrap_id (by omega) (by omega)]
    congr 1
    have e : n = (n.tmod m + m) + m * (n.tdiv m - 1) := by rw [Int.mul_sub]; omega
    conv => rhs; rw [e]
    rw [Int.add_mul_emod_self_left, Int.emod_eq_of_lt (by omega) (by omega)]
  · rw [if_neg hr]
    congr 1
    have e : n = n.tmod m + m * n.tdiv m := by omega
    conv => rhs; rw [e]
    rw [Int.add_mul_emod_self_left, Int.emod_eq_of_lt (by omega) (by omega)]
theorem drawn_ev (lo hi n : Int) (h1 : 0 ≤ lo) (h2 : lo ≤ hi) (h3 : hi ≤ 1000) : luciferref00_Drawn.f lo hi n = some (lo + n % (hi - lo + 1)) := by
  have a1 := Int.emod_nonneg n (show hi - lo + 1 ≠ 0 by omega)
  have a2 := Int.emod_lt_of_pos n (show 0 < hi - lo + 1 by omega)
  unfold luciferref00_Drawn.f
  rw [wrap_id (x := hi - lo) (by omega) (by omega), wrap_id (x := hi - lo + 1) (by omega) (by omega), spin_ev _ _ (by omega) (by omega), Option.bind_some, wrap_id (by omega) (by omega)]
end Go.Proofs.YtigofgdmefobaaaDoor.PP
