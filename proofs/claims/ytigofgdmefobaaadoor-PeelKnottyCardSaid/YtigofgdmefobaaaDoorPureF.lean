/- The laws' own functions in plain numbers: what is sound, drawn numbers, drawn cuttings. -/
import Derived.Test.YtigofgdmefobaaaDoorPPxf39
import Derived.Test.YtigofgdmefobaaaDoorPPxf49
import Derived.Test.YtigofgdmefobaaaDoorPPxf85
import Derived.Test.YtigofgdmefobaaaDoorPPxf50
import Derived.Test.YtigofgdmefobaaaDoorPPxf42
import Derived.Test.YtigofgdmefobaaaDoorPPxf43
import Derived.Test.YtigofgdmefobaaaDoorPPxf44
import Derived.Test.YtigofgdmefobaaaDoorPureA
import Derived.Test.YtigofgdmefobaaaDoorG7
set_option linter.unusedVariables false
set_option linter.unusedSimpArgs false
namespace Go.Proofs.YtigofgdmefobaaaDoor.PP
open Go.RowKit Go.Proofs.YtigofgdmefobaaaDoorW.PrintWords Go.Proofs.YtigofgdmefobaaaDoorW.PrintLast Go.Proofs.YtigofgdmefobaaaDoorW.PrintMore
open Peel (PL Kn Sp sumTo)
theorem sound_no {xs : List Int} {s : Int} {ks : List SK} (hf : few xs ks) (ok : ¬ (plOf xs s ks).Ok) : Ev (fun k => luciferlaw01_sound.f k xs s ks) false := by
  have g : peel_Check.f xs s ks = some 10 := by unfold peel_Check.f; rw [if_pos hf, if_neg ok]
  refine Ev.congr (f := fun k => luciferlaw01_sound.j0 k false xs s ks) (fun k => by unfold luciferlaw01_sound.f; rw [g, Option.bind_some, if_neg (by omega)]) ?_
  refine Ev.step (fun k => by simp only [luciferlaw01_sound.j0]; rfl) (Ev.step (fun k => by simp only [luciferlaw01_sound.l0]; rw [if_neg (by simp)]) (Ev.step (fun k => by simp only [luciferlaw01_sound.j2]; rfl) (Ev.step (fun k => by simp only [luciferlaw01_sound.l1]; rw [if_neg (by simp)]) (Ev.step (fun k => by simp only [luciferlaw01_sound.j4]; rw [if_neg (by simp)]) (Ev.now _)))))
theorem sound_yes {xs : List Int} {s : Int} {ks : List SK} (hf : few xs ks) (ok : (plOf xs s ks).Ok) : Ev (fun k => luciferlaw01_sound.f k xs s ks) true := by
  have g : peel_Check.f xs s ks = some 0 := by unfold peel_Check.f; rw [if_pos hf, if_pos ok]
  obtain ⟨⟨⟨a1, a2⟩, ⟨a3, a4⟩, a5⟩, hL, hK⟩ := (ok_iff xs s ks).1 ok
  have h1 : ∀ (d i : Nat), i ≤ ks.length → ks.length - i = d → Ev (fun k => luciferlaw01_sound.l1 k true (i : Int) xs s ks) true := by
    intro d
    induction d with
    | zero =>
      intro i hi hd
      obtain rfl : i = ks.length := by omega
      refine Ev.step (f := fun k => luciferlaw01_sound.j4 k true (ks.length : Int) false xs s ks) (fun k => by simp only [luciferlaw01_sound.l1]; simp) (Ev.step (fun k => by simp only [luciferlaw01_sound.j4]; rw [if_neg (by simp)]) (Ev.now _))
    | succ d ih =>
      intro i hi hd
      have hlt : (i : Int) < (ks.length : Int) := by omega
      have hk := hK i (by omega)
      have e : rd_T61 ks (i : Int) = knotAt ks i := rfl
      have b1 : 0 ≤ (knotAt ks i).f0.f0 := hk.a.low
      have b2 : (knotAt ks i).f0.f0 ≤ (knotAt ks i).f0.f1 := hk.a.ends
      have b3 : (knotAt ks i).f0.f1 ≤ 23 := hk.a.high
      have b4 : (knotAt ks i).f0.f1 - (knotAt ks i).f0.f0 ≤ 3 := hk.a.close
      have c1 : 0 ≤ (knotAt ks i).f1.f0 := hk.f.low
      have c2 : (knotAt ks i).f1.f0 ≤ (knotAt ks i).f1.f1 := hk.f.ends
      have c3 : (knotAt ks i).f1.f1 ≤ (xs.length : Int) := hk.f.high
      have c4 : (knotAt ks i).f1.f1 - (knotAt ks i).f1.f0 ≤ 1 := hk.f.close
      refine Ev.step (f := fun k => luciferlaw01_sound.j4 k true (i : Int) true xs s ks) (fun k => by simp only [luciferlaw01_sound.l1]; simp [hlt]) (Ev.step (fun k => ?_) (ih (i + 1) (by omega) (by omega)))
      simp only [luciferlaw01_sound.j4]
      rw [if_pos trivial, if_pos (by omega), if_pos hlt, e, right_ev, right_ev, decide_eq_true (⟨b1, b2, b3⟩ : 0 ≤ (knotAt ks i).f0.f0 ∧ (knotAt ks i).f0.f0 ≤ (knotAt ks i).f0.f1 ∧ (knotAt ks i).f0.f1 ≤ 23), decide_eq_true (⟨c1, c2, c3⟩ : 0 ≤ (knotAt ks i).f1.f0 ∧ (knotAt ks i).f1.f0 ≤ (knotAt ks i).f1.f1 ∧ (knotAt ks i).f1.f1 ≤ (xs.length : Int))]
      simp only [Option.bind_some, if_true]
      rw [wrap_id (x := (knotAt ks i).f0.f1 - (knotAt ks i).f0.f0) (by omega) (by omega), wrap_id (x := (knotAt ks i).f1.f1 - (knotAt ks i).f1.f0) (by omega) (by omega), if_pos b4, decide_eq_true c4, wrap_succ _ (by omega)]
  have h0 : ∀ (d i : Nat), i ≤ xs.length → xs.length - i = d → Ev (fun k => luciferlaw01_sound.l0 k true (i : Int) xs s ks) true := by
    intro d
    induction d with
    | zero =>
      intro i hi hd
      obtain rfl : i = xs.length := by omega
      refine Ev.step (f := fun k => luciferlaw01_sound.j2 k true xs s ks) (fun k => by simp only [luciferlaw01_sound.l0]; simp) (Ev.step (fun k => by simp only [luciferlaw01_sound.j2]; rfl) (h1 ks.length 0 (by omega) (by omega)))
    | succ d ih =>
      intro i hi hd
      have hl := (hL i (by omega)).1
      refine Ev.step (fun k => ?_) (ih (i + 1) (by omega) (by omega))
      simp only [luciferlaw01_sound.l0]
      rw [if_pos trivial, if_pos (by omega), if_pos (by omega), rd_nat, fits_ev, decide_eq_true hl, Option.bind_some, wrap_succ _ (by omega)]
  have e1 : (1 : Int) ≤ (xs.length : Int) ∧ (xs.length : Int) ≤ 6 := by omega
  have e2 : 1 ≤ s ∧ s ≤ 6 := ⟨a3, a4⟩
  refine Ev.congr (f := fun k => luciferlaw01_sound.j0 k true xs s ks) (fun k => ?_) (Ev.step (fun k => by simp only [luciferlaw01_sound.j0]; rfl) (h0 xs.length 0 (by omega) (by omega)))
  unfold luciferlaw01_sound.f
  rw [g, Option.bind_some, if_pos rfl, fits_ev, fits_ev, decide_eq_true e1, decide_eq_true e2, decide_eq_true (show (ks.length : Int) ≤ 3 by omega)]
  simp
/-- A number of a ring. -/
theorem spin_ev (n m : Int) (h1 : 1 ≤ m) (h2 : m ≤ 4611686018427387904) : luciferref00_Spin.f n m = some (n % m) := by
  unfold luciferref00_Spin.f
  rw [if_neg (by omega), if_neg (by omega)]
  have hr0 : n.tmod m < m := Int.tmod_lt_of_pos n (by omega)
  have hr1 : -m < n.tmod m := by
    rcases Int.le_total 0 n with h | h
    · have := Int.tmod_nonneg m h
      omega
    · have e : n.tmod m = -((-n).tmod m) := by rw [Int.neg_tmod]; omega
      have := Int.tmod_lt_of_pos (-n) (show 0 < m by omega)
      omega
  have hd := Int.mul_tdiv_add_tmod n m
  by_cases hr : n.tmod m < 0
  · rw [if_pos hr, wrap_id (by omega) (by omega)]
    congr 1
    have e : n = (n.tmod m + m) + m * (n.tdiv m - 1) := by rw [Int.mul_sub]; omega
    conv => rhs; rw [e]
    rw [Int.add_mul_emod_self_left, Int.emod_eq_of_lt (by omega) (by omega)]
  · rw [if_neg hr]
    congr 1
    have e : n = n.tmod m + m * n.tdiv m := by omega
    conv => rhs; rw [e]
    rw [Int.add_mul_emod_self_left, Int.emod_eq_of_lt (by omega) (by omega)]
def itemZ (bits : List Int) (j : Int) : Int := if bits.length = 0 then 0 else bits.getD (j % (bits.length : Int)).toNat 0
theorem item_ev (bits : List Int) (hn : fewI bits) (j : Int) : luciferref00_Item.f bits j = some (itemZ bits j) := by
  have hn' : bits.length ≤ 4611686018427387904 := hn
  unfold luciferref00_Item.f itemZ
  by_cases h : bits.length = 0
  · rw [if_pos (by omega), if_pos h]
  · have h1 := Int.emod_nonneg j (show (bits.length : Int) ≠ 0 by omega)
    have h2 := Int.emod_lt_of_pos j (show (0 : Int) < (bits.length : Int) by omega)
    rw [if_neg (by omega), if_neg h, spin_ev _ _ (by omega) (by omega), Option.bind_some, if_pos h1, if_pos h2]
    rfl
theorem drawn_ev (lo hi n : Int) (h1 : 0 ≤ lo) (h2 : lo ≤ hi) (h3 : hi ≤ 1000) : luciferref00_Drawn.f lo hi n = some (lo + n % (hi - lo + 1)) := by
  have a1 := Int.emod_nonneg n (show hi - lo + 1 ≠ 0 by omega)
  have a2 := Int.emod_lt_of_pos n (show 0 < hi - lo + 1 by omega)
  unfold luciferref00_Drawn.f
  rw [wrap_id (x := hi - lo) (by omega) (by omega), wrap_id (x := hi - lo + 1) (by omega) (by omega), spin_ev _ _ (by omega) (by omega), Option.bind_some, wrap_id (by omega) (by omega)]
theorem endOf_bd (l : PL) : ∀ (cs : List Int) (b : Int), 0 ≤ l.size → l.isCut b cs = true → b ≤ l.all → b ≤ l.endOf b cs ∧ l.endOf b cs ≤ l.all := by
  intro cs
  induction cs with
  | nil => intro b _ _ h; exact ⟨Int.le_refl _, h⟩
  | cons c cs ih =>
    intro b h0 h hb
    obtain ⟨a1, a2, a3⟩ := Peel.isCut_cons l b c cs h
    have := ih (c + l.size) h0 a3 (by omega)
    exact ⟨by show b ≤ l.endOf (c + l.size) cs; omega, this.2⟩
/-- A drawn cutting is one. -/
theorem draw_ev {xs : List Int} {s : Int} {ks : List SK} (ok : (plOf xs s ks).Ok) (bits : List Int) (hn : fewI bits) : ∃ cs, Ev (fun k => luciferlaw01_drawn.f k xs s ks bits) cs ∧ (plOf xs s ks).isCut 0 cs = true ∧ cs.length ≤ 72 := by
  have hn' : bits.length ≤ 4611686018427387904 := hn
  have hb := Peel.all_bd ok
  have h1 : 1 ≤ s := ok.size1
  have h6 : s ≤ 6 := ok.size6
  have es : (plOf xs s ks).size = s := rfl
  have loop : ∀ (d i : Nat) (cs : List Int) (c : Int), 72 - i ≤ d → cs.length = i → i ≤ 72 → (plOf xs s ks).isCut 0 cs = true → c = (plOf xs s ks).endOf 0 cs → 0 ≤ c → c ≤ 72 →
      ∃ out, Ev (fun k => luciferlaw01_drawn.l0 k bits cs c (i : Int) xs s ks) out ∧ (plOf xs s ks).isCut 0 out = true ∧ out.length ≤ 72 := by
    intro d
    induction d with
    | zero =>
      intro i cs c hd hl hi hc he h0 hm
      refine ⟨cs, Ev.step (f := fun k => luciferlaw01_drawn.j1 k bits cs c (i : Int) false xs s ks) (fun k => ?_) (Ev.step (fun k => by simp only [luciferlaw01_drawn.j1]; rw [if_neg (by simp)]) (Ev.now _)), hc, by omega⟩
      simp only [luciferlaw01_drawn.l0]
      by_cases h : (i : Int) < (bits.length : Int)
      · rw [if_pos h, decide_eq_false (by omega)]
      · rw [if_neg h]
    | succ d ih =>
      intro i cs c hd hl hi hc he h0 hm
      by_cases h : i < bits.length ∧ i < 72
      · have a1 := Int.emod_nonneg (bits.getD i 0) (show (4 : Int) ≠ 0 by omega)
        have a2 := Int.emod_lt_of_pos (bits.getD i 0) (show (0 : Int) < 4 by omega)
        have hgo : ∀ (f : Nat → Option (List Int)) out, (∀ k, (luciferref00_Total.f k xs).bind (fun t389 => (if (wrap64 ((wrap64 (c + bits.getD i 0 % 4)) + s)) > t389 then (some cs) else (if cs.length < 17592186044416 then (luciferlaw01_drawn.l0 k bits (cs ++ [wrap64 (c + bits.getD i 0 % 4)]) (wrap64 ((wrap64 (c + bits.getD i 0 % 4)) + s)) (wrap64 ((i : Int) + 1)) xs s ks) else (none)))) = f k) → Ev f out → Ev (fun k => luciferlaw01_drawn.l0 k bits cs c (i : Int) xs s ks) out := by
          intro f out hf h2
          refine Ev.step (f := fun k => luciferlaw01_drawn.j1 k bits cs c (i : Int) true xs s ks) (fun k => ?_) (Ev.step (fun k => ?_) h2)
          · simp only [luciferlaw01_drawn.l0]
            rw [if_pos (by omega), decide_eq_true (by omega)]
          · simp only [luciferlaw01_drawn.j1]
            rw [if_pos trivial, if_pos (by omega), if_pos (by omega), rd_nat, spin_ev _ _ (by omega) (by omega), Option.bind_some]
            exact hf k
        by_cases hout : c + bits.getD i 0 % 4 + s > (plOf xs s ks).all
        · refine ⟨cs, hgo _ cs (fun k => rfl) (Ev.bind (total_ok ok) (Ev.congr (fun k => ?_) (Ev.now _))), hc, by omega⟩
          rw [wrap_id (x := c + bits.getD i 0 % 4) (by omega) (by omega), wrap_id (by omega) (by omega), if_pos hout]
        · have hsn := Peel.isCut_snoc (plOf xs s ks) (c + bits.getD i 0 % 4) cs 0 hc (by omega) (by rw [es]; omega)
          obtain ⟨out, ho, h2, h3⟩ := ih (i + 1) (cs ++ [c + bits.getD i 0 % 4]) (c + bits.getD i 0 % 4 + s) (by omega) (by simp; omega) (by omega) hsn.1 (by rw [hsn.2, es]) (by omega) (by omega)
          refine ⟨out, hgo _ out (fun k => rfl) (Ev.bind (total_ok ok) (Ev.congr (fun k => ?_) ho)), h2, h3⟩
          rw [wrap_id (x := c + bits.getD i 0 % 4) (by omega) (by omega), wrap_id (x := c + bits.getD i 0 % 4 + s) (by omega) (by omega), if_neg hout, if_pos (by omega), wrap_succ _ (by omega)]
      · refine ⟨cs, Ev.step (f := fun k => luciferlaw01_drawn.j1 k bits cs c (i : Int) false xs s ks) (fun k => ?_) (Ev.step (fun k => by simp only [luciferlaw01_drawn.j1]; rw [if_neg (by simp)]) (Ev.now _)), hc, by omega⟩
        simp only [luciferlaw01_drawn.l0]
        by_cases h2 : (i : Int) < (bits.length : Int)
        · rw [if_pos h2, decide_eq_false (by omega)]
        · rw [if_neg h2]
  exact loop 72 0 [] 0 (by omega) rfl (by omega) rfl rfl (by omega) (by omega)
theorem drop_cons {cs : List Int} {i : Nat} (h : i < cs.length) : cs.drop i = cs.getD i 0 :: cs.drop (i + 1) := by
  rw [List.drop_eq_getElem_cons h]
  simp [List.getD_eq_getElem?_getD, h]
/-- A cutting is one, as the law looks at it. -/
theorem cutting_ev {xs : List Int} {s : Int} {ks : List SK} (hf : few xs ks) (ok : (plOf xs s ks).Ok) {cs : List Int} (hn : fewI cs) (hc : (plOf xs s ks).isCut 0 cs = true) : Ev (fun k => luciferlaw01_cutting.f k xs s ks cs) true := by
  have hn' : cs.length ≤ 4611686018427387904 := hn
  have hb := Peel.all_bd ok
  have h1 : 1 ≤ s := ok.size1
  have h6 : s ≤ 6 := ok.size6
  have es : (plOf xs s ks).size = s := rfl
  have loop : ∀ (d i : Nat) (b : Int), i ≤ cs.length → cs.length - i = d → 0 ≤ b → b ≤ 100 → (plOf xs s ks).isCut b (cs.drop i) = true → Ev (fun k => luciferlaw01_cutting.l0 k cs true 0 b (i : Int) xs s ks) true := by
    intro d
    induction d with
    | zero =>
      intro i b hi hd h0 h1 _
      obtain rfl : i = cs.length := by omega
      refine Ev.step (fun k => ?_) (Ev.now _)
      simp only [luciferlaw01_cutting.l0]
      rw [if_neg (by omega)]
      rfl
    | succ d ih =>
      intro i b hi hd h0 h1 hcut
      have hlt : i < cs.length := by omega
      rw [drop_cons hlt] at hcut
      obtain ⟨a1, a2, a3⟩ := Peel.isCut_cons _ _ _ _ hcut
      rw [es] at a2 a3
      refine Ev.step (f := fun k => (luciferref00_Total.f k xs).bind fun t397 => ((luciferref00_Fits.f (cs.getD i 0) b (wrap64 (t397 - s))).bind fun t398 => (if t398 = true then (luciferlaw01_cutting.l0 k cs true 0 (wrap64 ((cs.getD i 0) + s)) (wrap64 ((i : Int) + 1)) xs s ks) else (some false)))) (fun k => ?_) (Ev.bind (total_ok ok) (Ev.congr (fun k => ?_) (ih (i + 1) (cs.getD i 0 + s) (by omega) (by omega) (by omega) (by omega) a3)))
      · simp only [luciferlaw01_cutting.l0]
        rw [if_pos (by omega), if_pos (by omega), rd_nat]
      · rw [wrap_id (x := (plOf xs s ks).all - s) (by omega) (by omega), fits_ev, decide_eq_true (⟨a1, a2⟩ : b ≤ cs.getD i 0 ∧ cs.getD i 0 ≤ (plOf xs s ks).all - s), Option.bind_some, if_pos rfl, wrap_id (by omega) (by omega), wrap_succ _ (by omega)]
  have g : peel_IsCut.f xs s ks cs = some (true, 0) := by unfold peel_IsCut.f Peel.isCutS; rw [if_pos ⟨hf, hn⟩, if_pos ok, hc]
  refine Ev.congr (f := fun k => luciferlaw01_cutting.l0 k cs true 0 0 ((0 : Nat) : Int) xs s ks) (fun k => by unfold luciferlaw01_cutting.f; rw [g]; rfl) (loop cs.length 0 0 (by omega) (by omega) (by omega) (by omega) (by rw [List.drop_zero]; exact hc))
end Go.Proofs.YtigofgdmefobaaaDoor.PP
