/- The reference of package peel in plain numbers: sums, columns, what is checked. -/
import Derived.Test.YtigofgdmefobaaaDoorPPxf18
import Derived.Test.YtigofgdmefobaaaDoorPPxf64
import Derived.Test.YtigofgdmefobaaaDoorGiven
set_option linter.unusedVariables false
set_option linter.unusedSimpArgs false
namespace Go.Proofs.YtigofgdmefobaaaDoor.PP
open Go.RowKit Go.Proofs.YtigofgdmefobaaaDoorW.PrintWords Go.Proofs.YtigofgdmefobaaaDoorW.PrintLast Go.Proofs.YtigofgdmefobaaaDoorW.PrintMore
open Peel (PL Kn Sp sumTo)
theorem wrap_id {x : Int} (h1 : -9223372036854775808 ≤ x) (h2 : x ≤ 9223372036854775807) : wrap64 x = x := by unfold wrap64; omega
theorem rd_nat (xs : List Int) (i : Nat) : rd xs (i : Int) = xs.getD i 0 := by
  unfold rd
  simp
theorem wrap_succ (i : Nat) (h : i ≤ 4611686018427387904) : wrap64 ((i : Int) + 1) = ((i + 1 : Nat) : Int) := by
  rw [wrap_id (by omega) (by omega)]; omega
theorem total_sum (xs : List Int) (hl : xs.length ≤ 4611686018427387904) (hb : ∀ k, k ≤ xs.length → -1000000 ≤ sumTo xs k ∧ sumTo xs k ≤ 1000000) : ∀ (d i : Nat), i ≤ xs.length → xs.length - i = d → Ev (fun k => luciferref00_Total.l0 k xs (sumTo xs i) (i : Int)) xs.sum := by
  intro d
  induction d with
  | zero =>
    intro i hi hd
    obtain rfl : i = xs.length := by omega
    refine Ev.step (fun k => ?_) (Ev.now _)
    simp only [luciferref00_Total.l0]
    rw [if_neg (by omega), Peel.sumTo_all]
  | succ d ih =>
    intro i hi hd
    refine Ev.step (fun k => ?_) (ih (i + 1) (by omega) (by omega))
    have h1 := hb i (by omega)
    have h2 := hb (i + 1) (by omega)
    rw [Peel.sumTo_succ _ _ (by omega)] at h2
    simp only [luciferref00_Total.l0]
    rw [if_pos (by omega), if_pos (by omega), rd_nat, wrap_id (by omega) (by omega), wrap_succ _ (by omega), Peel.sumTo_succ _ _ (by omega)]
theorem total_ev (xs : List Int) (hl : xs.length ≤ 4611686018427387904) (hb : ∀ k, k ≤ xs.length → -1000000 ≤ sumTo xs k ∧ sumTo xs k ≤ 1000000) : Ev (fun k => luciferref00_Total.f k xs) xs.sum := by
  have h := total_sum xs hl hb xs.length 0 (by omega) (by omega)
  rw [Peel.sumTo_zero] at h
  exact h
theorem total_some (xs : List Int) (hl : xs.length ≤ 4611686018427387904) : ∀ (d i : Nat) (acc : Int), i ≤ xs.length → xs.length - i = d → ∃ t, Ev (fun k => luciferref00_Total.l0 k xs acc (i : Int)) t := by
  intro d
  induction d with
  | zero =>
    intro i acc hi hd
    obtain rfl : i = xs.length := by omega
    refine ⟨acc, Ev.step (fun k => ?_) (Ev.now _)⟩
    simp only [luciferref00_Total.l0]
    rw [if_neg (by omega)]
  | succ d ih =>
    intro i acc hi hd
    obtain ⟨t, ht⟩ := ih (i + 1) (wrap64 (acc + xs.getD i 0)) (by omega) (by omega)
    refine ⟨t, Ev.step (fun k => ?_) ht⟩
    simp only [luciferref00_Total.l0]
    rw [if_pos (by omega), if_pos (by omega), rd_nat, wrap_succ _ (by omega)]
theorem total_any_ev (xs : List Int) (hl : xs.length ≤ 4611686018427387904) : ∃ t, Ev (fun k => luciferref00_Total.f k xs) t := total_some xs hl xs.length 0 0 (by omega) (by omega)
theorem total_ok {xs : List Int} {s : Int} {ks : List SK} (ok : (plOf xs s ks).Ok) : Ev (fun k => luciferref00_Total.f k xs) (plOf xs s ks).all := by
  refine total_ev xs ?_ fun k hk => ?_
  · have := ok.turns; have e : (plOf xs s ks).long = xs := rfl; rw [e] at this; omega
  · have := Peel.sumTo_bd ok k hk
    have e : (plOf xs s ks).long = xs := rfl
    rw [e] at this
    omega
theorem fits_ev (n x y : Int) : luciferref00_Fits.f n x y = some (decide (x ≤ n ∧ n ≤ y)) := by
  unfold luciferref00_Fits.f
  by_cases h : x ≤ n
  · rw [if_pos h]; simp [h]
  · rw [if_neg h]; simp [h]
theorem right_ev (a b x y : Int) : luciferref00_Right.f a b x y = some (decide (x ≤ a ∧ a ≤ b ∧ b ≤ y)) := by
  unfold luciferref00_Right.f
  by_cases h : x ≤ a
  · rw [if_pos h]
    by_cases h2 : a ≤ b
    · rw [if_pos h2]; simp [h, h2]
    · rw [if_neg h2]; simp [h2]
  · rw [if_neg h]; simp [h]
/-- Knots in order. -/
def knotAt (ks : List SK) (j : Nat) : SK := rd_T61 ks (j : Int)
theorem knotAt_get {ks : List SK} {j : Nat} (h : j < ks.length) : ks[j]? = some (knotAt ks j) := by
  unfold knotAt rd_T61
  simp [List.getD_eq_getElem?_getD, h]
theorem knots_get {xs : List Int} {s : Int} {ks : List SK} {j : Nat} (h : j < ks.length) : (plOf xs s ks).knots[j]? = some (knOf (knotAt ks j)) := by
  show (ks.map knOf)[j]? = _
  rw [List.getElem?_map, knotAt_get h]
  rfl
theorem check_l1 (xs : List Int) (s : Int) (ks : List SK) (hf : few xs ks) : ∀ (d i : Nat) (b : Bool) (r : Int), i ≤ ks.length → ks.length - i = d →
    ((b = true ∧ ∀ j, i ≤ j → j < ks.length → (knOf (knotAt ks j)).Ok xs.length) → r = 0) → (¬ (b = true ∧ ∀ j, i ≤ j → j < ks.length → (knOf (knotAt ks j)).Ok xs.length) → r = 10) →
    Ev (fun k => luciferref01_Check.l1 k b (i : Int) xs s ks) r := by
  have hl := hf.1
  have hk := hf.2
  intro d
  induction d with
  | zero =>
    intro i b r hi hd h0 h1
    obtain rfl : i = ks.length := by omega
    refine Ev.step (f := fun k => luciferref01_Check.j4 k b (ks.length : Int) false xs s ks) (fun k => ?_) (Ev.step (fun k => ?_) (Ev.now _))
    · simp only [luciferref01_Check.l1]
      cases b <;> simp
    · simp only [luciferref01_Check.j4]
      cases b with
      | true => rw [h0 ⟨rfl, fun j a b => by omega⟩]; simp
      | false => rw [h1 (by simp)]; simp
  | succ d ih =>
    intro i b r hi hd h0 h1
    cases b with
    | false =>
      refine Ev.step (f := fun k => luciferref01_Check.j4 k false (i : Int) false xs s ks) (fun k => ?_) (Ev.step (fun k => ?_) (Ev.now _))
      · simp only [luciferref01_Check.l1]; simp
      · simp only [luciferref01_Check.j4]; rw [h1 (by simp)]; simp
    | true =>
      refine Ev.step (f := fun k => luciferref01_Check.j4 k true (i : Int) true xs s ks) (fun k => ?_) ?_
      · simp only [luciferref01_Check.l1]
        have : (i : Int) < (ks.length : Int) := by omega
        simp [this]
      have key : ∀ (b' : Bool), (b' = true ↔ (knOf (knotAt ks i)).Ok xs.length) → Ev (fun k => luciferref01_Check.l1 k b' (wrap64 ((i : Int) + 1)) xs s ks) r := by
        intro b' hb'
        rw [wrap_succ _ (by omega)]
        refine ih (i + 1) b' r (by omega) (by omega) ?_ ?_
        · rintro ⟨e, h⟩
          refine h0 ⟨rfl, fun j h2 h3 => ?_⟩
          rcases Nat.lt_or_ge i j with h4 | h4
          · exact h j (by omega) h3
          · obtain rfl : j = i := by omega
            exact hb'.1 e
        · intro hn
          refine h1 fun h => hn ⟨hb'.2 (h.2 i (Nat.le_refl _) (by omega)), fun j h2 h3 => h.2 j (by omega) h3⟩
      have e : rd_T61 ks (i : Int) = knotAt ks i := rfl
      have hno : ¬ (knOf (knotAt ks i)).Ok xs.length → Ev (fun k => luciferref01_Check.l1 k false (wrap64 ((i : Int) + 1)) xs s ks) r := fun h => key false (by simp [h])
      by_cases g1 : 0 ≤ (knotAt ks i).f0.f0 ∧ (knotAt ks i).f0.f0 ≤ (knotAt ks i).f0.f1 ∧ (knotAt ks i).f0.f1 ≤ 23
      · by_cases g2 : (knotAt ks i).f0.f1 - (knotAt ks i).f0.f0 ≤ 3
        · by_cases g3 : 0 ≤ (knotAt ks i).f1.f0 ∧ (knotAt ks i).f1.f0 ≤ (knotAt ks i).f1.f1 ∧ (knotAt ks i).f1.f1 ≤ xs.length
          · refine Ev.step (fun k => ?_) (key (decide ((knotAt ks i).f1.f1 - (knotAt ks i).f1.f0 ≤ 1)) ?_)
            · simp only [luciferref01_Check.j4]
              rw [if_pos trivial, if_pos (by omega), if_pos (by omega), e, right_ev, right_ev, decide_eq_true g1, decide_eq_true g3, wrap_id (x := (knotAt ks i).f0.f1 - (knotAt ks i).f0.f0) (by omega) (by omega), wrap_id (x := (knotAt ks i).f1.f1 - (knotAt ks i).f1.f0) (by omega) (by omega)]
              simp only [Option.bind_some, if_true]
              rw [if_pos g2]
            · rw [decide_eq_true_iff]
              exact ⟨fun h => ⟨⟨g1.1, g1.2.1, g1.2.2, g2⟩, ⟨g3.1, g3.2.1, g3.2.2, h⟩⟩, fun h => h.f.close⟩
          · refine Ev.step (fun k => ?_) (hno fun h => g3 ⟨h.f.low, h.f.ends, h.f.high⟩)
            simp only [luciferref01_Check.j4]
            rw [if_pos trivial, if_pos (by omega), if_pos (by omega), e, right_ev, right_ev, decide_eq_true g1, decide_eq_false g3, wrap_id (x := (knotAt ks i).f0.f1 - (knotAt ks i).f0.f0) (by omega) (by omega)]
            simp only [Option.bind_some, if_true]
            rw [if_pos g2]
            simp
        · refine Ev.step (fun k => ?_) (hno fun h => g2 h.a.close)
          simp only [luciferref01_Check.j4]
          rw [if_pos trivial, if_pos (by omega), if_pos (by omega), e, right_ev, decide_eq_true g1, wrap_id (x := (knotAt ks i).f0.f1 - (knotAt ks i).f0.f0) (by omega) (by omega)]
          simp only [Option.bind_some, if_true]
          rw [if_neg g2]
      · refine Ev.step (fun k => ?_) (hno fun h => g1 ⟨h.a.low, h.a.ends, h.a.high⟩)
        simp only [luciferref01_Check.j4]
        rw [if_pos trivial, if_pos (by omega), if_pos (by omega), e, right_ev, decide_eq_false g1]
        simp
def longOk (xs : List Int) (j : Nat) : Prop := (1 ≤ xs.getD j 0 ∧ xs.getD j 0 ≤ 12) ∧ (j = 0 ∨ xs.getD j 0 ≤ xs.getD (j - 1) 0)
theorem check_l0 (xs : List Int) (s : Int) (ks : List SK) (hf : few xs ks) (K : Prop) (hK : K ↔ ∀ j, j < ks.length → (knOf (knotAt ks j)).Ok xs.length) : ∀ (d i : Nat) (b : Bool) (r : Int), i ≤ xs.length → xs.length - i = d →
    ((b = true ∧ (∀ j, i ≤ j → j < xs.length → longOk xs j) ∧ K) → r = 0) → (¬ (b = true ∧ (∀ j, i ≤ j → j < xs.length → longOk xs j) ∧ K) → r = 10) →
    Ev (fun k => luciferref01_Check.l0 k b (i : Int) xs s ks) r := by
  have hl := hf.1
  have hk := hf.2
  have fin : ∀ (b : Bool) (r : Int), ((b = true ∧ K) → r = 0) → (¬ (b = true ∧ K) → r = 10) → Ev (fun k => luciferref01_Check.j2 k b xs s ks) r := by
    intro b r h0 h1
    refine Ev.step (f := fun k => luciferref01_Check.l1 k b ((0 : Nat) : Int) xs s ks) (fun k => ?_) (check_l1 xs s ks hf ks.length 0 b r (by omega) (by omega) (fun h => h0 ⟨h.1, hK.2 fun j hj => h.2 j (by omega) hj⟩) (fun h => h1 fun h2 => h ⟨h2.1, fun j _ hj => hK.1 h2.2 j hj⟩))
    simp only [luciferref01_Check.j2]; rfl
  intro d
  induction d with
  | zero =>
    intro i b r hi hd h0 h1
    obtain rfl : i = xs.length := by omega
    refine Ev.step (fun k => ?_) (fin b r (fun h => h0 ⟨h.1, fun j a b => by omega, h.2⟩) (fun h => h1 fun h2 => h ⟨h2.1, h2.2.2⟩))
    simp only [luciferref01_Check.l0]
    cases b <;> simp
  | succ d ih =>
    intro i b r hi hd h0 h1
    cases b with
    | false =>
      refine Ev.step (fun k => ?_) (fin false r (by simp) (fun _ => h1 (by simp)))
      simp only [luciferref01_Check.l0]; simp
    | true =>
      have key : ∀ (b' : Bool), (b' = true ↔ longOk xs i) → Ev (fun k => luciferref01_Check.l0 k b' (wrap64 ((i : Int) + 1)) xs s ks) r := by
        intro b' hb'
        rw [wrap_succ _ (by omega)]
        refine ih (i + 1) b' r (by omega) (by omega) ?_ ?_
        · rintro ⟨e, h, h5⟩
          refine h0 ⟨rfl, fun j h2 h3 => ?_, h5⟩
          rcases Nat.lt_or_ge i j with h4 | h4
          · exact h j (by omega) h3
          · obtain rfl : j = i := by omega
            exact hb'.1 e
        · intro hn
          refine h1 fun h => hn ⟨hb'.2 (h.2.1 i (Nat.le_refl _) (by omega)), fun j h2 h3 => h.2.1 j (by omega) h3, h.2.2⟩
      have hlt : (i : Int) < (xs.length : Int) := by omega
      by_cases g1 : 1 ≤ xs.getD i 0 ∧ xs.getD i 0 ≤ 12
      · by_cases g2 : i = 0
        · refine Ev.step (fun k => ?_) (key true (by simp [longOk, g2]; rw [g2] at g1; simpa using g1))
          simp only [luciferref01_Check.l0]
          rw [if_pos trivial, if_pos hlt, if_pos (by omega), rd_nat, fits_ev, decide_eq_true g1]
          simp only [Option.bind_some, if_true]
          rw [if_pos (by omega)]
        · refine Ev.step (fun k => ?_) (key (decide (xs.getD i 0 ≤ xs.getD (i - 1) 0)) (by simp only [decide_eq_true_iff, longOk]; exact ⟨fun h => ⟨g1, .inr h⟩, fun h => h.2.resolve_left g2⟩))
          have ew : wrap64 ((i : Int) - 1) = ((i - 1 : Nat) : Int) := by rw [wrap_id (by omega) (by omega)]; omega
          simp only [luciferref01_Check.l0]
          rw [if_pos trivial, if_pos hlt, if_pos (by omega), rd_nat, fits_ev, decide_eq_true g1]
          simp only [Option.bind_some, if_true]
          rw [if_neg (by omega), ew, if_pos (by omega), if_pos (by omega), rd_nat]
      · refine Ev.step (fun k => ?_) (key false ⟨fun h => (by cases h), fun h => absurd h.1 g1⟩)
        simp only [luciferref01_Check.l0]
        rw [if_pos trivial, if_pos hlt, if_pos (by omega), rd_nat, fits_ev, decide_eq_false g1]
        simp
theorem ok_iff (xs : List Int) (s : Int) (ks : List SK) : (plOf xs s ks).Ok ↔ ((1 ≤ xs.length ∧ xs.length ≤ 6) ∧ (1 ≤ s ∧ s ≤ 6) ∧ ks.length ≤ 3) ∧ (∀ j, j < xs.length → longOk xs j) ∧ ∀ j, j < ks.length → (knOf (knotAt ks j)).Ok xs.length := by
  have ek : (plOf xs s ks).knots.length = ks.length := List.length_map ..
  constructor
  · intro h
    refine ⟨⟨⟨h.turns1, h.turns⟩, ⟨h.size1, h.size6⟩, ek ▸ h.knots3⟩, fun j hj => ⟨h.long j hj, ?_⟩, fun j hj => h.knots _ (List.mem_of_getElem? (knots_get hj))⟩
    rcases Nat.eq_zero_or_pos j with e | e
    · exact .inl e
    · exact .inr (h.down j e hj)
  · rintro ⟨⟨⟨a1, a2⟩, ⟨a3, a4⟩, a5⟩, h1, h2⟩
    refine ⟨a1, a2, a3, a4, by rw [ek]; exact a5, fun j hj => (h1 j hj).1, fun j h0 hj => (h1 j hj).2.resolve_left (by omega), fun x hx => ?_⟩
    obtain ⟨j, hj⟩ := List.getElem?_of_mem hx
    have hlt : j < ks.length := by have := (List.getElem?_eq_some_iff.1 hj).1; omega
    rw [knots_get hlt] at hj
    cases hj
    exact h2 j hlt
theorem check_ev (xs : List Int) (s : Int) (ks : List SK) (hf : few xs ks) : Ev (fun k => luciferref01_Check.f k xs s ks) (if (plOf xs s ks).Ok then 0 else 10) := by
  have hfin : ∀ b : Bool, (b = true ↔ (1 ≤ xs.length ∧ xs.length ≤ 6) ∧ (1 ≤ s ∧ s ≤ 6) ∧ ks.length ≤ 3) → Ev (fun k => luciferref01_Check.j0 k b xs s ks) (if (plOf xs s ks).Ok then 0 else 10) := by
    intro b hb
    refine Ev.step (f := fun k => luciferref01_Check.l0 k b ((0 : Nat) : Int) xs s ks) (fun k => by simp only [luciferref01_Check.j0]; rfl) (check_l0 xs s ks hf _ Iff.rfl xs.length 0 b _ (by omega) (by omega) ?_ ?_)
    · rintro ⟨h1, h2, h3⟩
      rw [if_pos ((ok_iff xs s ks).2 ⟨hb.1 h1, fun j hj => h2 j (by omega) hj, h3⟩)]
    · intro h
      rw [if_neg fun ok => ?_]
      obtain ⟨h1, h2, h3⟩ := (ok_iff xs s ks).1 ok
      exact h ⟨hb.2 h1, fun j _ hj => h2 j hj, h3⟩
  by_cases g1 : (1 : Int) ≤ (xs.length : Int) ∧ (xs.length : Int) ≤ 6
  · by_cases g2 : 1 ≤ s ∧ s ≤ 6
    · refine Ev.congr (fun k => ?_) (hfin (decide ((ks.length : Int) ≤ 3)) (by rw [decide_eq_true_iff]; omega))
      unfold luciferref01_Check.f
      rw [fits_ev, fits_ev, decide_eq_true g1, decide_eq_true g2]
      simp
    · refine Ev.congr (fun k => ?_) (hfin false (by simp; omega))
      unfold luciferref01_Check.f
      rw [fits_ev, fits_ev, decide_eq_true g1, decide_eq_false g2]
      simp
  · refine Ev.congr (fun k => ?_) (hfin false (by simp; omega))
    unfold luciferref01_Check.f
    rw [fits_ev, decide_eq_false g1]
    simp
theorem take_sum {xs : List Int} {s : Int} {ks : List SK} (ok : (plOf xs s ks).Ok) {t : Nat} (ht : t ≤ xs.length) : Ev (fun k => luciferref00_Total.f k (xs.take t)) (sumTo xs t) := by
  have e : (plOf xs s ks).long = xs := rfl
  have h6 := ok.turns
  rw [e] at h6
  refine total_ev _ (by simp; omega) fun k hk => ?_
  have hk' : k ≤ t := by simp at hk; omega
  have := Peel.sumTo_bd ok k (by rw [e]; omega)
  rw [e] at this
  have e2 : sumTo (xs.take t) k = sumTo xs k := by unfold sumTo; rw [List.take_take, Nat.min_eq_left hk']
  rw [e2]
  omega
theorem column_ev {xs : List Int} {s : Int} {ks : List SK} (ok : (plOf xs s ks).Ok) {t : Nat} (ht : t < xs.length) {a : Int} (h0 : 0 ≤ a) (h1 : a ≤ 23) : Ev (fun k => luciferref01_column.f k xs s ks (t : Int) a) ((plOf xs s ks).col t a) := by
  have e : (plOf xs s ks).long = xs := rfl
  have hb := ok.long t ht
  rw [e] at hb
  have hc := Peel.sumTo_bd ok t (by rw [e]; omega)
  rw [e] at hc
  have hm0 : 0 ≤ a * xs.getD t 0 := Int.mul_nonneg h0 (by omega)
  have hm1 : a * xs.getD t 0 ≤ 23 * xs.getD t 0 := Int.mul_le_mul_of_nonneg_right h1 (by omega)
  refine Ev.congr (f := fun k => (luciferref00_Total.f k (xs.take t)).bind fun t119 => some (wrap64 (t119 + (wrap64 (Int.tdiv (wrap64 (a * (xs.getD t 0))) 24))))) (fun k => ?_) (Ev.bind (take_sum ok (Nat.le_of_lt ht)) ?_)
  · unfold luciferref01_column.f
    have hlt : (t : Int) < (xs.length : Int) := by omega
    rw [if_pos (by omega), if_pos (by omega)]
    simp only [if_pos hlt, rd_nat, Int.toNat_natCast]
  · have ev : (plOf xs s ks).col t a = wrap64 (sumTo xs t + (wrap64 (Int.tdiv (wrap64 (a * (xs.getD t 0))) 24))) := by
      unfold PL.col
      rw [e, wrap_id (x := a * xs.getD t 0) (by omega) (by omega), Int.tdiv_eq_ediv_of_nonneg hm0, wrap_id (x := a * xs.getD t 0 / 24) (by omega) (by omega), wrap_id (by omega) (by omega)]
    rw [ev]
    exact Ev.now _
end Go.Proofs.YtigofgdmefobaaaDoor.PP
