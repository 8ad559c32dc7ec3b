/- The reference of package peel in plain numbers: pieces, cuttings, equal lists. -/
import Derived.Test.YtigofgdmefobaaaDoorPPxf94
import Derived.Test.YtigofgdmefobaaaDoorPPxf75
import Derived.Test.YtigofgdmefobaaaDoorPPxf69
import Derived.Test.YtigofgdmefobaaaDoorPPxf80
import Derived.Test.YtigofgdmefobaaaDoorPPxf32
import Derived.Test.YtigofgdmefobaaaDoorPureC
set_option linter.unusedVariables false
set_option linter.unusedSimpArgs false
namespace Go.Proofs.YtigofgdmefobaaaDoor.PP
open Go.RowKit Go.Proofs.YtigofgdmefobaaaDoorW.PrintWords Go.Proofs.YtigofgdmefobaaaDoorW.PrintLast Go.Proofs.YtigofgdmefobaaaDoorW.PrintMore
open Peel (PL Kn Sp sumTo)
theorem whole_ev {xs : List Int} {s : Int} {ks : List SK} (ok : (plOf xs s ks).Ok) {kn : List Bool} (hl : (kn.length : Int) = (plOf xs s ks).all) {c : Nat} (hc : (c : Int) + s ≤ (plOf xs s ks).all) :
    Ev (fun k => luciferref01_whole.f k xs s ks kn (c : Int)) ((plOf xs s ks).free (asF kn) c) := by
  have hb := Peel.all_bd ok
  have h1 : 1 ≤ s := ok.size1
  have h6 : s ≤ 6 := ok.size6
  have ew : wrap64 ((c : Int) + s) = (c : Int) + s := wrap_id (by omega) (by omega)
  have loop : ∀ (d m : Nat) (b : Bool), (m : Int) + d = s → (b = true ↔ ∀ j, m ≤ j → (j : Int) < s → asF kn (c + j) = false) → Ev (fun k => luciferref01_whole.l0 k kn (c : Int) ((c + m : Nat) : Int) xs s ks) b := by
    intro d
    induction d with
    | zero =>
      intro m b hm hbb
      have : b = true := hbb.2 fun j h1 h2 => by omega
      subst this
      refine Ev.step (fun k => ?_) (Ev.now _)
      simp only [luciferref01_whole.l0]
      rw [ew, if_neg (by omega)]
    | succ d ih =>
      intro m b hm hbb
      cases ha : asF kn (c + m) with
      | true =>
        have : b = false := by
          cases b with
          | false => rfl
          | true =>
            have := hbb.1 rfl m (Nat.le_refl _) (by omega)
            rw [ha] at this
            cases this
        subst this
        refine Ev.step (fun k => ?_) (Ev.now _)
        simp only [luciferref01_whole.l0]
        rw [ew, if_pos (by omega), if_pos (by omega), if_pos (by omega), rdOf_nat, ha, if_pos rfl]
      | false =>
        refine Ev.step (fun k => ?_) (ih (m + 1) b (by omega) (hbb.trans ⟨fun h j h1 h2 => h j (by omega) h2, fun h j h1 h2 => ?_⟩))
        · simp only [luciferref01_whole.l0]
          rw [ew, if_pos (by omega), if_pos (by omega), if_pos (by omega), rdOf_nat, ha, if_neg (by simp), wrap_succ _ (by omega)]
          rfl
        · rcases Nat.lt_or_ge m j with h | h'
          · exact (by rename_i hh; exact hh j h h2)
          · obtain rfl : j = m := by omega
            exact ha
  refine loop s.toNat 0 _ (by omega) ?_
  rw [Peel.free_iff]
  have es : (plOf xs s ks).size = s := rfl
  rw [es]
  exact ⟨fun h j _ h2 => h j (by omega), fun h j h2 => h j (by omega) (by omega)⟩
theorem drop_at {cs : List Int} {i : Nat} (h : i < cs.length) : cs.drop i = cs.getD i 0 :: cs.drop (i + 1) := by
  rw [List.drop_eq_getElem_cons h]
  simp [List.getD_eq_getElem?_getD, h]
theorem count_ev {xs : List Int} {s : Int} {ks : List SK} (ok : (plOf xs s ks).Ok) {kn : List Bool} (hl : (kn.length : Int) = (plOf xs s ks).all) {cs : List Int} (hn : fewI cs) (hc : ∀ i, i < cs.length → 0 ≤ cs.getD i 0 ∧ cs.getD i 0 + s ≤ (plOf xs s ks).all) :
    Ev (fun k => luciferref01_count.f k xs s ks kn cs) ((plOf xs s ks).count (asF kn) cs) := by
  have hn' : cs.length ≤ 4611686018427387904 := hn
  have loop : ∀ (d i : Nat) (n : Int), i ≤ cs.length → cs.length - i = d → 0 ≤ n → n ≤ i → Ev (fun k => luciferref01_count.l0 k kn cs n (i : Int) xs s ks) (n + (plOf xs s ks).count (asF kn) (cs.drop i)) := by
    intro d
    induction d with
    | zero =>
      intro i n hi hd h0 h1
      obtain rfl : i = cs.length := by omega
      refine Ev.step (fun k => ?_) (Ev.now _)
      simp only [luciferref01_count.l0]
      rw [if_neg (by omega), List.drop_length]
      simp [PL.count]
    | succ d ih =>
      intro i n hi hd h0 h1
      have hlt : i < cs.length := by omega
      obtain ⟨a1, a2⟩ := hc i hlt
      obtain ⟨c, hcc⟩ : ∃ c : Nat, cs.getD i 0 = c := ⟨(cs.getD i 0).toNat, by omega⟩
      have hw := whole_ev ok hl (c := c) (by omega)
      refine Ev.step (f := fun k => (luciferref01_whole.f k xs s ks kn (c : Int)).bind fun t189 => (if t189 = true then (luciferref01_count.l0 k kn cs (wrap64 (n + 1)) (wrap64 ((i : Int) + 1)) xs s ks) else (luciferref01_count.l0 k kn cs n (wrap64 ((i : Int) + 1)) xs s ks))) (fun k => ?_) (Ev.bind hw ?_)
      · simp only [luciferref01_count.l0]
        rw [if_pos (by omega), if_pos (by omega), rd_nat, hcc]
      · rw [drop_at hlt, Peel.count_cons, hcc]
        cases hf : (plOf xs s ks).free (asF kn) c with
        | true =>
          refine Ev.congr (fun k => ?_) (by have := ih (i + 1) (n + 1) (by omega) (by omega) (by omega) (by omega); rw [Int.add_assoc] at this; simpa [hf] using this)
          rw [if_pos rfl, wrap_id (by omega) (by omega), wrap_succ _ (by omega)]
          rfl
        | false =>
          refine Ev.congr (fun k => ?_) (by have := ih (i + 1) n (by omega) (by omega) (by omega) (by omega); simpa [hf] using this)
          rw [if_neg (by simp), wrap_succ _ (by omega)]
          rfl
  have := loop cs.length 0 0 (by omega) (by omega) (by omega) (by omega)
  rw [Int.zero_add, List.drop_zero] at this
  exact this
theorem isCut_bd (l : PL) (h1 : 0 ≤ l.size) : ∀ (cs : List Int) (b : Int), 0 ≤ b → l.isCut b cs = true → ∀ i, i < cs.length → 0 ≤ cs.getD i 0 ∧ cs.getD i 0 + l.size ≤ l.all := by
  intro cs
  induction cs with
  | nil => intro b _ _ i hi; simp at hi
  | cons c cs ih =>
    intro b hb h i hi
    obtain ⟨a1, a2, a3⟩ := Peel.isCut_cons l b c cs h
    cases i with
    | zero => simp; omega
    | succ i =>
      have := ih (c + l.size) (by omega) a3 i (by simpa using hi)
      simpa using this
theorem isCut_loop {xs : List Int} {s : Int} {ks : List SK} (ok : (plOf xs s ks).Ok) {cs : List Int} (hn : fewI cs) : ∀ (d i : Nat) (b : Int), i ≤ cs.length → cs.length - i = d → 0 ≤ b → b ≤ 100 → Ev (fun k => luciferref01_isCut.l0 k cs b (i : Int) xs s ks) ((plOf xs s ks).isCut b (cs.drop i)) := by
  have hn' : cs.length ≤ 4611686018427387904 := hn
  have hb := Peel.all_bd ok
  have h1 : 1 ≤ s := ok.size1
  have h6 : s ≤ 6 := ok.size6
  have es : (plOf xs s ks).size = s := rfl
  intro d
  induction d with
  | zero =>
    intro i b hi hd h0 h1
    obtain rfl : i = cs.length := by omega
    refine Ev.step (fun k => ?_) (Ev.now _)
    simp only [luciferref01_isCut.l0]
    rw [if_neg (by omega), List.drop_length]
    rfl
  | succ d ih =>
    intro i b hi hd h0 h1
    have hlt : i < cs.length := by omega
    refine Ev.step (f := fun k => (luciferref00_Total.f k xs).bind fun t177 => ((luciferref00_Fits.f (cs.getD i 0) b (wrap64 (t177 - s))).bind fun t178 => (if t178 = true then (luciferref01_isCut.l0 k cs (wrap64 ((cs.getD i 0) + s)) (wrap64 ((i : Int) + 1)) xs s ks) else (some false)))) (fun k => ?_) (Ev.bind (total_ok ok) ?_)
    · simp only [luciferref01_isCut.l0]
      rw [if_pos (by omega), if_pos (by omega), rd_nat]
    · rw [Peel.isCut_at _ _ _ _ hlt, es]
      simp only [fits_ev, Option.bind_some]
      rw [wrap_id (x := (plOf xs s ks).all - s) (by omega) (by omega)]
      by_cases h : b ≤ cs.getD i 0 ∧ cs.getD i 0 ≤ (plOf xs s ks).all - s
      · rw [decide_eq_true h, Bool.true_and]
        refine Ev.congr (fun k => ?_) (ih (i + 1) (cs.getD i 0 + s) (by omega) (by omega) (by omega) (by omega))
        rw [if_pos rfl, wrap_id (by omega) (by omega), wrap_succ _ (by omega)]
      · rw [decide_eq_false h, Bool.false_and]
        refine Ev.congr (fun k => ?_) (Ev.now _)
        rw [if_neg (by simp)]
theorem isCut_ev {xs : List Int} {s : Int} {ks : List SK} (ok : (plOf xs s ks).Ok) {cs : List Int} (hn : fewI cs) : Ev (fun k => luciferref01_isCut.f k xs s ks cs) ((plOf xs s ks).isCut 0 cs) := by
  have := isCut_loop ok hn cs.length 0 0 (by omega) (by omega) (by omega) (by omega)
  rw [List.drop_zero] at this
  exact this
theorem isCut_some {xs : List Int} {s : Int} {ks : List SK} (hf : few xs ks) {cs : List Int} (hn : fewI cs) : ∀ (d i : Nat) (b : Int), i ≤ cs.length → cs.length - i = d → ∃ r, Ev (fun k => luciferref01_isCut.l0 k cs b (i : Int) xs s ks) r := by
  have hn' : cs.length ≤ 4611686018427387904 := hn
  obtain ⟨t, ht⟩ := total_any_ev xs hf.1
  intro d
  induction d with
  | zero =>
    intro i b hi hd
    obtain rfl : i = cs.length := by omega
    refine ⟨true, Ev.step (fun k => ?_) (Ev.now _)⟩
    simp only [luciferref01_isCut.l0]
    rw [if_neg (by omega)]
  | succ d ih =>
    intro i b hi hd
    obtain ⟨r, hr⟩ := ih (i + 1) (wrap64 ((cs.getD i 0) + s)) (by omega) (by omega)
    by_cases h : b ≤ cs.getD i 0 ∧ cs.getD i 0 ≤ wrap64 (t - s)
    · refine ⟨r, Ev.step (f := fun k => (luciferref00_Total.f k xs).bind fun t177 => ((luciferref00_Fits.f (cs.getD i 0) b (wrap64 (t177 - s))).bind fun t178 => (if t178 = true then (luciferref01_isCut.l0 k cs (wrap64 ((cs.getD i 0) + s)) (wrap64 ((i : Int) + 1)) xs s ks) else (some false)))) (fun k => ?_) (Ev.bind ht ?_)⟩
      · simp only [luciferref01_isCut.l0]
        rw [if_pos (by omega), if_pos (by omega), rd_nat]
      · refine Ev.congr (fun k => ?_) hr
        rw [fits_ev, decide_eq_true h, Option.bind_some, if_pos rfl, wrap_succ _ (by omega)]
    · refine ⟨false, Ev.step (f := fun k => (luciferref00_Total.f k xs).bind fun t177 => ((luciferref00_Fits.f (cs.getD i 0) b (wrap64 (t177 - s))).bind fun t178 => (if t178 = true then (luciferref01_isCut.l0 k cs (wrap64 ((cs.getD i 0) + s)) (wrap64 ((i : Int) + 1)) xs s ks) else (some false)))) (fun k => ?_) (Ev.bind ht ?_)⟩
      · simp only [luciferref01_isCut.l0]
        rw [if_pos (by omega), if_pos (by omega), rd_nat]
      · refine Ev.congr (fun k => ?_) (Ev.now _)
        rw [fits_ev, decide_eq_false h, Option.bind_some, if_neg (by simp)]
theorem isCut_any_ev {xs : List Int} {s : Int} {ks : List SK} (hf : few xs ks) {cs : List Int} (hn : fewI cs) : ∃ r, Ev (fun k => luciferref01_isCut.f k xs s ks cs) r := isCut_some hf hn cs.length 0 0 (by omega) (by omega)
/-- Where the window is not free, the greedy cutting goes on one column behind. -/
theorem cutF_next (l : PL) (h1 : 1 ≤ l.size) (ha : l.all ≤ 72) (r : Nat → Bool) (c : Nat) (h : (c : Int) + l.size ≤ l.all) (hn : l.free r c = false) : l.cutF r (73 - c) c = l.cutF r (73 - (c + 1)) (c + 1) := by
  rcases Peel.free_or r c l.size.toNat with hf | ⟨k, hk, hf, hr⟩
  · rw [(Peel.free_iff l r c).2 hf] at hn; cases hn
  · rw [Peel.cutF_knot l h1 ha r c k h (by omega) hf hr]
    rcases Nat.eq_zero_or_pos k with rfl | hp
    · rfl
    · by_cases h2 : ((c + 1 : Nat) : Int) + l.size ≤ l.all
      · rw [Peel.cutF_knot l h1 ha r (c + 1) (k - 1) h2 (by omega) (fun j hj => by have := hf (j + 1) (by omega); rwa [show c + 1 + j = c + (j + 1) by omega]) (by rw [show c + 1 + (k - 1) = c + k by omega]; exact hr), show c + 1 + (k - 1) + 1 = c + k + 1 by omega]
      · rw [Peel.cutF_stop l r _ _ (by omega), Peel.cutF_stop l r _ _ h2]
theorem best_ev {xs : List Int} {s : Int} {ks : List SK} (ok : (plOf xs s ks).Ok) {kn : List Bool} (hl : (kn.length : Int) = (plOf xs s ks).all) : Ev (fun k => luciferref01_best.f k xs s ks kn) ((plOf xs s ks).cut (asF kn)) := by
  have hb := Peel.all_bd ok
  have h1 : 1 ≤ s := ok.size1
  have h6 : s ≤ 6 := ok.size6
  have es : (plOf xs s ks).size = s := rfl
  have loop : ∀ (d c p q : Nat) (out : List Int), (plOf xs s ks).all + 1 - c ≤ d → (out = [] ∧ p = 0 ∨ ∃ pre x, out = pre ++ [x] ∧ x + s = p) → q = max c p ∧ p ≤ 100 → c ≤ 73 → out.length ≤ c →
      Ev (fun k => luciferref01_best.l0 k kn out (c : Int) xs s ks) (out ++ (plOf xs s ks).cutF (asF kn) (73 - q) q) := by
    intro d
    induction d with
    | zero =>
      intro c p q out hd hp ⟨hq, hp100⟩ hc hol
      refine Ev.step (fun k => ?_) (Ev.now _)
      simp only [luciferref01_best.l0]
      rw [wrap_id (by omega) (by omega), if_neg (by omega), Peel.cutF_stop _ _ q _ (by rw [es]; omega), List.append_nil]
    | succ d ih =>
      intro c p q out hd hp ⟨hq, hp100⟩ hc hol
      by_cases hin : (c : Int) + s ≤ (plOf xs s ks).all
      · have hw := whole_ev ok hl (c := c) hin
        have hgo : c ≥ p → Ev (fun k => (luciferref01_whole.f k xs s ks kn (c : Int)).bind fun t244 => (if t244 = true then (if out.length < 17592186044416 then (luciferref01_best.l0 k kn (out ++ [(c : Int)]) (wrap64 ((c : Int) + 1)) xs s ks) else (none)) else (luciferref01_best.l0 k kn out (wrap64 ((c : Int) + 1)) xs s ks))) (out ++ (plOf xs s ks).cutF (asF kn) (73 - q) q) := by
          intro hcp
          obtain rfl : q = c := by omega
          refine Ev.bind hw ?_
          cases hf : (plOf xs s ks).free (asF kn) q with
          | true =>
            rw [Peel.cutF_free _ ok.size1 hb.2 _ q (by rw [es]; exact hin) (fun j hj => (Peel.free_iff _ _ _).1 hf j (by omega)), es]
            have := ih (q + 1) (q + s.toNat) (q + s.toNat) (out ++ [(q : Int)]) (by omega) (.inr ⟨out, q, rfl, by omega⟩) (by omega) (by omega) (by simp; omega)
            refine Ev.congr (fun k => ?_) (by simpa using this)
            rw [if_pos rfl, if_pos (by omega), wrap_succ _ (by omega)]
            rfl
          | false =>
            rw [cutF_next _ ok.size1 hb.2 _ q (by rw [es]; exact hin) hf]
            have := ih (q + 1) p (q + 1) out (by omega) hp (by omega) (by omega) (by omega)
            refine Ev.congr (fun k => ?_) this
            rw [if_neg (by simp), wrap_succ _ (by omega)]
        rcases hp with ⟨rfl, rfl⟩ | ⟨pre, x, rfl, hx⟩
        · refine Ev.step (fun k => ?_) (hgo (Nat.zero_le _))
          simp only [luciferref01_best.l0]
          rw [wrap_id (x := (c : Int) + s) (by omega) (by omega), if_pos (by omega)]
          rfl
        · have hlen : ((pre ++ [x]).length : Int) = (pre.length : Int) + 1 := by simp
          have hrd : rd (pre ++ [x]) (pre.length : Int) = x := by rw [rd_nat]; simp
          have hw1 : wrap64 (((pre ++ [x]).length : Int) - 1) = (pre.length : Int) := by rw [hlen, wrap_id (by simp at hol; omega) (by simp at hol; omega)]; omega
          by_cases hcp : c ≥ p
          · refine Ev.step (fun k => ?_) (hgo hcp)
            simp only [luciferref01_best.l0]
            rw [wrap_id (x := (c : Int) + s) (by omega) (by omega), if_pos (by omega), if_neg (by omega), hw1, if_pos (by omega), if_pos (by omega), hrd, wrap_id (x := x + s) (by omega) (by omega), if_pos (by omega)]
          · have := ih (c + 1) p q (pre ++ [x]) (by omega) (.inr ⟨pre, x, rfl, hx⟩) (by omega) (by omega) (by omega)
            refine Ev.step (fun k => ?_) this
            simp only [luciferref01_best.l0]
            rw [wrap_id (x := (c : Int) + s) (by omega) (by omega), if_pos (by omega), if_neg (by omega), hw1, if_pos (by omega), if_pos (by omega), hrd, wrap_id (x := x + s) (by omega) (by omega), if_neg (by omega), wrap_succ _ (by omega)]
      · refine Ev.step (fun k => ?_) (Ev.now _)
        simp only [luciferref01_best.l0]
        rw [wrap_id (by omega) (by omega), if_neg (by omega), Peel.cutF_stop _ _ q _ (by rw [es]; omega), List.append_nil]
  exact loop 100 0 0 0 [] (by omega) (.inl ⟨rfl, rfl⟩) (by omega) (by omega) (by simp)
theorem alike_l0 (xs ys : List Int) (hl : xs.length = ys.length) (hn : fewI xs) : ∀ (d i : Nat), i ≤ xs.length → xs.length - i = d → Ev (fun k => luciferref00_Alike.l0 k xs ys (i : Int)) (decide (xs.drop i = ys.drop i)) := by
  have hn' : xs.length ≤ 4611686018427387904 := hn
  intro d
  induction d with
  | zero =>
    intro i hi hd
    obtain rfl : i = xs.length := by omega
    refine Ev.step (fun k => ?_) (Ev.now _)
    simp only [luciferref00_Alike.l0]
    rw [if_neg (by omega), List.drop_length, hl, List.drop_length]
    rfl
  | succ d ih =>
    intro i hi hd
    have h1 : i < xs.length := by omega
    rw [drop_at h1, drop_at (show i < ys.length by omega)]
    by_cases he : xs.getD i 0 = ys.getD i 0
    · have e : decide (xs.getD i 0 :: xs.drop (i + 1) = ys.getD i 0 :: ys.drop (i + 1)) = decide (xs.drop (i + 1) = ys.drop (i + 1)) := by
        rw [he]; simp
      rw [e]
      refine Ev.step (fun k => ?_) (ih (i + 1) (by omega) (by omega))
      simp only [luciferref00_Alike.l0]
      rw [if_pos (by omega), if_pos (by omega), if_pos (by omega), rd_nat, rd_nat, if_pos he, wrap_succ _ (by omega)]
    · have e : decide (xs.getD i 0 :: xs.drop (i + 1) = ys.getD i 0 :: ys.drop (i + 1)) = false := decide_eq_false (fun h => he (List.cons.inj h).1)
      rw [e]
      refine Ev.step (fun k => ?_) (Ev.now _)
      simp only [luciferref00_Alike.l0]
      rw [if_pos (by omega), if_pos (by omega), if_pos (by omega), rd_nat, rd_nat, if_neg he]
theorem alike_ev (xs ys : List Int) (hn : fewI xs) : Ev (fun k => luciferref00_Alike.f k xs ys) (decide (xs = ys)) := by
  by_cases hl : xs.length = ys.length
  · have := alike_l0 xs ys hl hn xs.length 0 (by omega) (by omega)
    rw [List.drop_zero, List.drop_zero] at this
    refine Ev.congr (fun k => ?_) this
    unfold luciferref00_Alike.f
    rw [if_pos (by omega)]
    rfl
  · rw [decide_eq_false (fun e => hl (by rw [e]))]
    refine Ev.congr (fun k => ?_) (Ev.now _)
    unfold luciferref00_Alike.f
    rw [if_neg (by omega)]
end Go.Proofs.YtigofgdmefobaaaDoor.PP
