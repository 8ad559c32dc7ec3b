/- The reference of package peel in plain numbers: places, marks, truths, cuttings. -/
import Derived.Test.YtigofgdmefobaaaDoorPPxf83
import Derived.Test.YtigofgdmefobaaaDoorPPxf95
import Derived.Test.YtigofgdmefobaaaDoorPureA
import Derived.Test.YtigofgdmefobaaaDoorG7
set_option linter.unusedVariables false
set_option linter.unusedSimpArgs false
namespace Go.Proofs.YtigofgdmefobaaaDoor.PP
open Go.RowKit Go.Proofs.YtigofgdmefobaaaDoorW.PrintWords Go.Proofs.YtigofgdmefobaaaDoorW.PrintLast Go.Proofs.YtigofgdmefobaaaDoorW.PrintMore
open Peel (PL Kn Sp sumTo)
abbrev SP := S108
/-- Truth values of columns, as a function. -/
def asF (t : List Bool) : Nat → Bool := fun i => t.getD i false
theorem asF_set (t : List Bool) (c : Nat) (hc : c < t.length) (i : Nat) : asF (t.set c true) i = true ↔ asF t i = true ∨ c = i := by
  unfold asF
  by_cases h : c = i
  · subst h
    simp [List.getD_eq_getElem?_getD, hc]
  · simp [List.getD_eq_getElem?_getD, List.getElem?_set_ne h, h]
theorem asF_far (t : List Bool) (i : Nat) (h : t.length ≤ i) : asF t i = false := by
  unfold asF
  simp [List.getD_eq_getElem?_getD, h]
theorem asF_none (n : Nat) : asF (List.replicate n false) = Peel.none72 := by
  funext i
  unfold asF Peel.none72
  by_cases h : i < n <;> simp [List.getD_eq_getElem?_getD, h]
theorem rdOf_nat (t : List Bool) (i : Nat) : rdOf false t (i : Int) = asF t i := by
  unfold rdOf asF
  simp
theorem mark_iff (l : PL) (s : Int × Int) (i : Nat) : l.mark s i = true ↔ ∃ t : Nat, t < l.long.length ∧ s.2 ≤ t ∧ l.col t s.1 = (i : Int) := by
  unfold PL.mark PL.markTo
  simp only [List.any_eq_true, List.mem_range, Bool.and_eq_true, decide_eq_true_eq]
/-- Places in order. -/
def rowP (a f : Int) (d : Nat) : List SP := (List.range d).map fun j => ⟨a, f + (j : Nat)⟩
def placesP (a f : Int) (d e : Nat) : List SP := (List.range d).flatMap fun i => rowP (a + (i : Nat)) f e
theorem rowP_succ (a f : Int) (d : Nat) : rowP a f (d + 1) = ⟨a, f⟩ :: rowP a (f + 1) d := by
  unfold rowP
  rw [List.range_succ_eq_map, List.map_cons, List.map_map]
  congr 1
  · simp
  · apply List.map_congr_left
    intro j _
    simp only [Function.comp, Nat.succ_eq_add_one]
    congr 1
    omega
theorem placesP_succ (a f : Int) (d e : Nat) : placesP a f (d + 1) e = rowP a f e ++ placesP (a + 1) f d e := by
  unfold placesP
  rw [List.range_succ_eq_map, List.flatMap_cons, List.flatMap_map]
  congr 1
  · simp
  · have h : (fun i : Nat => rowP (a + ((i.succ : Nat) : Int)) f e) = fun i : Nat => rowP (a + 1 + (i : Int)) f e := by
      funext i
      rw [show a + ((i.succ : Nat) : Int) = a + 1 + (i : Int) by omega]
    rw [h]
theorem rowP_len (a f : Int) (d : Nat) : (rowP a f d).length = d := by simp [rowP]
theorem placesP_len (a f : Int) (d e : Nat) : (placesP a f d e).length = d * e := by
  induction d generalizing a with
  | zero => simp [placesP]
  | succ d ih => rw [placesP_succ, List.length_append, rowP_len, ih, Nat.succ_mul]; omega
theorem placesP_mem (a f : Int) (d e : Nat) (p : SP) : p ∈ placesP a f d e ↔ (a ≤ p.f0 ∧ p.f0 < a + d) ∧ (f ≤ p.f1 ∧ p.f1 < f + e) := by
  unfold placesP rowP
  simp only [List.mem_flatMap, List.mem_range, List.mem_map]
  constructor
  · rintro ⟨i, hi, j, hj, rfl⟩
    dsimp only
    omega
  · rintro ⟨⟨h1, h2⟩, h3, h4⟩
    refine ⟨(p.f0 - a).toNat, by omega, (p.f1 - f).toNat, by omega, ?_⟩
    obtain ⟨x, y⟩ := p
    dsimp only at *
    congr 1 <;> omega
theorem places_l1 (alo ahi flo fhi : Int) (hb : -1000 ≤ fhi ∧ fhi ≤ 1000) (a : Int) (r : List SP) : ∀ (d : Nat) (acc : List SP) (f : Int), fhi + 1 - f = d → acc.length + d < 8796093022208 → -1000 ≤ f →
    Ev (fun k => luciferref01_places.l0 k (acc ++ rowP a f d) (wrap64 (a + 1)) alo ahi flo fhi) r → Ev (fun k => luciferref01_places.l1 k acc a f alo ahi flo fhi) r := by
  intro d
  induction d with
  | zero =>
    intro acc f hd hl hf h
    refine Ev.step (fun k => ?_) h
    simp only [luciferref01_places.l1]
    rw [if_neg (by omega)]
    simp [rowP]
  | succ d ih =>
    intro acc f hd hl hf h
    refine Ev.step (fun k => ?_) (ih (acc ++ [⟨a, f⟩]) (f + 1) (by omega) (by simp; omega) (by omega) ?_)
    · simp only [luciferref01_places.l1]
      rw [if_pos (by omega), if_pos (by omega), wrap_id (by omega) (by omega)]
    · rw [rowP_succ] at h
      simpa using h
theorem places_l0 (alo ahi flo fhi : Int) (hb : -1000 ≤ fhi ∧ fhi ≤ 1000) (hf : -1000 ≤ flo) (ha : -1000 ≤ ahi ∧ ahi ≤ 1000) (e : Nat) (he : fhi + 1 - flo = e) : ∀ (d : Nat) (acc : List SP) (a : Int), ahi + 1 - a = d → acc.length + d * e < 8796093022208 → -1000 ≤ a →
    Ev (fun k => luciferref01_places.l0 k acc a alo ahi flo fhi) (acc ++ placesP a flo d e) := by
  intro d
  induction d with
  | zero =>
    intro acc a hd hl h
    refine Ev.step (fun k => ?_) (Ev.now _)
    simp only [luciferref01_places.l0]
    rw [if_neg (by omega)]
    simp [placesP]
  | succ d ih =>
    intro acc a hd hl h
    rw [Nat.succ_mul] at hl
    refine Ev.step (f := fun k => luciferref01_places.l1 k acc a flo alo ahi flo fhi) (fun k => ?_) (places_l1 alo ahi flo fhi hb a _ e acc flo (by omega) (by omega) hf ?_)
    · simp only [luciferref01_places.l0]
      rw [if_pos (by omega)]
    · rw [placesP_succ, ← List.append_assoc, wrap_id (by omega) (by omega)]
      exact ih _ _ (by omega) (by rw [List.length_append, rowP_len]; omega) (by omega)
theorem places_ev (x : SK) {n : Int} (hn : n ≤ 6) (h : (knOf x).Ok n) : ∃ ps, Ev (fun k => luciferref01_places.f k x.f0.f0 x.f0.f1 x.f1.f0 x.f1.f1) ps ∧ ps.length ≤ 8 ∧ ps ≠ [] ∧ ∀ p : SP, p ∈ ps ↔ (p.f0, p.f1) ∈ (knOf x).spots := by
  have a1 : 0 ≤ x.f0.f0 := h.a.low
  have a2 : x.f0.f0 ≤ x.f0.f1 := h.a.ends
  have a3 : x.f0.f1 ≤ 23 := h.a.high
  have a4 : x.f0.f1 - x.f0.f0 ≤ 3 := h.a.close
  have b1 : 0 ≤ x.f1.f0 := h.f.low
  have b2 : x.f1.f0 ≤ x.f1.f1 := h.f.ends
  have b3 : x.f1.f1 ≤ n := h.f.high
  have b4 : x.f1.f1 - x.f1.f0 ≤ 1 := h.f.close
  have hn' : n ≤ 1000 := by omega
  obtain ⟨d, hd⟩ : ∃ d : Nat, x.f0.f1 + 1 - x.f0.f0 = d := ⟨(x.f0.f1 + 1 - x.f0.f0).toNat, by omega⟩
  obtain ⟨e, he⟩ : ∃ e : Nat, x.f1.f1 + 1 - x.f1.f0 = e := ⟨(x.f1.f1 + 1 - x.f1.f0).toNat, by omega⟩
  have hde : d * e ≤ 8 := Nat.le_trans (Nat.mul_le_mul (show d ≤ 4 by omega) (show e ≤ 2 by omega)) (by omega)
  have hde1 : 1 ≤ d * e := Nat.mul_pos (show 0 < d by omega) (show 0 < e by omega)
  refine ⟨placesP x.f0.f0 x.f1.f0 d e, ?_, by rw [placesP_len]; exact hde, fun hh => ?_, fun p => ?_⟩
  · have := places_l0 x.f0.f0 x.f0.f1 x.f1.f0 x.f1.f1 (by omega) (by omega) (by omega) e he d [] x.f0.f0 hd (by simp; omega) (by omega)
    exact this
  · have := placesP_len x.f0.f0 x.f1.f0 d e
    rw [hh] at this
    simp at this
    omega
  · rw [placesP_mem]
    constructor
    · rintro ⟨⟨h1, h2⟩, h3, h4⟩
      have := Peel.spots_in h (p.f0 - x.f0.f0) (p.f1 - x.f1.f0) (by show 0 ≤ _ ∧ _ < x.f0.f1 - x.f0.f0 + 1; omega) (by show 0 ≤ _ ∧ _ < x.f1.f1 - x.f1.f0 + 1; omega)
      have e1 : (knOf x).a.lo + (p.f0 - x.f0.f0) = p.f0 := by show x.f0.f0 + _ = _; omega
      have e2 : (knOf x).f.lo + (p.f1 - x.f1.f0) = p.f1 := by show x.f1.f0 + _ = _; omega
      rw [e1, e2] at this
      exact this
    · intro hs
      obtain ⟨u, v, hu, hv, he'⟩ := Peel.spots_of h hs
      have hu' : 0 ≤ u ∧ u < x.f0.f1 - x.f0.f0 + 1 := hu
      have hv' : 0 ≤ v ∧ v < x.f1.f1 - x.f1.f0 + 1 := hv
      obtain ⟨h1, h2⟩ := Prod.mk.inj he'
      have h1' : p.f0 = x.f0.f0 + u := h1
      have h2' : p.f1 = x.f1.f0 + v := h2
      omega
theorem mark_l0 {xs : List Int} {s : Int} {ks : List SK} (ok : (plOf xs s ks).Ok) {a f : Int} (h0 : 0 ≤ a) (h1 : a ≤ 23) : ∀ (d t : Nat) (kn : List Bool), (kn.length : Int) = (plOf xs s ks).all → xs.length - t = d →
    ∃ out, Ev (fun k => luciferref01_mark.l0 k kn (t : Int) xs s ks a f) out ∧ out.length = kn.length ∧ ∀ i, asF out i = true ↔ asF kn i = true ∨ ∃ t' : Nat, t' < xs.length ∧ t ≤ t' ∧ (plOf xs s ks).col t' a = (i : Int) := by
  have h6 : xs.length ≤ 6 := ok.turns
  intro d
  induction d with
  | zero =>
    intro t kn hl hd
    refine ⟨kn, Ev.step (fun k => ?_) (Ev.now _), rfl, fun i => ⟨.inl, fun h => h.resolve_right ?_⟩⟩
    · simp only [luciferref01_mark.l0]
      rw [if_neg (by omega)]
    · rintro ⟨t', h1, h2, _⟩
      omega
  | succ d ih =>
    intro t kn hl hd
    have hlt : t < xs.length := by omega
    have hc := Peel.col_all ok t a hlt h0 h1
    have hcn : ((plOf xs s ks).col t a).toNat < kn.length := by omega
    obtain ⟨out, he, hlen, hm⟩ := ih (t + 1) (kn.set ((plOf xs s ks).col t a).toNat true) (by simpa using hl) (by omega)
    refine ⟨out, ?_, by simpa using hlen, fun i => ?_⟩
    · refine Ev.step (f := fun k => (luciferref01_column.f k xs s ks (t : Int) a).bind fun t138 => (if 0 ≤ t138 then (if t138 < (kn.length : Int) then (luciferref01_mark.l0 k (kn.set (t138 : Int).toNat true) (wrap64 ((t : Int) + 1)) xs s ks a f) else (none)) else (none))) (fun k => ?_) (Ev.bind (column_ev ok hlt h0 h1) ?_)
      · simp only [luciferref01_mark.l0]
        rw [if_pos (by omega)]
      · refine Ev.congr (fun k => ?_) he
        rw [if_pos hc.1, if_pos (by omega), wrap_succ _ (by omega)]
    · rw [hm, asF_set _ _ hcn]
      constructor
      · rintro ((h | h) | ⟨t', a1, a2, a3⟩)
        · exact .inl h
        · exact .inr ⟨t, hlt, Nat.le_refl _, by omega⟩
        · exact .inr ⟨t', a1, by omega, a3⟩
      · rintro (h | ⟨t', a1, a2, a3⟩)
        · exact .inl (.inl h)
        · rcases Nat.lt_or_ge t t' with h | h
          · exact .inr ⟨t', a1, by omega, a3⟩
          · obtain rfl : t' = t := by omega
            exact .inl (.inr (by omega))
theorem mark_ev {xs : List Int} {s : Int} {ks : List SK} (ok : (plOf xs s ks).Ok) {a f : Int} (h0 : 0 ≤ a) (h1 : a ≤ 23) (hf : 0 ≤ f) {kn : List Bool} (hl : (kn.length : Int) = (plOf xs s ks).all) :
    ∃ out, Ev (fun k => luciferref01_mark.f k xs s ks kn a f) out ∧ (out.length : Int) = (plOf xs s ks).all ∧ asF out = fun i => asF kn i || (plOf xs s ks).mark (a, f) i := by
  obtain ⟨t, rfl⟩ : ∃ t : Nat, f = t := ⟨f.toNat, by omega⟩
  have hb := Peel.all_bd ok
  obtain ⟨out, he, hlen, hm⟩ := mark_l0 ok (f := (t : Int)) h0 h1 (xs.length - t) t kn hl rfl
  refine ⟨out, Ev.congr (fun k => ?_) he, by omega, ?_⟩
  · unfold luciferref01_mark.f
    simp only [Option.bind_some, List.length_nil, List.nil_append]
    rw [if_pos (by omega)]
  · funext i
    rw [Bool.eq_iff_iff, hm, Bool.or_eq_true, mark_iff]
    constructor
    · rintro (h | ⟨t', a1, a2, a3⟩)
      · exact .inl h
      · exact .inr ⟨t', a1, by dsimp only; omega, a3⟩
    · rintro (h | ⟨t', a1, a2, a3⟩)
      · exact .inl h
      · exact .inr ⟨t', a1, by dsimp only at a2; omega, a3⟩
theorem spot_bd {xs : List Int} {s : Int} {ks : List SK} (ok : (plOf xs s ks).Ok) {j : Nat} (hj : j < ks.length) {p : Int × Int} (hp : p ∈ (knOf (knotAt ks j)).spots) : 0 ≤ p.1 ∧ p.1 ≤ 23 ∧ 0 ≤ p.2 := by
  have hk := ok.knots _ (List.mem_of_getElem? (knots_get (xs := xs) (s := s) hj))
  obtain ⟨i, hi⟩ := List.getElem?_of_mem hp
  obtain ⟨p1, p2⟩ := p
  have := Peel.spots_bd hk hi
  exact ⟨this.1, this.2.1, this.2.2.1⟩
end Go.Proofs.YtigofgdmefobaaaDoor.PP
