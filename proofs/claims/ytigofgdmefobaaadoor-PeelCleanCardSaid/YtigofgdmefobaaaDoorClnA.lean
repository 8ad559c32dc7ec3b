/- PeelClean: what is answered of a log without knots (no program in sight). -/
import Derived.Test.YtigofgdmefobaaaDoorLawD
import Derived.Test.YtigofgdmefobaaaDoorLawF
import Derived.Test.YtigofgdmefobaaaDoorAngA
set_option linter.unusedVariables false
set_option linter.unusedSimpArgs false
namespace Go.Proofs.YtigofgdmefobaaaDoor.Peel
/-- The log without its knots. -/
def cleanP (l : PL) : PL := ⟨l.long, l.size, []⟩
theorem clean_ok {l : PL} (ok : l.Ok) : (cleanP l).Ok := ⟨ok.turns1, ok.turns, ok.size1, ok.size6, by simp [cleanP], ok.long, ok.down, fun x hx => by simp [cleanP] at hx⟩
theorem clean_truths (l : PL) : (cleanP l).truths (cleanP l).knots none72 = [none72] := rfl
theorem clean_possible (l : PL) : (cleanP l).possible = none72 := by
  unfold PL.possible
  rw [clean_truths]
  funext i
  simp [anyOf]
/-- Pieces one behind the other, from a column on. -/
def rowFrom (l : PL) (c : Nat) : List Int := (List.range ((l.all - c) / l.size).toNat).map fun (i : Nat) => (c : Int) + i * l.size
theorem rowFrom_go (l : PL) (h1 : 1 ≤ l.size) (c : Nat) (h : (c : Int) + l.size ≤ l.all) : rowFrom l c = (c : Int) :: rowFrom l (c + l.size.toNat) := by
  have hs : (l.size.toNat : Int) = l.size := Int.toNat_of_nonneg (by omega)
  have e : (l.all - c) / l.size = (l.all - ((c + l.size.toNat : Nat) : Int)) / l.size + 1 := by
    have := Int.add_mul_ediv_right (l.all - c - l.size) 1 (show l.size ≠ 0 by omega)
    rw [show l.all - (c : Int) - l.size + 1 * l.size = l.all - c by omega] at this
    rw [this]
    congr 2
    simp
    omega
  have hn : 0 ≤ (l.all - ((c + l.size.toNat : Nat) : Int)) / l.size := Int.ediv_nonneg (by simp; omega) (by omega)
  unfold rowFrom
  rw [e, show ((l.all - ((c + l.size.toNat : Nat) : Int)) / l.size + 1).toNat = ((l.all - ((c + l.size.toNat : Nat) : Int)) / l.size).toNat + 1 by omega, List.range_succ_eq_map, List.map_cons, List.map_map]
  congr 1
  · simp
  · refine List.map_congr_left fun i _ => ?_
    simp only [Function.comp, Nat.succ_eq_add_one, Int.natCast_add, hs]
    rw [Int.add_mul]
    omega
theorem rowFrom_stop (l : PL) (h1 : 1 ≤ l.size) (c : Nat) (hc : (c : Int) ≤ l.all) (h : ¬ (c : Int) + l.size ≤ l.all) : rowFrom l c = [] := by
  unfold rowFrom
  rw [Int.ediv_eq_zero_of_lt (by omega) (by omega)]
  rfl
theorem cut_none (l : PL) (h1 : 1 ≤ l.size) (ha : l.all ≤ 72) : ∀ (n c : Nat), (l.all - c).toNat ≤ n → (c : Int) ≤ l.all → l.cutF none72 (73 - c) c = rowFrom l c := by
  intro n
  induction n with
  | zero =>
    intro c hn hc
    rw [cutF_stop l _ c _ (by omega), rowFrom_stop l h1 c hc (by omega)]
  | succ n ih =>
    intro c hn hc
    by_cases h : (c : Int) + l.size ≤ l.all
    · rw [cutF_free l h1 ha none72 c h (fun _ _ => rfl), rowFrom_go l h1 c h, ih (c + l.size.toNat) (by omega) (by omega)]
    · rw [cutF_stop l _ c _ h, rowFrom_stop l h1 c hc h]
def cleanCut (l : PL) : List Int := (List.range (l.all / l.size).toNat).map fun (i : Nat) => (i : Int) * l.size
theorem clean_cut {l : PL} (ok : l.Ok) : (cleanP l).cut none72 = cleanCut l := by
  have ha := all_bd ok
  have e : (cleanP l).cut none72 = rowFrom (cleanP l) 0 := by
    have := cut_none (cleanP l) ok.size1 ha.2 72 0 (by simp; exact ha.2) (by simp; exact ha.1)
    exact this
  rw [e]
  unfold rowFrom cleanCut
  simp [cleanP, PL.all]
theorem cleanCut_len (l : PL) : (cleanCut l).length = (l.all / l.size).toNat := by simp [cleanCut]
theorem clean_best {l : PL} (ok : l.Ok) : bestS (cleanP l) = (cleanCut l, 0) := by unfold bestS; rw [if_pos (clean_ok ok), clean_possible, clean_cut ok]
theorem clean_hope {l : PL} (ok : l.Ok) : hopeS (cleanP l) = (((cleanCut l).length : Int), 0) := by
  unfold hopeS
  rw [if_pos (clean_ok ok)]
  unfold PL.hope PL.most
  rw [clean_truths]
  simp [clean_cut ok]
theorem clean_knotty {l : PL} (ok : l.Ok) (k : Int) (h0 : 0 ≤ k) (h1 : k < l.all) : knottyS (cleanP l) k = (0, 0) := by
  unfold knottyS
  rw [if_pos (clean_ok ok), if_pos ⟨h0, by show k ≤ l.all - 1; omega⟩]
  unfold PL.knottyAt
  rw [clean_truths]
  simp [none72]
theorem clean_ask {l : PL} (ok : l.Ok) : askS (cleanP l) = (0, 4) := by
  unfold askS
  rw [if_pos (clean_ok ok), if_pos (show (cleanP l).knots.length = 0 from rfl)]
theorem cleanCut_get (l : PL) (i : Nat) (h : i < (cleanCut l).length) : (cleanCut l).getD i 0 = (i : Int) * l.size := by
  rw [cleanCut_len] at h
  simp [cleanCut, List.getD_eq_getElem?_getD, h]
end Go.Proofs.YtigofgdmefobaaaDoor.Peel
