/- PeelTrue over the printed functions. -/
import Derived.Test.YtigofgdmefobaaaDoorPPxf6
import Derived.Test.YtigofgdmefobaaaDoorPPxf45
import Derived.Test.YtigofgdmefobaaaDoorLawTrue
import Derived.Test.YtigofgdmefobaaaDoorLawsA
set_option linter.unusedVariables false
set_option linter.unusedSimpArgs false
namespace Go.Proofs.YtigofgdmefobaaaDoor.PP
open Go.RowKit Go.Proofs.YtigofgdmefobaaaDoorW.PrintWords Go.Proofs.YtigofgdmefobaaaDoorW.PrintLast Go.Proofs.YtigofgdmefobaaaDoorW.PrintMore
open Peel (PL Kn Sp sumTo RawAt CutAt EndsAt)
theorem has_ev (a b n : Int) : luciferref00_Has.f a b n = some (decide (a ≤ n ∧ n ≤ b)) := by
  unfold luciferref00_Has.f
  rw [fits_ev]
  rfl
theorem best_ok {xs : List Int} {s : Int} {ks : List SK} (ok : (plOf xs s ks).Ok) : peel_Best.f xs s ks = some ((plOf xs s ks).cut (plOf xs s ks).possible, 0) := by
  unfold peel_Best.f Peel.bestS
  rw [if_pos (few_ok ok).1, if_pos ok]
theorem hope_ok {xs : List Int} {s : Int} {ks : List SK} (ok : (plOf xs s ks).Ok) : peel_Hope.f xs s ks = some ((plOf xs s ks).hope, 0) := by
  unfold peel_Hope.f Peel.hopeS
  rw [if_pos (few_ok ok).1, if_pos ok]
theorem sure_ok {xs : List Int} {s : Int} {ks : List SK} (ok : (plOf xs s ks).Ok) {cs : List Int} (hn : fewI cs) (hc : (plOf xs s ks).isCut 0 cs = true) : peel_Sure.f xs s ks cs = some ((plOf xs s ks).count (plOf xs s ks).possible cs, 0) := by
  unfold peel_Sure.f Peel.sureS
  rw [if_pos ⟨(few_ok ok).1, hn⟩, if_pos ok, if_pos hc]
theorem whole_ok {xs : List Int} {s : Int} {ks : List SK} (ok : (plOf xs s ks).Ok) {cs : List Int} (hn : fewI cs) (hc : (plOf xs s ks).isCut 0 cs = true) : peel_Whole.f xs s ks cs = some ((plOf xs s ks).low cs ((plOf xs s ks).truths (plOf xs s ks).knots Peel.none72), (plOf xs s ks).high cs ((plOf xs s ks).truths (plOf xs s ks).knots Peel.none72), 0) := by
  unfold peel_Whole.f Peel.wholeS
  rw [if_pos ⟨(few_ok ok).1, hn⟩, if_pos ok, if_pos hc]
theorem isCut_bd' (l : PL) (h1 : 0 ≤ l.size) : ∀ (cs : List Int) (b : Int), 0 ≤ b → l.isCut b cs = true → ∀ i, i < cs.length → 0 ≤ cs.getD i 0 ∧ cs.getD i 0 + l.size ≤ l.all := by
  intro cs
  induction cs with
  | nil => intro b _ _ i hi; simp at hi
  | cons c cs ih =>
    intro b hb h i hi
    obtain ⟨a1, a2, a3⟩ := Peel.isCut_cons l b c cs h
    cases i with
    | zero => simp; omega
    | succ i =>
      have := ih (c + l.size) (by omega) a3 i (by simpa using hi)
      simpa using this
theorem true_pure (xs : List Int) (s : Int) (ks : List SK) (bits steps : List Int) (hf : few xs ks) (hn1 : fewI bits) (hn2 : fewI steps) : ∃ k, luciferlaw01_PeelTrue.f k xs s ks bits steps = some true := by
  refine Ev.rounds (g := fun k => luciferlaw01_PeelTrue.f k xs s ks bits steps) ?_
  by_cases ok : (plOf xs s ks).Ok
  · have h1 : 1 ≤ (plOf xs s ks).size := ok.size1
    have hb := Peel.all_bd ok
    obtain ⟨kn, hkn, hkl, hkf⟩ := truly_knots ok bits
    obtain ⟨cs, hcs, hcc, hcl⟩ := draw_ev ok steps hn2
    have hcn : fewI cs := by unfold fewI; omega
    have hbl := Peel.cut_len (plOf xs s ks) (plOf xs s ks).possible
    have hbn : fewI ((plOf xs s ks).cut (plOf xs s ks).possible) := by unfold fewI; omega
    have hown := Peel.cut_own ok (plOf xs s ks).possible
    have hmem := trueF_mem ok bits
    have hposs := possible_of hmem
    have hm1 : (plOf xs s ks).count (asF kn) ((plOf xs s ks).cut (plOf xs s ks).possible) = (((plOf xs s ks).cut (plOf xs s ks).possible).length : Int) := by rw [hkf]; exact count_cut_mono ok hposs
    have hw1 := wholeLaw_ev ok hkl hbn (isCut_bd' _ (by omega) _ 0 (by omega) hown.1)
    have hw2 := wholeLaw_ev ok hkl hcn (isCut_bd' _ (by omega) _ 0 (by omega) hcc)
    rw [hm1] at hw1
    have g1 : (plOf xs s ks).low cs ((plOf xs s ks).truths (plOf xs s ks).knots Peel.none72) ≤ (plOf xs s ks).count (asF kn) cs := by rw [hkf]; exact low_le _ _ _ _ hmem
    have g2 : (plOf xs s ks).count (asF kn) cs ≤ (plOf xs s ks).high cs ((plOf xs s ks).truths (plOf xs s ks).knots Peel.none72) := by rw [hkf]; exact high_ge _ _ _ _ hmem
    have g3 := (Peel.count_bd (plOf xs s ks) (plOf xs s ks).possible cs)
    have g4 : (plOf xs s ks).count (plOf xs s ks).possible cs ≤ (plOf xs s ks).low cs ((plOf xs s ks).truths (plOf xs s ks).knots Peel.none72) := low_ge _ _ _ _ (fun r hr => count_mono _ (possible_of hr) cs) g3.2
    have g5 := (Peel.high_bd (plOf xs s ks) cs ((plOf xs s ks).truths (plOf xs s ks).knots Peel.none72)).2
    have g6 : (plOf xs s ks).count (asF kn) cs ≤ (plOf xs s ks).hope := by
      have a := Peel.cut_most (plOf xs s ks) h1 hb.2 (asF kn) cs 0 0 (by omega) hcc
      have b := most_ge (plOf xs s ks) _ _ hmem
      rw [← hkf] at b
      exact Int.le_trans a b
    have g7 : (((plOf xs s ks).cut (plOf xs s ks).possible).length : Int) ≤ (plOf xs s ks).hope := by
      have a := Peel.cut_mono ok hposs
      have b := most_ge (plOf xs s ks) _ _ hmem
      unfold PL.hope
      omega
    have g8 : (plOf xs s ks).count (plOf xs s ks).possible cs ≤ (((plOf xs s ks).cut (plOf xs s ks).possible).length : Int) := Peel.cut_most (plOf xs s ks) h1 hb.2 _ cs 0 0 (by omega) hcc
    refine Ev.bind (sound_yes hf ok) (Ev.congr (fun k => if_pos rfl) ?_)
    refine Ev.bind (truly_ev ok hn1) (Ev.bind hkn ?_)
    simp only [best_ok ok, Option.bind_some]
    refine Ev.bind hcs ?_
    simp only [sure_ok ok hcn hcc, whole_ok ok hcn hcc, hope_ok ok, Option.bind_some, if_true]
    refine Ev.bind (cutting_ev hf ok hbn hown.1) (Ev.congr (fun k => if_pos rfl) ?_)
    refine Ev.bind (cutting_ev hf ok hcn hcc) (Ev.congr (fun k => if_pos rfl) ?_)
    refine Ev.bind hw1 ?_
    simp only [bne_self_eq_false]
    refine Ev.step (fun k => by simp only [luciferlaw01_PeelTrue.j0]; rw [if_neg (by simp)]) (Ev.bind hw2 ?_)
    simp only [has_ev, fits_ev, Option.bind_some]
    rw [decide_eq_true (⟨g1, g2⟩ : _ ∧ _), decide_eq_true (⟨g3.1, g4⟩ : _ ∧ _)]
    simp only [if_true]
    rw [if_pos g5, if_pos g6, if_pos g7, if_pos g8]
    exact Ev.now _
  · refine Ev.bind (sound_no hf ok) ?_
    exact Ev.congr (fun k => by rw [if_neg (by simp)]; rfl) (Ev.now _)
theorem true_walk {w : World} {l : PL} {A B : Option Addr} {c d : Nat} (h : RawAt w l A B c d) (he : EndsAt w) {cs : List Int} {C : Option Addr} {n : Nat} (hC : CutAt w cs C n) {ds : List Int} {D : Option Addr} {m : Nat} (hD : CutAt w ds D m) :
    Calls Tryd.prog 6 #[.agg #[.slice A l.long.length c, .int .i64 l.size, .slice B l.knots.length d], .slice C cs.length n, .slice D ds.length m] w fun e w' => e = .returned (.bool true) ∧ Below w.heap.size w w' := by
  obtain ⟨k, hk⟩ := true_pure l.long l.size (l.knots.map unKn) cs ds (few_un h) hC.len hD.len
  have := luciferlaw01_PeelTrue.calls k A c l.long l.size B d (l.knots.map unKn) C n cs D m ds true w (long_c h) h.c (knots_c h) (by rw [len_un]; exact h.d) (c_of_cut hC) hC.cap (c_of_cut hD) hD.cap he rfl hk
  rwa [len_un] at this
end Go.Proofs.YtigofgdmefobaaaDoor.PP
