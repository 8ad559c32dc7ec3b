/- Walks of package peel: Check. -/
import Derived.Test.YtigofgdmefobaaaDoorPeelE
set_option linter.unusedVariables false
set_option linter.unusedSimpArgs false
namespace Go.Proofs.YtigofgdmefobaaaDoor.Peel
open Go.RowKit
theorem head_yes {l : PL} (h1 : 1 ≤ (l.long.length : Int) ∧ (l.long.length : Int) ≤ 6) (h2 : 1 ≤ l.size ∧ l.size ≤ 6) : decide ((l.knots.length : Int) ≤ 3) = true ↔ HeadOk l := by
  rw [decide_eq_true_iff]
  exact ⟨fun h => ⟨h1, h2, by omega⟩, fun h => by have := h.2.2; omega⟩
theorem head_no {l : PL} (h : ¬ HeadOk l) : false = true ↔ HeadOk l := ⟨fun e => (by cases e), fun k => absurd k h⟩
set_option maxHeartbeats 1000000 in
theorem check_any {w : World} {l : PL} {A B : Option Addr} {c d : Nat} (h : RawAt w l A B c d) :
    Calls Tryd.prog 17 #[.agg #[.slice A l.long.length c, .int .i64 l.size, .slice B l.knots.length d]] w (CheckPost l w) := by
  have hn := h.n
  have hm := h.m
  have hc := h.c
  have hd := h.d
  have H := Lib.hid h
  clear h
  have hB := (Below.refl _ w).alloc (Nat.le_refl _) (.cells #[.slice A l.long.length c, .int .i64 l.size, .slice B l.knots.length d] 25)
  go_enter Tryd.func17, Tryd.ntmps17
  -- the three tests at the head
  go_upto_region 1 with (fail)
  go_cut [3] (fun b wc => ∃ b0 : Bool, b = .bool b0 ∧ (b0 = true ↔ HeadOk l) ∧ wc = w.alloc (.cells #[.slice A l.long.length c, .int .i64 l.size, .slice B l.knots.length d] 25))
  case first =>
    by_cases h1 : 1 ≤ (l.long.length : Int) ∧ (l.long.length : Int) ≤ 6
    · by_cases h2 : 1 ≤ l.size ∧ l.size ≤ 6
      · go_wp2_with fail
        refine (in_yes _ _ _ _ h1).mono ?_
        rintro e w' ⟨rfl, rfl⟩
        go_wp2_with fail
        refine (in_yes _ _ _ _ h2).mono ?_
        rintro e w' ⟨rfl, rfl⟩
        go_wp2_with fail
        go_meet
        case rel => exact ⟨_, rfl, head_yes h1 h2, rfl⟩
      · go_wp2_with fail
        refine (in_yes _ _ _ _ h1).mono ?_
        rintro e w' ⟨rfl, rfl⟩
        go_wp2_with fail
        refine (in_no _ _ _ _ h2).mono ?_
        rintro e w' ⟨rfl, rfl⟩
        go_wp2_with fail
        go_meet
        case rel => exact ⟨_, rfl, head_no (fun h => h2 h.2.1), rfl⟩
    · go_wp2_with fail
      refine (in_no _ _ _ _ h1).mono ?_
      rintro e w' ⟨rfl, rfl⟩
      go_wp2_with fail
      go_meet
      case rel => exact ⟨_, rfl, head_no (fun h => h1 h.1), rfl⟩
  case rest =>
    obtain ⟨b0, rfl, hb0, rfl⟩ := hcut
    go_wp2_with fail
    go_loop [3, 4, 5, 26] (fun b _ _ i => ∃ (k : Nat) (b1 : Bool), k ≤ l.long.length ∧ i = .int .i64 k ∧ b = .bool b1 ∧ Upto (HeadOk l) (LongOk l.long) k b1) (fun _ _ _ i => l.long.length - (intOf i).toNat)
    case atStart => exact ⟨0, b0, Nat.zero_le _, rfl, rfl, Upto.zero hb0⟩
    case round =>
      obtain ⟨k, b1, hk, rfl, rfl, hu⟩ := hrel
      by_cases hlt : k < l.long.length
      · obtain ⟨a, rfl, hcell⟩ := H.out.below hB |>.long k hlt
        have hprev : ∀ j, k = j + 1 → (w.alloc (.cells #[.slice (some a) l.long.length c, .int .i64 l.size, .slice B l.knots.length d] 25)).cell? (a.add j) = some (.int .i64 (l.long.getD j 0)) := fun j hj => by
          obtain ⟨a', e, h0⟩ := (H.out.below hB).long j (by omega)
          injection e with e
          subst e
          exact h0
        have HK := Lib.hid (show LongOk l.long k ↔ (1 ≤ l.long.getD k 0 ∧ l.long.getD k 0 ≤ 12) ∧ (k = 0 ∨ l.long.getD k 0 ≤ l.long.getD (k - 1) 0) from Iff.rfl)
        generalize l.long.getD k 0 = x at *
        cases b1 with
        | false =>
          go_wp2_with fail
          go_round
          case rel => exact ⟨k + 1, false, by omega, by go_num, rfl, hu.keep⟩
          case measure => simp [intOf]; omega
        | true =>
          by_cases hx : 1 ≤ x ∧ x ≤ 12
          · rcases Nat.eq_zero_or_pos k with hk0 | hk0
            · subst hk0
              rw [add_zero] at hcell
              go_wp2_with fail
              refine (in_yes _ _ _ _ hx).mono ?_
              rintro e w' ⟨rfl, rfl⟩
              go_wp2_with fail
              go_round
              case rel => exact ⟨1, true, by omega, rfl, rfl, hu.yes (HK.out.2 ⟨hx, .inl (by trivial)⟩)⟩
              case measure => simp [intOf]; omega
            · obtain ⟨j, rfl⟩ : ∃ j, k = j + 1 := ⟨k - 1, by omega⟩
              have hp := hprev j rfl
              rw [add_succ] at hcell
              simp only [Nat.add_sub_cancel] at HK
              have hj0 : ((j : Int) + 1 == 0) = false := by simp; omega
              clear hprev
              generalize l.long.getD j 0 = y at *
              by_cases hxy : x ≤ y
              · go_wp2_with fail
                refine (in_yes _ _ _ _ hx).mono ?_
                rintro e w' ⟨rfl, rfl⟩
                go_wp2_with fail
                go_round
                case rel => exact ⟨j + 1 + 1, true, by omega, by go_num, by simp [hxy], hu.yes (HK.out.2 ⟨hx, .inr hxy⟩)⟩
                case measure => simp [intOf]; omega
              · go_wp2_with fail
                refine (in_yes _ _ _ _ hx).mono ?_
                rintro e w' ⟨rfl, rfl⟩
                go_wp2_with fail
                go_round
                case rel => exact ⟨j + 1 + 1, false, by omega, by go_num, by simp [hxy], Upto.no (fun h => by rcases (HK.out.1 h).2 with h | h <;> omega)⟩
                case measure => simp [intOf]; omega
          · go_wp2_with fail
            refine (in_no _ _ _ _ hx).mono ?_
            rintro e w' ⟨rfl, rfl⟩
            go_wp2_with fail
            go_round
            case rel => exact ⟨k + 1, false, by omega, by go_num, rfl, Upto.no (fun h => hx (HK.out.1 h).1)⟩
            case measure => simp [intOf]; omega
      · obtain rfl : k = l.long.length := by omega
        have HU := Lib.hid hu
        clear hu hlt
        go_wp2_with fail
        go_loopw [3, 7, 54] (fun b _ i wr => ∃ (k : Nat) (b2 : Bool), k ≤ l.knots.length ∧ i = .int .i64 k ∧ b = .bool b2 ∧ Upto (HeadOk l ∧ ∀ j, j < l.long.length → LongOk l.long j) (KnotOk l) k b2 ∧ Below (w.heap.size + 1) (w.alloc (.cells #[.slice A l.long.length c, .int .i64 l.size, .slice B l.knots.length d] 25)) wr) (fun _ _ i _ => l.knots.length - (intOf i).toNat)
        case atStart => exact ⟨0, b1, Nat.zero_le _, rfl, rfl, Upto.zero HU.out, Below.refl _ _⟩
        case round =>
          obtain ⟨k, b2, hk, rfl, rfl, hu, hbr⟩ := hrel
          by_cases hlt : k < l.knots.length
          · obtain ⟨x, hx⟩ : ∃ x, l.knots[k]? = some x := ⟨_, List.getElem?_eq_getElem hlt⟩
            have hsz : w.heap.size < wr.heap.size := by have := hbr.size; simp at this; omega
            obtain ⟨b, rfl, k0, k1, k2, k3⟩ := ((H.out.below hB).below (by simpa using hbr)).knots k x hx
            obtain ⟨hcr, hfr⟩ := bcell hbr
            have HX := Lib.hid hx
            clear hx
            have HU2 := Lib.hid hu
            clear hu
            have HBR := Lib.hid hbr
            clear hbr
            cases b2 with
            | false =>
              go_wp2_with fail
              go_roundw
              case rel => exact ⟨k + 1, false, by omega, by go_num, rfl, HU2.out.keep, HBR.out.alloc (by omega) _⟩
              case measure => simp [intOf]; omega
            | true =>
              by_cases ha : x.a.Ok 0 23 3
              · by_cases hf : x.f.Ok 0 l.long.length 1
                · go_wp2_with fail
                  refine (spans_yes x.a 23 3 _ ha (by omega)).mono ?_
                  rintro e w' ⟨rfl, hb1⟩
                  obtain ⟨hc1, hf1⟩ := bcell hb1
                  have hz1 : wr.heap.size + 1 ≤ w'.heap.size := by have := hb1.size; simpa using this
                  have HB1 := Lib.hid hb1
                  clear hb1
                  go_wp2_with fail
                  refine (spans_yes x.f _ 1 _ hf (by omega)).mono ?_
                  rintro e w2 ⟨rfl, hb2⟩
                  have HB2 := Lib.hid hb2
                  clear hb2
                  go_wp2_with fail
                  go_roundw
                  case rel => exact ⟨k + 1, true, by omega, by go_num, rfl, HU2.out.yes (fun y hy => by rw [HX.out] at hy; injection hy with hy; subst hy; exact ⟨ha, hf⟩), ((HBR.out.alloc (by omega) _).trans (HB1.out.mono (by simp; omega))).trans (HB2.out.mono (by omega))⟩
                  case measure => simp [intOf]; omega
                · go_wp2_with fail
                  refine (spans_yes x.a 23 3 _ ha (by omega)).mono ?_
                  rintro e w' ⟨rfl, hb1⟩
                  obtain ⟨hc1, hf1⟩ := bcell hb1
                  have hz1 : wr.heap.size + 1 ≤ w'.heap.size := by have := hb1.size; simpa using this
                  have HB1 := Lib.hid hb1
                  clear hb1
                  go_wp2_with fail
                  refine (spans_no x.f _ 1 _ hf (by omega)).mono ?_
                  rintro e w2 ⟨rfl, hb2⟩
                  have HB2 := Lib.hid hb2
                  clear hb2
                  go_wp2_with fail
                  go_roundw
                  case rel => exact ⟨k + 1, false, by omega, by go_num, rfl, Upto.no (fun h => hf (h x HX.out).f), ((HBR.out.alloc (by omega) _).trans (HB1.out.mono (by simp; omega))).trans (HB2.out.mono (by omega))⟩
                  case measure => simp [intOf]; omega
              · go_wp2_with fail
                refine (spans_no x.a 23 3 _ ha (by omega)).mono ?_
                rintro e w' ⟨rfl, hb1⟩
                have HB1 := Lib.hid hb1
                clear hb1
                go_wp2_with fail
                go_roundw
                case rel => exact ⟨k + 1, false, by omega, by go_num, rfl, Upto.no (fun h => ha (h x HX.out).a), (HBR.out.alloc (by omega) _).trans (HB1.out.mono (by simp; omega))⟩
                case measure => simp [intOf]; omega
          · obtain rfl : k = l.knots.length := by omega
            have HU2 := Lib.hid hu
            clear hu
            cases b2 with
            | true =>
              go_wp2_with fail
              go_ret
              exact ⟨.inl ⟨(ok_iff l).2 (by have := HU2.out.1 rfl; exact ⟨this.1.1, this.1.2, this.2⟩), rfl⟩, hB.trans (hbr.mono (by simp))⟩
            | false =>
              go_wp2_with fail
              go_ret
              exact ⟨.inr ⟨fun h => (by have := HU2.out.2 ⟨⟨((ok_iff l).1 h).1, ((ok_iff l).1 h).2.1⟩, ((ok_iff l).1 h).2.2⟩; cases this), rfl⟩, hB.trans (hbr.mono (by simp))⟩
end Go.Proofs.YtigofgdmefobaaaDoor.Peel
