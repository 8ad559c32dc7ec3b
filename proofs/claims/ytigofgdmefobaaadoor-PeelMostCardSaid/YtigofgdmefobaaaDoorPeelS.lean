/- Walks of package peel: the truths of a log, as an iterator. -/
import Derived.Test.YtigofgdmefobaaaDoorPeelR
import Derived.Laws.EntriesVeiled
set_option linter.unusedVariables false
set_option linter.unusedSimpArgs false
namespace Go.Proofs.YtigofgdmefobaaaDoor.Peel
open Go.RowKit Go.Proofs.YtigofgdmefobaaaDoor.Iter
attribute [local go_sem] Oper.semAt_some
theorem on_any (l : PL) (a : Addr) (B : Option Addr) (c d m bl by_ bo L : Nat) (J : Nat → (Nat → Prop) → World → Prop) (hJ : Iter.Abides J) (xs : List (Nat → Bool))
    (hY : ∀ n x T W1, xs[n]? = some x → J n T W1 → TruthsNeed l a B c d m bl W1 → (∀ b, T b → b < W1.heap.size) → YieldAt Fence.wide 0 Tryd.prog L (ribV x) W1 fun e W2 => e = .returned (.bool true) ∧ J (n + 1) T W2 ∧ Keeps T W1 W2 ∧ TruthsNeed l a B c d m bl W2) :
    ∀ (rem : List Kn) (k : Nat), l.knots.drop k = rem → k ≤ l.knots.length → ∀ (r : Nat → Bool) (n : Nat) (T : Nat → Prop) (W : World), (∀ j, j < (l.truths rem r).length → xs[n + j]? = (l.truths rem r)[j]?) → J n T W → (∀ b, T b → b < W.heap.size) → T m → T by_ → T bo → TruthsNeed l a B c d m bl W → OnAt L bl by_ bo W →
      Calls Tryd.prog 88 #[.int .i64 k, .agg (rv r), .pointer (some ⟨bl, 0, none⟩), .pointer (some ⟨by_, 0, none⟩), .pointer (some ⟨bo, 0, none⟩)] W (OnPost J (TruthsNeed l a B c d m bl) L bl by_ bo m (n + (l.truths rem r).length) T W) := by
  intro rem
  induction rem with
  | nil =>
    intro k hd hk r n T W hx h0 hT htm hty hto hN hO
    have hkl : k = l.knots.length := by
      have := congrArg List.length hd
      simp at this
      omega
    subst hkl
    have := hx 0 (by simp [PL.truths])
    exact on_base l a B c d m bl by_ bo L J hJ xs hY r n T W (by simpa [PL.truths] using this) h0 hT hty hto hN hO
  | cons x ks ih =>
    intro k hd hk r n T W hx h0 hT htm hty hto hN hO
    have hkx : l.knots[k]? = some x := by
      have := congrArg (fun q => q[0]?) hd
      simpa using this
    have hks : l.knots.drop (k + 1) = ks := by
      have := congrArg List.tail hd
      simpa using this
    refine on_step l a B c d m bl by_ bo L J hJ xs k x ks hkx ?_ r n T W hx h0 hT htm hty hto hN hO
    have := ih (k + 1) hks (List.getElem?_eq_some_iff.1 hkx).1
    simpa using this
set_option maxRecDepth 8000 in
set_option maxHeartbeats 4000000 in
theorem truths_yields (l : PL) (a : Addr) (B : Option Addr) (c d m bl : Nat) :
    Iter.Yields Tryd.prog 87 #[.pointer (some ⟨bl, 0, none⟩)] ribV (l.truths l.knots none72) (fun b => b = m) (TruthsNeed l a B c d m bl) := by
  intro L J W hN hJ hY h0
  have hm : m < W.heap.size := by obtain ⟨es, cl, h1, _⟩ := hN.marks; exact (Array.getElem?_eq_some_iff.1 h1).1
  have HN := Lib.hid hN
  have HY := Lib.hid hY
  have H0 := Lib.hid h0
  have HJ := Lib.hid hJ
  clear hN hY h0 hJ
  simp only [List.push_toArray, List.append_toArray, List.cons_append, List.nil_append]
  refine callsIn_wide.2 ?_
  go_enter Tryd.func87, Tryd.ntmps87
  go_upto_region 3 with (fail)
  obtain ⟨W1, hW1⟩ : ∃ W1, W1 = (W.alloc (.cells #[.func (.yield L) #[] #[]] 111)).alloc (.cells #[.func (.func 88) #[] #[.pointer (some ⟨bl, 0, none⟩), .pointer (some ⟨W.heap.size, 0, none⟩), .pointer (some ⟨W.heap.size + 1, 0, none⟩)]] 112) := ⟨_, rfl⟩
  have z1 : W1.heap.size = W.heap.size + 2 := by rw [hW1]; simp
  have hb1 : Below W.heap.size W W1 := by rw [hW1]; exact ((Below.refl _ W).alloc (Nat.le_refl _) _).alloc (by simp) _
  have on1 : OnAt L bl W.heap.size (W.heap.size + 1) W1 := by
    rw [hW1]
    exact ⟨cell_row' (i := 0) (by (repeat (first | with_reducible assumption | with_reducible exact row_new | with_reducible refine row_drew ?_ | with_reducible apply row_same | with_reducible refine row_diff ?_ (by first | omega | (simp only [World.size_alloc, size_setRow, size_drew', World.size_setCell]; omega)) | with_reducible refine row_far ?_ (by (try dsimp only); first | omega | (simp only [World.size_alloc, size_setRow, size_drew', World.size_setCell]; omega)) | with_reducible refine row_new' (by first | (simp only [World.size_alloc, size_setRow, size_drew', World.size_setCell]; done) | omega | (simp only [World.size_alloc, size_setRow, size_drew', World.size_setCell]; omega)) | with_reducible refine row_old ?_ | with_reducible refine row_below (by assumption) ?_ (by first | omega | (simp only [World.size_alloc, size_setRow, size_drew', World.size_setCell]; omega))))) rfl, cell_row' (i := 0) (by (repeat (first | with_reducible assumption | with_reducible exact row_new | with_reducible refine row_drew ?_ | with_reducible apply row_same | with_reducible refine row_diff ?_ (by first | omega | (simp only [World.size_alloc, size_setRow, size_drew', World.size_setCell]; omega)) | with_reducible refine row_far ?_ (by (try dsimp only); first | omega | (simp only [World.size_alloc, size_setRow, size_drew', World.size_setCell]; omega)) | with_reducible refine row_new' (by first | (simp only [World.size_alloc, size_setRow, size_drew', World.size_setCell]; done) | omega | (simp only [World.size_alloc, size_setRow, size_drew', World.size_setCell]; omega)) | with_reducible refine row_old ?_ | with_reducible refine row_below (by assumption) ?_ (by first | omega | (simp only [World.size_alloc, size_setRow, size_drew', World.size_setCell]; omega))))) rfl⟩
  rw [← hW1]
  clear hW1
  have hJ1 : J 0 (fun b => b = m ∨ b = W.heap.size ∨ b = W.heap.size + 1) W1 := HJ.out 0 _ _ W W1 H0.out (Stays.of_below hb1) (fun b hb hn h => by rcases h with h | h | h; exact hn h; omega; omega)
  have co := on1.o
  have O1 := Lib.hid on1
  have HJ1 := Lib.hid hJ1
  have HB1 := Lib.hid hb1
  have hyd : ∀ n x T W1, (l.truths l.knots none72)[n]? = some x → J n T W1 → TruthsNeed l a B c d m bl W1 → (∀ b, T b → b < W1.heap.size) → YieldAt Fence.wide 0 Tryd.prog L (ribV x) W1 fun e W2 => e = .returned (.bool true) ∧ J (n + 1) T W2 ∧ Keeps T W1 W2 ∧ TruthsNeed l a B c d m bl W2 := HY.out
  have hon := on_any l a B c d m bl W.heap.size (W.heap.size + 1) L J HJ.out (l.truths l.knots none72) hyd l.knots 0 rfl (Nat.zero_le _) none72 0
  have HON := Lib.hid hon
  clear on1 hJ1 hb1 hon hyd
  go_region_held3 (fun w' => w'.cell? ⟨W.heap.size + 1, 0, none⟩ = some (.func (.func 88) #[] #[.pointer (some ⟨bl, 0, none⟩), .pointer (some ⟨W.heap.size, 0, none⟩), .pointer (some ⟨W.heap.size + 1, 0, none⟩)]))
    (first | go_keep | exact cell_below hb' (by assumption) | exact HP.out.at_.o)
    (first
      | (go_at_call 90; refine (clean_any _).mono ?_; rintro e w' ⟨rfl, hb'⟩)
      | (go_at_call 88; refine (HON.out _ w' (fun j hj => by simp) (HJ.out 0 _ _ W1 _ HJ1.out (Stays.of_below (by (repeat' (first | exact Below.refl _ _ | assumption | with_reducible refine bdrew ?_ | with_reducible refine balloc ?_ _ | with_reducible refine bset ?_ _ _ (by first | omega | (simp; done) | (simp; omega) | (dsimp only; omega)) | with_reducible refine bb ?_ (by assumption))))) (fun b hb hn h => hn h)) (fun b hb => by have := hb'.size; rcases hb with h | h | h <;> simp at this <;> omega) (.inl rfl) (.inr (.inl rfl)) (.inr (.inr rfl)) (HN.out.below (bb HB1.out (by (repeat' (first | exact Below.refl _ _ | assumption | with_reducible refine bdrew ?_ | with_reducible refine balloc ?_ _ | with_reducible refine bset ?_ _ _ (by first | omega | (simp; done) | (simp; omega) | (dsimp only; omega)) | with_reducible refine bb ?_ (by assumption)))))) (O1.out.below (by (repeat' (first | exact Below.refl _ _ | assumption | with_reducible refine bdrew ?_ | with_reducible refine balloc ?_ _ | with_reducible refine bset ?_ _ _ (by first | omega | (simp; done) | (simp; omega) | (dsimp only; omega)) | with_reducible refine bb ?_ (by assumption)))))).mono ?_; rintro e w'' hp; have hpe := hp.e; have HP := Lib.hid hp; clear hp; subst hpe))
  obtain ⟨T', hj', _, _⟩ := HP.out.j
  have HJ' := Lib.hid hj'
  clear hj'
  go_end0
  exact ⟨⟨_, rfl⟩, HP.out.need, T', by simpa using HJ'.out⟩
end Go.Proofs.YtigofgdmefobaaaDoor.Peel
