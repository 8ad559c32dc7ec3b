/- PeelAsk: how few pieces, at the worst, if a knot is found (the law's own reckoning). -/
import Derived.Test.YtigofgdmefobaaaDoorAskA
set_option linter.unusedVariables false
set_option linter.unusedSimpArgs false
namespace Go.Proofs.YtigofgdmefobaaaDoor.Peel
open Go.RowKit Go.Proofs.YtigofgdmefobaaaDoor.Iter
attribute [local go_sem] Oper.semAt_some
theorem long_cut' {w : World} {l : PL} {A B : Option Addr} {c d : Nat} (h : RawAt w l A B c d) : CutAt w l.long A c where
  at_ := fun k hk => h.long k hk
  cap := h.c
  len := h.n
theorem own_shape {w : World} {base : Nat} {e : TypeId} {size : Nat} {v : Value} {n m : Nat} {xs : List Value} (h : w.ownsRow base e size v n xs) (hn : n = m) (h0 : 0 < m) :
    ∃ g cap cur, v = .slice (some ⟨g, 0, none⟩) m cap ∧ base ≤ g ∧ w.heap[g]? = some (.cells cur e (0, 0)) ∧ m ≤ cap ∧ cap ≤ maxLen ∧ cur.size = cap * size ∧ cur.toList.take (m * size) = xs := by
  subst hn
  rcases h.2 with ⟨_, h1⟩ | ⟨g, cap, cur, h1⟩
  · omega
  · exact ⟨g, cap, cur, h1⟩
set_option maxRecDepth 8000 in
set_option maxHeartbeats 4000000 in
theorem worst_any {w : World} {l : PL} {A B : Option Addr} {c d : Nat} (h : RawAt w l A B c d) (he : EndsAt w) (ok : l.Ok) (k : Nat) (x : Kn) (hkn : l.knots[k]? = some x) :
    Calls Tryd.prog 51 #[.agg #[.slice A l.long.length c, .int .i64 l.size, .slice B l.knots.length d], .int .i64 k] w fun e w' => e = .returned (.int .i64 (worstUpto l k x 8)) ∧ Below w.heap.size w w' := by
  have hlt : k < l.knots.length := (List.getElem?_eq_some_iff.1 hkn).1
  have hd3 : l.knots.length ≤ 3 := ok.knots3
  have hdd : l.knots.length ≤ d := h.d
  obtain ⟨⟨a1, a2, a3, a4⟩, ⟨b1, b2, b3, b4⟩⟩ := ok.knots x (List.mem_of_getElem? hkn)
  have t6 := ok.turns
  have HOK := Lib.hid ok
  have HKN := Lib.hid hkn
  obtain ⟨b, rfl, _⟩ := h.knots k x hkn
  obtain ⟨W0, hW0⟩ : ∃ W0, W0 = w.alloc (.cells #[.slice A l.long.length c, .int .i64 l.size, .slice (some b) l.knots.length d] 25) := ⟨_, rfl⟩
  go_enter Tryd.func51, Tryd.ntmps51
  go_upto_region 1 with (fail)
  rw [← hW0]
  have hb0 : Below w.heap.size w W0 := by rw [hW0]; exact (Below.refl _ w).alloc (Nat.le_refl _) _
  have rl : W0.heap[w.heap.size]? = some (.cells #[.slice A l.long.length c, .int .i64 l.size, .slice (some b) l.knots.length d] 25 (0, 0)) := by rw [hW0]; (repeat (first | with_reducible assumption | with_reducible exact row_new | with_reducible refine row_drew ?_ | with_reducible apply row_same | with_reducible refine row_diff ?_ (by first | omega | (simp only [World.size_alloc, size_setRow, size_drew', World.size_setCell]; omega)) | with_reducible refine row_far ?_ (by (try dsimp only); first | omega | (simp only [World.size_alloc, size_setRow, size_drew', World.size_setCell]; omega)) | with_reducible refine row_new' (by first | (simp only [World.size_alloc, size_setRow, size_drew', World.size_setCell]; done) | omega | (simp only [World.size_alloc, size_setRow, size_drew', World.size_setCell]; omega)) | with_reducible refine row_old ?_ | with_reducible refine row_below (by assumption) ?_ (by first | omega | (simp only [World.size_alloc, size_setRow, size_drew', World.size_setCell]; omega))))
  have H0 := Lib.hid (h.below hb0)
  have HE0 := Lib.hid (he.below hb0)
  have HB0 := Lib.hid hb0
  have q0 : W0.cell? ⟨w.heap.size, 0, none⟩ = some (.slice A l.long.length c) := cell_row' (i := 0) rl rfl
  have RL := Lib.hid rl
  clear hW0 hb0 rl h he ok hkn
  go_wp2_with fail
  refine (total_any (long_cut' H0.out) (fun j hj => by have := sumTo_bd HOK.out j hj; omega)).mono ?_
  rintro e w1 ⟨rfl, hb1⟩
  have H1 := Lib.hid (H0.out.below hb1)
  have HE1 := Lib.hid (HE0.out.below hb1)
  have HB1 := Lib.hid (bb HB0.out hb1)
  have RL1 := Lib.hid (row_below hb1 RL.out (Array.getElem?_eq_some_iff.1 RL.out).1)
  clear q0 hb1
  rw [show l.long.sum = l.all from rfl]
  go_wp2_with fail
  go_loopw [5, 6] (fun s i wr => ∃ j : Nat, i = .int .i64 j ∧ j ≤ 8 ∧ s = .int .i64 (worstUpto l k x j) ∧ Below w1.heap.size w1 wr) (fun _ i _ => 8 - (intOf i).toNat)
  case atStart => exact ⟨0, rfl, by omega, rfl, Below.refl _ _⟩
  case round =>
    obtain ⟨j, rfl, hj, rfl, hbr⟩ := hrel
    have HBR := Lib.hid hbr
    have r0 := row_below hbr RL1.out (Array.getElem?_eq_some_iff.1 RL1.out).1
    have hltw : w.heap.size < wr.heap.size := (Array.getElem?_eq_some_iff.1 r0).1
    by_cases hj8 : j < 8
    · have q0 : wr.cell? ⟨w.heap.size, 0, none⟩ = some (.slice A l.long.length c) := cell_row' (i := 0) r0 rfl
      have q1 : wr.cell? ⟨w.heap.size, 1, none⟩ = some (.int .i64 l.size) := cell_row' (i := 1) r0 rfl
      have q2 : wr.cell? ⟨w.heap.size, 2, none⟩ = some (.slice (some b) l.knots.length d) := cell_row' (i := 2) r0 rfl
      go_upto_region 6 with (fail)
      obtain ⟨V, hV⟩ : ∃ V, V = wr.alloc (.cells #[.slice A l.long.length c, .int .i64 l.size, .slice (some b) l.knots.length d] 25) := ⟨_, rfl⟩
      rw [← hV]
      have hbV : Below wr.heap.size wr V := by rw [hV]; exact (Below.refl _ _).alloc (Nat.le_refl _) _
      have rx : V.heap[wr.heap.size]? = some (.cells #[.slice A l.long.length c, .int .i64 l.size, .slice (some b) l.knots.length d] 25 (0, 0)) := by rw [hV]; (repeat (first | with_reducible assumption | with_reducible exact row_new | with_reducible refine row_drew ?_ | with_reducible apply row_same | with_reducible refine row_diff ?_ (by first | omega | (simp only [World.size_alloc, size_setRow, size_drew', World.size_setCell]; omega)) | with_reducible refine row_far ?_ (by (try dsimp only); first | omega | (simp only [World.size_alloc, size_setRow, size_drew', World.size_setCell]; omega)) | with_reducible refine row_new' (by first | (simp only [World.size_alloc, size_setRow, size_drew', World.size_setCell]; done) | omega | (simp only [World.size_alloc, size_setRow, size_drew', World.size_setCell]; omega)) | with_reducible refine row_old ?_ | with_reducible refine row_below (by assumption) ?_ (by first | omega | (simp only [World.size_alloc, size_setRow, size_drew', World.size_setCell]; omega))))
      have zV : V.heap.size = wr.heap.size + 1 := by rw [hV]; simp
      have p2 : V.cell? ⟨w.heap.size, 2, none⟩ = some (.slice (some b) l.knots.length d) := cell_below hbV q2
      have hraw : RawAt V l A (some b) c d := (H1.out.below hbr).below hbV
      have HRAW := Lib.hid hraw
      have HENDS := Lib.hid ((HE1.out.below hbr).below hbV)
      have HBV := Lib.hid (bb HBR.out hbV)
      have HVV := Lib.hid hbV
      have RX := Lib.hid rx
      have R0 := Lib.hid (row_below hbV r0 hltw)
      clear hV hbV q0 q1 q2 hbr r0
      obtain ⟨i1, hi1, hz10, hz11, hz12⟩ := info_parts infoKnot
      have hundK := Tryd.underlying23
      have hown0 : (V.alloc (.cells #[] 61)).ownsRow V.heap.size 61 4 (.slice (some ⟨V.heap.size, 0, none⟩) 0 0) 0 [] := ⟨rfl, .inr ⟨V.heap.size, 0, #[], rfl, Nat.le_refl _, row_new, Nat.le_refl _, by simp [maxLen], rfl, rfl⟩⟩
      have hnews : ∀ (i : Nat) (u : Value), (cellsOf l.knots)[i]? = some u → (V.alloc (.cells #[] 61)).cell? (b.add i) = some u := fun i u hu => cell_old (cells_at hraw i u hu)
      have hz1 : w.heap.size < V.heap.size := by omega
      have hz2 : wr.heap.size < V.heap.size := by omega
      have HZ := Lib.hid zV
      clear hraw rx zV
      go_wp2_with (at_builtin; go_loud (refine wpList_append_own _ rfl _ _ 23 rfl V.heap.size 61 i1 _ 4 32 hundK hi1 hz10 hz11 hz12 rfl (by decide) _ 0 [] rfl hown0 b l.knots.length d (cellsOf l.knots) rfl (by rw [cellsOf_len]) hnews (cellsOf_one _) (by simp [maxLen]; omega) (by omega) (by simp) ?_; intro v2 w5 hown2 hgr2 hnil2; obtain ⟨g, cap, cur, rfl, hg0, hgrow, hncap, hcapm, hcursz, htake⟩ := own_shape hown2 (Nat.zero_add _) (Nat.lt_of_le_of_lt (Nat.zero_le _) hlt); have hg5 : ∀ bb, bb < V.heap.size → w5.heap[bb]? = V.heap[bb]? := (fun bb hb => (hgr2.block bb (by simp; omega) (fun e => by have := hown0.lt bb e.symm; omega)).trans (((Below.refl _ V).alloc (Nat.le_refl _) _).block bb hb)); have c5 : w5.cell? ⟨wr.heap.size, 2, none⟩ = some (.slice (some b) l.knots.length d) := cell_row' (i := 2) ((hg5 _ (by have := HZ.out; omega)).trans RX.out) rfl; have f5 : w5.frozen? ⟨wr.heap.size, 2, none⟩ = false := frozen_of_row _ _ 2 _ _ ((hg5 _ (by have := HZ.out; omega)).trans RX.out)))
      obtain ⟨w6, hw6⟩ : ∃ w6, w6 = w5.setCell ⟨wr.heap.size, 2, none⟩ (.slice (some ⟨g, 0, none⟩) l.knots.length cap) := ⟨_, rfl⟩
      rw [← hw6]
      have hzz := HZ.out
      have hb5 : Below V.heap.size V w5 := ⟨hgr2.os, hgr2.tape, hgr2.output, Nat.le_trans (by simp) hgr2.size, hg5⟩
      have hb6 : Below wr.heap.size wr w6 := by rw [hw6]; exact (bb HVV.out hb5).setCell (Nat.le_refl _) _
      have ry6 : w6.heap[wr.heap.size]? = some (.cells #[.slice A l.long.length c, .int .i64 l.size, .slice (some ⟨g, 0, none⟩) l.knots.length cap] 25 (0, 0)) := by rw [hw6]; exact blk_set (row_below hb5 RX.out (by omega)) 2 _
      have hg6 : w6.heap[g]? = some (.cells cur 61 (0, 0)) := by rw [hw6]; exact (heap_put (by dsimp only; omega)).trans hgrow
      have r06 : w6.heap[w.heap.size]? = some (.cells #[.slice A l.long.length c, .int .i64 l.size, .slice (some b) l.knots.length d] 25 (0, 0)) := by rw [hw6]; exact (heap_put (by dsimp only; omega)).trans (row_below hb5 R0.out (by omega))
      have hraw6 : RawAt w6 l A (some b) c d := (H1.out.below HBR.out).below hb6
      have hends6 : EndsAt w6 := (HE1.out.below HBR.out).below hb6
      obtain ⟨b', eb, e0, e1, e2, e3⟩ := hraw6.knots k x HKN.out
      cases eb
      have y2 : w6.cell? ⟨wr.heap.size, 2, none⟩ = some (.slice (some ⟨g, 0, none⟩) l.knots.length cap) := cell_row' (i := 2) ry6 rfl
      have p6 : w6.cell? ⟨w.heap.size, 2, none⟩ = some (.slice (some b) l.knots.length d) := cell_row' (i := 2) r06 rfl
      obtain ⟨xa, hxa⟩ : ∃ v, v = x.a.lo := ⟨_, rfl⟩
      obtain ⟨xb, hxb⟩ : ∃ v, v = x.a.hi := ⟨_, rfl⟩
      obtain ⟨xc, hxc⟩ : ∃ v, v = x.f.lo := ⟨_, rfl⟩
      obtain ⟨xd, hxd⟩ : ∃ v, v = x.f.hi := ⟨_, rfl⟩
      rw [← hxa] at e0
      rw [← hxb] at e1
      rw [← hxc] at e2
      rw [← hxd] at e3
      have m4 : (j : Int).tmod 4 = (j : Int) % 4 := Int.tmod_eq_emod_of_nonneg (by omega)
      have d4 : (j : Int).tdiv 4 = (j : Int) / 4 := Int.tdiv_eq_ediv_of_nonneg (by omega)
      have wm4 : IntKind.i64.wrap ((j : Int) % 4) = (j : Int) % 4 := IntWalk.i64_in _ (by omega)
      have wd4 : IntKind.i64.wrap ((j : Int) / 4) = (j : Int) / 4 := IntWalk.i64_in _ (by omega)
      have HSP := Lib.hid (show wspot x j = (xa + (j : Int) % 4 % (xb - xa + 1), xc + (j : Int) / 4 % (xd - xc + 1)) by rw [hxa, hxb, hxc, hxd]; rfl)
      have HTK := Lib.hid htake
      have HG6 := Lib.hid hg6
      have HB6 := Lib.hid hb6
      have HRAW6 := Lib.hid hraw6
      have HENDS6 := Lib.hid hends6
      have RY6 := Lib.hid ry6
      have R06 := Lib.hid r06
      have BDS := Lib.hid (And.intro (show 0 ≤ xa ∧ xa ≤ xb ∧ xb ≤ 23 by omega) (show 0 ≤ xc ∧ xc ≤ xd ∧ xd ≤ 1000 by omega))
      clear hw6 hnil2 hown2 hgr2 hg5 c5 f5 hb5 hb6 hraw6 hends6 ry6 r06 htake hgrow hown0 hnews hi1 hz10 hz11 hz12 hundK p2 hxa hxb hxc hxd a1 a2 a3 a4 b1 b2 b3 b4
      refine wp_region_noPanic ?_
      refine region_e (e := 25) (S := (fun w' => w'.cell? ⟨wr.heap.size, 2, none⟩ = some (.slice (some ⟨g, 0, none⟩) l.knots.length cap) ∧ w'.cell? ⟨w.heap.size, 2, none⟩ = some (.slice (some b) l.knots.length d) ∧ w'.cell? (b.add (k * 4)) = some (.int .i64 xa) ∧ w'.cell? ⟨(b.add (k * 4)).block, (b.add (k * 4)).off + 1, none⟩ = some (.int .i64 xb) ∧ w'.cell? ⟨(b.add (k * 4)).block, (b.add (k * 4)).off + 2, none⟩ = some (.int .i64 xc) ∧ w'.cell? ⟨(b.add (k * 4)).block, (b.add (k * 4)).off + 3, none⟩ = some (.int .i64 xd) ∧ w'.heap[g]? = some (.cells cur 61 (0, 0)))) (by kernel_rfl) ⟨y2, p6, e0, e1, e2, e3, hg6⟩ (fun hHeld => ?_)
      clear y2 p6 e0 e1 e2 e3 hg6
      refine e_take 0 23 (.pointer (some ⟨wr.heap.size, 2, none⟩)) rfl rfl (by kernel_rfl) (by kernel_rfl) (by kernel_rfl) (by kernel_rfl) (fun _ _ _ h => h) (Or.inl ⟨by rfl, fun w hw => by dsimp only at hw; obtain ⟨h0, h1, h2, h3, h4, h5, h6⟩ := hw; go_simp⟩) hHeld ?_
      simp only [List.setIfInBounds_toArray, List.set_cons_zero, List.set_cons_succ]
      refine e_take 1 24 (.slice (some ⟨g, 0, none⟩) l.knots.length cap) rfl rfl (by kernel_rfl) (by kernel_rfl) (by kernel_rfl) (by kernel_rfl) (fun _ _ _ h => h) (Or.inl ⟨by rfl, fun w hw => by dsimp only at hw; obtain ⟨h0, h1, h2, h3, h4, h5, h6⟩ := hw; go_simp⟩) hHeld ?_
      simp only [List.setIfInBounds_toArray, List.set_cons_zero, List.set_cons_succ]
      refine e_take 2 25 (.int .i64 k) rfl rfl (by kernel_rfl) (by kernel_rfl) (by kernel_rfl) (by kernel_rfl) (fun _ _ _ h => h) (Or.inl ⟨by rfl, fun w hw => by dsimp only at hw; obtain ⟨h0, h1, h2, h3, h4, h5, h6⟩ := hw; go_simp⟩) hHeld ?_
      simp only [List.setIfInBounds_toArray, List.set_cons_zero, List.set_cons_succ]
      refine e_take 3 26 (.pointer (some ⟨w.heap.size, 2, none⟩)) rfl rfl (by kernel_rfl) (by kernel_rfl) (by kernel_rfl) (by kernel_rfl) (fun _ _ _ h => h) (Or.inl ⟨by rfl, fun w hw => by dsimp only at hw; obtain ⟨h0, h1, h2, h3, h4, h5, h6⟩ := hw; go_simp⟩) hHeld ?_
      simp only [List.setIfInBounds_toArray, List.set_cons_zero, List.set_cons_succ]
      refine e_take 4 27 (.slice (some b) l.knots.length d) rfl rfl (by kernel_rfl) (by kernel_rfl) (by kernel_rfl) (by kernel_rfl) (fun _ _ _ h => h) (Or.inl ⟨by rfl, fun w hw => by dsimp only at hw; obtain ⟨h0, h1, h2, h3, h4, h5, h6⟩ := hw; go_simp⟩) hHeld ?_
      simp only [List.setIfInBounds_toArray, List.set_cons_zero, List.set_cons_succ]
      refine e_take 5 28 (.int .i64 k) rfl rfl (by kernel_rfl) (by kernel_rfl) (by kernel_rfl) (by kernel_rfl) (fun _ _ _ h => h) (Or.inl ⟨by rfl, fun w hw => by dsimp only at hw; obtain ⟨h0, h1, h2, h3, h4, h5, h6⟩ := hw; go_simp⟩) hHeld ?_
      simp only [List.setIfInBounds_toArray, List.set_cons_zero, List.set_cons_succ]
      refine e_take 6 29 (.pointer (some (b.add (k * 4)))) rfl rfl (by kernel_rfl) (by kernel_rfl) (by kernel_rfl) (by kernel_rfl) (fun _ _ _ h => h) (Or.inl ⟨by rfl, fun w hw => by dsimp only at hw; obtain ⟨h0, h1, h2, h3, h4, h5, h6⟩ := hw; go_simp⟩) hHeld ?_
      simp only [List.setIfInBounds_toArray, List.set_cons_zero, List.set_cons_succ]
      refine e_take 7 30 (.pointer (some (b.add (k * 4)))) rfl rfl (by kernel_rfl) (by kernel_rfl) (by kernel_rfl) (by kernel_rfl) (fun _ _ _ h => h) (Or.inl ⟨by rfl, fun w hw => by dsimp only at hw; obtain ⟨h0, h1, h2, h3, h4, h5, h6⟩ := hw; go_simp⟩) hHeld ?_
      simp only [List.setIfInBounds_toArray, List.set_cons_zero, List.set_cons_succ]
      refine e_take 8 31 (.agg #[.int .i64 xa, .int .i64 xb]) rfl rfl (by kernel_rfl) (by kernel_rfl) (by kernel_rfl) (by kernel_rfl) (fun _ _ _ h => h) (Or.inl ⟨by rfl, fun w hw => by dsimp only at hw; obtain ⟨h0, h1, h2, h3, h4, h5, h6⟩ := hw; go_simp⟩) hHeld ?_
      simp only [List.setIfInBounds_toArray, List.set_cons_zero, List.set_cons_succ]
      refine e_take 9 32 (.int .i64 j) rfl rfl (by kernel_rfl) (by kernel_rfl) (by kernel_rfl) (by kernel_rfl) (fun _ _ _ h => h) (Or.inl ⟨by rfl, fun w hw => by dsimp only at hw; obtain ⟨h0, h1, h2, h3, h4, h5, h6⟩ := hw; go_simp⟩) hHeld ?_
      simp only [List.setIfInBounds_toArray, List.set_cons_zero, List.set_cons_succ]
      refine e_take 10 33 (.int .i64 ((j : Int) % 4)) rfl rfl (by kernel_rfl) (by kernel_rfl) (by kernel_rfl) (by kernel_rfl) (fun _ _ _ h => h) (Or.inl ⟨by rfl, fun w hw => by dsimp only at hw; obtain ⟨h0, h1, h2, h3, h4, h5, h6⟩ := hw; go_simp⟩) hHeld ?_
      simp only [List.setIfInBounds_toArray, List.set_cons_zero, List.set_cons_succ]
      refine e_take 13 36 (.pointer (some ⟨w.heap.size, 2, none⟩)) rfl rfl (by kernel_rfl) (by kernel_rfl) (by kernel_rfl) (by kernel_rfl) (fun _ _ _ h => h) (Or.inl ⟨by rfl, fun w hw => by dsimp only at hw; obtain ⟨h0, h1, h2, h3, h4, h5, h6⟩ := hw; go_simp⟩) hHeld ?_
      simp only [List.setIfInBounds_toArray, List.set_cons_zero, List.set_cons_succ]
      refine e_take 14 37 (.slice (some b) l.knots.length d) rfl rfl (by kernel_rfl) (by kernel_rfl) (by kernel_rfl) (by kernel_rfl) (fun _ _ _ h => h) (Or.inl ⟨by rfl, fun w hw => by dsimp only at hw; obtain ⟨h0, h1, h2, h3, h4, h5, h6⟩ := hw; go_simp⟩) hHeld ?_
      simp only [List.setIfInBounds_toArray, List.set_cons_zero, List.set_cons_succ]
      refine e_take 15 38 (.int .i64 k) rfl rfl (by kernel_rfl) (by kernel_rfl) (by kernel_rfl) (by kernel_rfl) (fun _ _ _ h => h) (Or.inl ⟨by rfl, fun w hw => by dsimp only at hw; obtain ⟨h0, h1, h2, h3, h4, h5, h6⟩ := hw; go_simp⟩) hHeld ?_
      simp only [List.setIfInBounds_toArray, List.set_cons_zero, List.set_cons_succ]
      refine e_take 16 39 (.pointer (some (b.add (k * 4)))) rfl rfl (by kernel_rfl) (by kernel_rfl) (by kernel_rfl) (by kernel_rfl) (fun _ _ _ h => h) (Or.inl ⟨by rfl, fun w hw => by dsimp only at hw; obtain ⟨h0, h1, h2, h3, h4, h5, h6⟩ := hw; go_simp⟩) hHeld ?_
      simp only [List.setIfInBounds_toArray, List.set_cons_zero, List.set_cons_succ]
      refine e_take 17 40 (.pointer (some ⟨(b.add (k * 4)).block, (b.add (k * 4)).off + 2, none⟩)) rfl rfl (by kernel_rfl) (by kernel_rfl) (by kernel_rfl) (by kernel_rfl) (fun _ _ _ h => h) (Or.inl ⟨by rfl, fun w hw => by dsimp only at hw; obtain ⟨h0, h1, h2, h3, h4, h5, h6⟩ := hw; go_simp⟩) hHeld ?_
      simp only [List.setIfInBounds_toArray, List.set_cons_zero, List.set_cons_succ]
      refine e_take 18 41 (.agg #[.int .i64 xc, .int .i64 xd]) rfl rfl (by kernel_rfl) (by kernel_rfl) (by kernel_rfl) (by kernel_rfl) (fun _ _ _ h => h) (Or.inl ⟨by rfl, fun w hw => by dsimp only at hw; obtain ⟨h0, h1, h2, h3, h4, h5, h6⟩ := hw; go_simp⟩) hHeld ?_
      simp only [List.setIfInBounds_toArray, List.set_cons_zero, List.set_cons_succ]
      refine e_take 19 42 (.int .i64 j) rfl rfl (by kernel_rfl) (by kernel_rfl) (by kernel_rfl) (by kernel_rfl) (fun _ _ _ h => h) (Or.inl ⟨by rfl, fun w hw => by dsimp only at hw; obtain ⟨h0, h1, h2, h3, h4, h5, h6⟩ := hw; go_simp⟩) hHeld ?_
      simp only [List.setIfInBounds_toArray, List.set_cons_zero, List.set_cons_succ]
      refine e_take 20 43 (.int .i64 ((j : Int) / 4)) rfl rfl (by kernel_rfl) (by kernel_rfl) (by kernel_rfl) (by kernel_rfl) (fun _ _ _ h => h) (Or.inl ⟨by rfl, fun w hw => by dsimp only at hw; obtain ⟨h0, h1, h2, h3, h4, h5, h6⟩ := hw; go_simp⟩) hHeld ?_
      simp only [List.setIfInBounds_toArray, List.set_cons_zero, List.set_cons_succ]
      have HKEEP := Lib.hid (show ∀ (u v : World), Below u.heap.size u v → ((fun w' => w'.cell? ⟨wr.heap.size, 2, none⟩ = some (.slice (some ⟨g, 0, none⟩) l.knots.length cap) ∧ w'.cell? ⟨w.heap.size, 2, none⟩ = some (.slice (some b) l.knots.length d) ∧ w'.cell? (b.add (k * 4)) = some (.int .i64 xa) ∧ w'.cell? ⟨(b.add (k * 4)).block, (b.add (k * 4)).off + 1, none⟩ = some (.int .i64 xb) ∧ w'.cell? ⟨(b.add (k * 4)).block, (b.add (k * 4)).off + 2, none⟩ = some (.int .i64 xc) ∧ w'.cell? ⟨(b.add (k * 4)).block, (b.add (k * 4)).off + 3, none⟩ = some (.int .i64 xd) ∧ w'.heap[g]? = some (.cells cur 61 (0, 0)))) u → ((fun w' => w'.cell? ⟨wr.heap.size, 2, none⟩ = some (.slice (some ⟨g, 0, none⟩) l.knots.length cap) ∧ w'.cell? ⟨w.heap.size, 2, none⟩ = some (.slice (some b) l.knots.length d) ∧ w'.cell? (b.add (k * 4)) = some (.int .i64 xa) ∧ w'.cell? ⟨(b.add (k * 4)).block, (b.add (k * 4)).off + 1, none⟩ = some (.int .i64 xb) ∧ w'.cell? ⟨(b.add (k * 4)).block, (b.add (k * 4)).off + 2, none⟩ = some (.int .i64 xc) ∧ w'.cell? ⟨(b.add (k * 4)).block, (b.add (k * 4)).off + 3, none⟩ = some (.int .i64 xd) ∧ w'.heap[g]? = some (.cells cur 61 (0, 0)))) v from fun u v hb h => ⟨cell_below hb h.1, cell_below hb h.2.1, cell_below hb h.2.2.1, cell_below hb h.2.2.2.1, cell_below hb h.2.2.2.2.1, cell_below hb h.2.2.2.2.2.1, row_below hb h.2.2.2.2.2.2 (Array.getElem?_eq_some_iff.1 h.2.2.2.2.2.2).1⟩)
      have HBX6 := Lib.hid ((Below.refl w6.heap.size w6).drew)
      refine wpAnyE_ready (rs := [11]) (by kernel_rfl) (by simp) ?_
      refine AllReadyE.cons rfl (fun K hK => ?_) AllReadyE.nil
      go_simp
      refine (drawn_pos xa xb ((j : Int) % 4) _ (by omega) BDS.out.1.2.1 BDS.out.1.1 (by have := BDS.out; omega)).mono ?_
      rintro e w7 ⟨rfl, hb7⟩
      dsimp only
      have hH7 := HKEEP.out _ _ hb7 hHeld
      have HBX7 := Lib.hid (bb HBX6.out hb7)
      refine hK.out _ _ (fun _ => hH7) (fun _ => ?_)
      clear hK hb7
      try simp only [Act.put, List.setIfInBounds_toArray, List.set_cons_zero, List.set_cons_succ]
      obtain ⟨s1, hs1⟩ : ∃ s1, s1 = xa + (j : Int) % 4 % (xb - xa + 1) := ⟨_, rfl⟩
      rw [← hs1]
      have HS1 := Lib.hid hs1
      clear hs1
      refine wpAnyE_ready (rs := [12]) (by kernel_rfl) (by simp) ?_
      refine AllReadyE.cons rfl (fun K hK => ?_) AllReadyE.nil
      go_simp
      refine (only_any s1 _).mono ?_
      rintro e w8 ⟨rfl, hb8⟩
      dsimp only
      have hH8 := HKEEP.out _ _ hb8 hH7
      have HBX8 := Lib.hid (bb HBX7.out hb8)
      refine hK.out _ _ (fun _ => hH8) (fun _ => ?_)
      clear hK hb8
      try simp only [Act.put, List.setIfInBounds_toArray, List.set_cons_zero, List.set_cons_succ]
      refine wpAnyE_ready (rs := [21]) (by kernel_rfl) (by simp) ?_
      refine AllReadyE.cons rfl (fun K hK => ?_) AllReadyE.nil
      go_simp
      refine (drawn_pos xc xd ((j : Int) / 4) _ (by omega) BDS.out.2.2.1 BDS.out.2.1 (by have := BDS.out; omega)).mono ?_
      rintro e w9 ⟨rfl, hb9⟩
      dsimp only
      have hH9 := HKEEP.out _ _ hb9 hH8
      have HBX9 := Lib.hid (bb HBX8.out hb9)
      refine hK.out _ _ (fun _ => hH9) (fun _ => ?_)
      clear hK hb9
      try simp only [Act.put, List.setIfInBounds_toArray, List.set_cons_zero, List.set_cons_succ]
      obtain ⟨s2, hs2⟩ : ∃ s2, s2 = xc + (j : Int) / 4 % (xd - xc + 1) := ⟨_, rfl⟩
      rw [← hs2]
      have HS2 := Lib.hid hs2
      clear hs2
      refine wpAnyE_ready (rs := [22]) (by kernel_rfl) (by simp) ?_
      refine AllReadyE.cons rfl (fun K hK => ?_) AllReadyE.nil
      go_simp
      refine (only_any s2 _).mono ?_
      rintro e w10 ⟨rfl, hb10⟩
      dsimp only
      have hH10 := HKEEP.out _ _ hb10 hH9
      have HBX10 := Lib.hid (bb HBX9.out hb10)
      refine hK.out _ _ (fun _ => hH10) (fun _ => ?_)
      clear hK hb10
      try simp only [Act.put, List.setIfInBounds_toArray, List.set_cons_zero, List.set_cons_succ]
      refine e_take 23 46 (.agg #[.int .i64 s1, .int .i64 s1, .int .i64 s2, .int .i64 s2]) rfl rfl (by kernel_rfl) (by kernel_rfl) (by kernel_rfl) (by kernel_rfl) (fun _ _ _ h => h) (Or.inl ⟨by rfl, fun w hw => by dsimp only at hw; obtain ⟨h0, h1, h2, h3, h4, h5, h6⟩ := hw; go_simp⟩) hH10 ?_
      simp only [List.setIfInBounds_toArray, List.set_cons_zero, List.set_cons_succ]
      refine e_take 24 47 (.pointer (some ⟨g, k * 4, none⟩)) rfl rfl (by kernel_rfl) (by kernel_rfl) (by kernel_rfl) (by kernel_rfl) (fun _ _ _ h => h) (Or.inl ⟨by rfl, fun w hw => by dsimp only at hw; obtain ⟨h0, h1, h2, h3, h4, h5, h6⟩ := hw; go_simp⟩) hH10 ?_
      simp only [List.setIfInBounds_toArray, List.set_cons_zero, List.set_cons_succ]
      have hg10 := hH10.2.2.2.2.2.2
      have hsz10 : k * 4 + 3 < cur.size := by rw [hcursz]; omega
      have gc : ∀ i, i < 4 → ∃ u, w10.cell? ⟨g, k * 4 + i, none⟩ = some u := fun i hi => ⟨cur[k * 4 + i]'(by omega), cell_row' hg10 (Array.getElem?_eq_getElem (by omega))⟩
      obtain ⟨u0, g0⟩ := gc 0 (by omega)
      obtain ⟨u1, g1⟩ := gc 1 (by omega)
      obtain ⟨u2, g2⟩ := gc 2 (by omega)
      obtain ⟨u3, g3⟩ := gc 3 (by omega)
      have g0 : w10.cell? ⟨g, k * 4, none⟩ = some u0 := g0
      have fg : ∀ i, w10.frozen? ⟨g, i, none⟩ = false := fun i => frozen_of_row _ _ i _ _ hg10
      clear gc hH7 hH8 hH9
      refine wpAnyE_ready (rs := [25]) (by kernel_rfl) (by simp) ?_
      refine AllReadyE.cons rfl (fun K hK => ?_) AllReadyE.nil
      go_simp
      refine hK.out _ _ (fun h => absurd rfl h) (fun _ => ?_)
      clear hK
      try simp only [Act.put, List.setIfInBounds_toArray, List.set_cons_zero, List.set_cons_succ]
      refine wpAnyE_done (by kernel_rfl) ?_ _
      refine NoPanic.normal ?_
      obtain ⟨w11, hw11⟩ : ∃ w11, w11 = (((w10.setCell ⟨g, k * 4, none⟩ (.int .i64 s1)).setCell ⟨g, k * 4 + 1, none⟩ (.int .i64 s1)).setCell ⟨g, k * 4 + 2, none⟩ (.int .i64 s2)).setCell ⟨g, k * 4 + 3, none⟩ (.int .i64 s2) := ⟨_, rfl⟩
      have hb10 : Below wr.heap.size wr w10 := bb HB6.out HBX10.out
      have ry10 := row_below HBX10.out RY6.out (Array.getElem?_eq_some_iff.1 RY6.out).1
      have hgg : wr.heap.size < g := by have := HZ.out; omega
      have hg11 : w11.heap[g]? = some (.cells ((((cur.setIfInBounds (k * 4) (.int .i64 s1)).setIfInBounds (k * 4 + 1) (.int .i64 s1)).setIfInBounds (k * 4 + 2) (.int .i64 s2)).setIfInBounds (k * 4 + 3) (.int .i64 s2)) 61 (0, 0)) := by
        rw [hw11]; exact blk_set (blk_set (blk_set (blk_set hg10 _ _) _ _) _ _) _ _
      have hb11 : Below wr.heap.size wr w11 := by
        rw [hw11]
        exact (((hb10.setCell (p := ⟨g, k * 4, none⟩) (by dsimp only; omega) _).setCell (p := ⟨g, k * 4 + 1, none⟩) (by dsimp only; omega) _).setCell (p := ⟨g, k * 4 + 2, none⟩) (by dsimp only; omega) _).setCell (p := ⟨g, k * 4 + 3, none⟩) (by dsimp only; omega) _
      have ry11 : w11.heap[wr.heap.size]? = some (.cells #[.slice A l.long.length c, .int .i64 l.size, .slice (some ⟨g, 0, none⟩) l.knots.length cap] 25 (0, 0)) := by
        rw [hw11, heap_put (by dsimp only; omega), heap_put (by dsimp only; omega), heap_put (by dsimp only; omega), heap_put (by dsimp only; omega)]
        exact ry10
      rw [← hw11]
      have hlen' : (l.found k (s1, s2)).knots.length = l.knots.length := by unfold PL.found; simp
      have hsp : wspot x j = (s1, s2) := by rw [HSP.out, HS1.out, HS2.out]
      have hxok := HOK.out.knots x (List.mem_of_getElem? HKN.out)
      obtain ⟨i, hi⟩ := List.getElem?_of_mem (wspot_in hxok j)
      rw [hsp] at hi
      have ok' := found_ok HOK.out HKN.out hi
      have hraw11 : RawAt w11 (l.found k (s1, s2)) A (some ⟨g, 0, none⟩) c cap := by
        have h11 := (H1.out.below HBR.out).below hb11
        refine ⟨h11.long, fun q y hy => ⟨_, rfl, ?_⟩, h11.c, by rw [hlen']; exact hncap, h11.n, by rw [hlen']; exact h11.m⟩
        obtain ⟨e0, e1, e2, e3⟩ := set4_at (show cur.toList.take (l.knots.length * 4) = cellsOf l.knots from HTK.out) k q s1 s2 y hsz10 hy
        simp only [Addr.add_lit, Nat.zero_add]
        exact ⟨cell_row' hg11 e0, cell_row' hg11 e1, cell_row' hg11 e2, cell_row' hg11 e3⟩
      have hends11 : EndsAt w11 := (HE1.out.below HBR.out).below hb11
      have y0 : w11.cell? ⟨wr.heap.size, 0, none⟩ = some (.slice A l.long.length c) := cell_row' (i := 0) ry11 rfl
      have y1 : w11.cell? ⟨wr.heap.size, 1, none⟩ = some (.int .i64 l.size) := cell_row' (i := 1) ry11 rfl
      have y2 : w11.cell? ⟨wr.heap.size, 2, none⟩ = some (.slice (some ⟨g, 0, none⟩) l.knots.length cap) := cell_row' (i := 2) ry11 rfl
      have hc := best_any hraw11 hends11
      rw [show bestS (l.found k (s1, s2)) = ((l.found k (s1, s2)).cut (l.found k (s1, s2)).possible, 0) from if_pos ok', hlen'] at hc
      change Calls _ _ #[.agg #[.slice A l.long.length c, .int .i64 l.size, .slice (some ⟨g, 0, none⟩) l.knots.length cap]] _ _ at hc
      obtain ⟨N, hN⟩ : ∃ N : Nat, N = ((l.found k (s1, s2)).cut (l.found k (s1, s2)).possible).length := ⟨_, rfl⟩
      rw [← hN] at hc
      have HN := Lib.hid (show worstUpto l k x (j + 1) = min (worstUpto l k x j) (N : Int) by rw [worstUpto_succ, hsp, hN]; rfl)
      have HC := Lib.hid hc
      have HB11 := Lib.hid hb11
      have hw1 : w.heap.size < w11.heap.size := Nat.lt_of_lt_of_le hltw hb11.size
      obtain ⟨U, hU⟩ : ∃ U, U = worstUpto l k x j := ⟨_, rfl⟩
      rw [← hU] at HN ⊢
      clear hc hN hw11 hg11 hb11 ry11 hraw11 hends11 ok' hi hsp hb10 ry10 hg10 g0 g1 g2 g3 fg hHeld hH10 hU
      go_wp2_with fail
      refine HC.out.mono ?_
      rintro e w12 ⟨ao, rfl, hb12, hcut⟩
      have HB12 := Lib.hid (bb HB11.out hb12)
      clear hb12 hcut y0 y1 y2
      go_wp2_with fail
      all_goals go_roundw
      case rel => exact ⟨j + 1, by go_num, by omega, by rw [HN.out]; congr 1; omega, bb HBR.out HB12.out⟩
      case measure => simp [intOf]; omega
    · obtain rfl : j = 8 := by omega
      go_wp2_with fail
      go_ret
      exact ⟨rfl, bb HB1.out HBR.out⟩
end Go.Proofs.YtigofgdmefobaaaDoor.Peel
