import Derived.Test.YtofpdjpenmhbnaaC1
set_option linter.unusedVariables false
set_option linter.unusedSimpArgs false
set_option linter.unusedSectionVars false
namespace Go.Proofs.Ytofpdjpenmhbnaa
open Go Go.Kx
theorem hb28 : HasBody Try.prog 28 := hasBody Try.func28 (by kernel_rfl) (by kernel_rfl)
theorem rWordT_calls (w : World) (s : ByteArray) (hsz : s.size ≤ 140737488355232) (h : wordB s = true) : Cl Try.prog 30 [.string s].toArray w (Ret w (.bool true)) := by
  have hc := rWord_calls w s hsz
  rwa [h] at hc

set_option maxHeartbeats 4000000 in
theorem soficTells_calls (w : World) (vl : Value) (ps : List (Int × Int)) (j : Bool) (hl : SlAt w 2 vl ps.length (prs ps)) :
    Cl Try.prog 5 [vl, .bool j].toArray w (Ret w (.bool true)) := by
  have hm : Mem w [] [] w := Mem.init w
  refine cl_enter Try.func5 rfl Try.ntmps5 rfl ?_
  refine wc_seq ?_
  refine wc_region ?_
  refine wl_y (y_assign (by conv => lhs; whnf)) ?_
  refine wl_nil ?_
  refine then_normal ?_
  refine wc_seq ?_
  refine wc_region ?_
  refine wl_y (y_move (by conv => lhs; whnf)) ?_
  refine wl_y (y_move (by conv => lhs; whnf)) ?_
  refine wl_callM hm hb14 (tame_calls _ _ ps j (hl.step hm.upd)) rfl rfl (fun W v14 E hm hu hE => ?_)
  obtain ⟨qs, hTqs, rfl⟩ := hE
  have hokqs := hTqs.1
  have hl1qs := hokqs.1
  refine wl_y (y_assign (by conv => lhs; whnf)) ?_
  refine wl_nil ?_
  refine then_normal ?_
  refine wc_seq ?_
  refine wc_region ?_
  refine wl_y (y_move (by conv => lhs; whnf)) ?_
  refine wl_call hb19 (rForm_calls _ _ qs (hm.slAt 0 rfl) hokqs.okf) rfl rfl (fun e W h => ?_)
  obtain ⟨v16, rfl, hv16⟩ := h
  refine ⟨_, rfl, ?_⟩
  have hm := hm.call hv16
  refine wl_y (y_assign (by conv => lhs; whnf)) ?_
  refine wl_nil ?_
  refine then_normal ?_
  refine wc_seq ?_
  refine wc_region ?_
  refine wl_y (y_move (by conv => lhs; whnf)) ?_
  refine wl_callR hm hb27 (Tells_yes _ _ qs (hm.slAt 0 rfl) hokqs) rfl rfl (fun W hm hu => ?_)
  refine wl_y (y_move (by conv => lhs; whnf)) ?_
  refine wl_y (y_extract rfl rfl) ?_
  refine wl_y (y_extract rfl rfl) ?_
  refine wl_y (y_extract rfl rfl) ?_
  refine wl_y (y_assign (by conv => lhs; whnf)) ?_
  refine wl_y (y_assign (by conv => lhs; whnf)) ?_
  refine wl_y (y_assign (by conv => lhs; whnf)) ?_
  refine wl_nil ?_
  refine then_normal ?_
  refine wc_seq ?_
  refine wc_region ?_
  have hf1 : 1 ≤ (formLV qs).length := (formLV_net hokqs).1.1
  have hfo := formLV_okf hokqs
  obtain ⟨g1, g2, g3⟩ := tells hokqs
  refine wl_y (y_move (by conv => lhs; whnf)) ?_
  refine wl_callR hm hb28 (rTells_calls _ _ (formLV qs) (hm.slAt 1 rfl) hfo hf1) rfl rfl (fun W hm hu => ?_)
  refine wl_y (y_assign (by conv => lhs; whnf)) ?_
  refine wl_nil ?_
  refine then_normal ?_
  refine wc_seq ?_
  refine wc_seq ?_
  refine wc_region ?_
  refine wl_y (y_move (by conv => lhs; whnf)) ?_
  refine wl_y (y_neq rfl rfl) ?_
  refine wl_split rfl (fun h1 => ?_) (fun h1 => ?_)
  · exact absurd rfl h1
  · skip
    refine wl_guard_yes rfl ?_
    refine wl_y (y_move (by conv => lhs; whnf)) ?_
    refine wl_guard_yes rfl ?_
    refine wl_y (y_move (by conv => lhs; whnf)) ?_
    refine wl_guard_yes rfl ?_
    refine wl_y (y_geq rfl rfl) ?_
    refine wl_guard_yes rfl ?_
    refine wl_y (y_neqB rfl rfl Try.underlying4) ?_
    refine wl_y (y_pick_false rfl (by conv => lhs; whnf)) ?_
    refine wl_split rfl (fun h2 => ?_) (fun h2 => ?_)
    · exact absurd g1 h2
    · skip
      refine wl_guard_yes rfl ?_
      refine wl_y (y_move (by conv => lhs; whnf)) ?_
      refine wl_guard_yes rfl ?_
      refine wl_y (y_not rfl) ?_
      refine wl_guard_yes rfl ?_
      refine wl_splitB rfl (fun h3 => ?_) (fun h3 => ?_)
      · have hw0 := g2 (by simpa using h3)
        refine wl_guard_yes rfl ?_
        refine wl_y (y_move (by conv => lhs; whnf)) ?_
        refine wl_guard_yes rfl ?_
        refine wl_y (y_lenStr (by conv => lhs; whnf) Try.underlying9) ?_
        refine wl_guard_yes rfl ?_
        refine wl_y (y_neq rfl rfl) ?_
        refine wl_guard_yes rfl ?_
        refine wl_y (y_pick_true rfl (by conv => lhs; whnf)) ?_
        refine wl_y (y_pick_false rfl (by conv => lhs; whnf)) ?_
        refine wl_nil ?_
        refine then_normal ?_
        refine wc_cond_dec rfl (fun h4 => ?_) (fun h4 => ?_)
        · exact absurd (by rw [hw0]; rfl) h4
        · skip
          refine wc_skip ?_
          refine then_normal ?_
          refine wc_seq ?_
          refine wc_seq ?_
          refine wc_region ?_
          refine wl_y (y_move (by conv => lhs; whnf)) ?_
          refine wl_nil ?_
          refine then_normal ?_
          refine wc_cond rfl (fun h5 => ?_) (fun h5 => ?_)
          · obtain ⟨g4, g5, g6, t, g7, g8, g9, g10⟩ := g3 h5
            refine wc_seq ?_
            refine wc_region ?_
            refine wl_y (y_move (by conv => lhs; whnf)) ?_
            refine wl_y (y_move (by conv => lhs; whnf)) ?_
            refine wl_callR hm hb29 (rEnds_calls _ _ (formLV qs) (tellsV qs).1 (hm.slAt 1 rfl) hfo (wordB_lets g5) (by omega)) rfl rfl (fun W hm hu => ?_)
            refine wl_y (y_assign (by conv => lhs; whnf)) ?_
            refine wl_nil ?_
            refine then_normal ?_
            refine wc_seq ?_
            refine wc_region ?_
            refine wl_y (y_move (by conv => lhs; whnf)) ?_
            refine wl_y (y_lenStr (by conv => lhs; whnf) Try.underlying9) ?_
            refine wl_y (y_move (by conv => lhs; whnf)) ?_
            refine wl_y (y_eql rfl rfl) ?_
            refine wl_split rfl (fun h6 => ?_) (fun h6 => ?_)
            · skip
              refine wl_guard_yes rfl ?_
              refine wl_y (y_move (by conv => lhs; whnf)) ?_
              refine wl_guard_yes rfl ?_
              refine wl_callR (v := .bool true) hm hb30 (rWordT_calls W (tellsV qs).1 (by omega) g5) rfl rfl (fun W hm hu => ?_)
              refine wl_y (y_pick_true rfl (by conv => lhs; whnf)) ?_
              refine wl_y (y_move (by conv => lhs; whnf)) ?_
              refine wl_guard_yes rfl ?_
              refine wl_y (y_move (by conv => lhs; whnf)) ?_
              refine wl_guard_yes rfl ?_
              refine wl_y (y_gtr rfl rfl) ?_
              refine wl_y (y_pick_true rfl (by conv => lhs; whnf)) ?_
              refine wl_split rfl (fun h7 => ?_) (fun h7 => ?_)
              · skip
                refine wl_guard_yes rfl ?_
                refine wl_y (y_move (by conv => lhs; whnf)) ?_
                refine wl_guard_yes rfl ?_
                refine wl_y (y_move (by conv => lhs; whnf)) ?_
                refine wl_guard_yes rfl ?_
                refine wl_y (y_sub64 rfl rfl (by omega)) ?_
                refine wl_guard_yes rfl ?_
                refine wl_y (y_and64 rfl rfl (by omega)) ?_
                refine wl_guard_yes rfl ?_
                refine wl_y (y_eql rfl rfl) ?_
                refine wl_y (y_pick_true rfl (by conv => lhs; whnf)) ?_
                refine wl_split rfl (fun h8 => ?_) (fun h8 => ?_)
                · skip
                  refine wl_guard_yes rfl ?_
                  refine wl_callR (v := .bool true) hm hb18 (awake_calls W) rfl rfl (fun W hm hu => ?_)
                  refine wl_y (y_pick_true rfl (by conv => lhs; whnf)) ?_
                  refine wl_y (y_assign (by conv => lhs; whnf)) ?_
                  refine wl_nil ?_
                  refine then_normal ?_
                  refine wc_ret ?_
                  refine then_ret ?_
                  refine post_ret (results_fr rfl) ?_
                  exact ⟨rfl, hm.upd⟩
                · exact absurd (by rw [g7, Int.toNat_natCast, show ((t : Nat) : Int) - 1 = ((t - 1 : Nat) : Int) by omega, Int.toNat_natCast, g10]; rfl) h8
              · exact absurd (by omega) h7
            · exact absurd g4 h6
          · skip
            refine wc_skip ?_
            refine then_normal ?_
            refine wc_seq ?_
            refine wc_region ?_
            refine wl_callR hm hb18 (awake_calls _) rfl rfl (fun W hm hu => ?_)
            refine wl_y (y_assign (by conv => lhs; whnf)) ?_
            refine wl_nil ?_
            refine then_normal ?_
            refine wc_ret ?_
            refine post_ret (results_fr rfl) ?_
            exact ⟨rfl, hm.upd⟩
      · skip
        refine wl_guard_no rfl ?_
        refine wl_guard_no rfl ?_
        refine wl_guard_no rfl ?_
        refine wl_guard_yes rfl ?_
        refine wl_y (y_pick_false rfl (by conv => lhs; whnf)) ?_
        refine wl_y (y_pick_false rfl (by conv => lhs; whnf)) ?_
        refine wl_nil ?_
        refine then_normal ?_
        refine wc_cond_false rfl ?_
        refine wc_skip ?_
        refine then_normal ?_
        refine wc_seq ?_
        refine wc_seq ?_
        refine wc_region ?_
        refine wl_y (y_move (by conv => lhs; whnf)) ?_
        refine wl_nil ?_
        refine then_normal ?_
        refine wc_cond rfl (fun h9 => ?_) (fun h9 => ?_)
        · obtain ⟨g4, g5, g6, t, g7, g8, g9, g10⟩ := g3 h9
          refine wc_seq ?_
          refine wc_region ?_
          refine wl_y (y_move (by conv => lhs; whnf)) ?_
          refine wl_y (y_move (by conv => lhs; whnf)) ?_
          refine wl_callR hm hb29 (rEnds_calls _ _ (formLV qs) (tellsV qs).1 (hm.slAt 1 rfl) hfo (wordB_lets g5) (by omega)) rfl rfl (fun W hm hu => ?_)
          refine wl_y (y_assign (by conv => lhs; whnf)) ?_
          refine wl_nil ?_
          refine then_normal ?_
          refine wc_seq ?_
          refine wc_region ?_
          refine wl_y (y_move (by conv => lhs; whnf)) ?_
          refine wl_y (y_lenStr (by conv => lhs; whnf) Try.underlying9) ?_
          refine wl_y (y_move (by conv => lhs; whnf)) ?_
          refine wl_y (y_eql rfl rfl) ?_
          refine wl_split rfl (fun h10 => ?_) (fun h10 => ?_)
          · skip
            refine wl_guard_yes rfl ?_
            refine wl_y (y_move (by conv => lhs; whnf)) ?_
            refine wl_guard_yes rfl ?_
            refine wl_callR (v := .bool true) hm hb30 (rWordT_calls W (tellsV qs).1 (by omega) g5) rfl rfl (fun W hm hu => ?_)
            refine wl_y (y_pick_true rfl (by conv => lhs; whnf)) ?_
            refine wl_y (y_move (by conv => lhs; whnf)) ?_
            refine wl_guard_yes rfl ?_
            refine wl_y (y_move (by conv => lhs; whnf)) ?_
            refine wl_guard_yes rfl ?_
            refine wl_y (y_gtr rfl rfl) ?_
            refine wl_y (y_pick_true rfl (by conv => lhs; whnf)) ?_
            refine wl_split rfl (fun h11 => ?_) (fun h11 => ?_)
            · skip
              refine wl_guard_yes rfl ?_
              refine wl_y (y_move (by conv => lhs; whnf)) ?_
              refine wl_guard_yes rfl ?_
              refine wl_y (y_move (by conv => lhs; whnf)) ?_
              refine wl_guard_yes rfl ?_
              refine wl_y (y_sub64 rfl rfl (by omega)) ?_
              refine wl_guard_yes rfl ?_
              refine wl_y (y_and64 rfl rfl (by omega)) ?_
              refine wl_guard_yes rfl ?_
              refine wl_y (y_eql rfl rfl) ?_
              refine wl_y (y_pick_true rfl (by conv => lhs; whnf)) ?_
              refine wl_split rfl (fun h12 => ?_) (fun h12 => ?_)
              · skip
                refine wl_guard_yes rfl ?_
                refine wl_callR (v := .bool true) hm hb18 (awake_calls W) rfl rfl (fun W hm hu => ?_)
                refine wl_y (y_pick_true rfl (by conv => lhs; whnf)) ?_
                refine wl_y (y_assign (by conv => lhs; whnf)) ?_
                refine wl_nil ?_
                refine then_normal ?_
                refine wc_ret ?_
                refine then_ret ?_
                refine post_ret (results_fr rfl) ?_
                exact ⟨rfl, hm.upd⟩
              · exact absurd (by rw [g7, Int.toNat_natCast, show ((t : Nat) : Int) - 1 = ((t - 1 : Nat) : Int) by omega, Int.toNat_natCast, g10]; rfl) h12
            · exact absurd (by omega) h11
          · exact absurd g4 h10
        · skip
          refine wc_skip ?_
          refine then_normal ?_
          refine wc_seq ?_
          refine wc_region ?_
          refine wl_callR hm hb18 (awake_calls _) rfl rfl (fun W hm hu => ?_)
          refine wl_y (y_assign (by conv => lhs; whnf)) ?_
          refine wl_nil ?_
          refine then_normal ?_
          refine wc_ret ?_
          refine post_ret (results_fr rfl) ?_
          exact ⟨rfl, hm.upd⟩
end Go.Proofs.Ytofpdjpenmhbnaa
