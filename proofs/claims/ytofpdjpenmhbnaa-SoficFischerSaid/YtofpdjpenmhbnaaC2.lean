import Derived.Test.YtofpdjpenmhbnaaC1
set_option linter.unusedVariables false
set_option linter.unusedSimpArgs false
set_option linter.unusedSectionVars false
namespace Go.Proofs.Ytofpdjpenmhbnaa
open Go Go.Kx

set_option maxHeartbeats 40000000 in
theorem soficFischer_calls (w : World) (vl : Value) (ps : List (Int × Int)) (z0 : Int) (hl : SlAt w 2 vl ps.length (prs ps)) (hwf : (Lit.int .i64 z0).wf = true) :
    Cl Try.prog 11 [vl, .int .i64 z0].toArray w (Ret w (.bool true)) := by
  have hm : Mem w [] [] w := Mem.init w
  refine cl_enter Try.func11 rfl Try.ntmps11 rfl ?_
  refine wc_seq ?_
  refine wc_region ?_
  refine wl_y (y_assign (by conv => lhs; whnf)) ?_
  refine wl_nil ?_
  refine then_normal ?_
  refine wc_seq ?_
  refine wc_region ?_
  refine wl_y (y_move (by conv => lhs; whnf)) ?_
  refine wl_callM hm hb14 (tame_calls _ _ ps true (hl.step hm.upd)) rfl rfl (fun W v28 E hm hu hE => ?_)
  obtain ⟨qs, hTqs, rfl⟩ := hE
  have hokqs := hTqs.1
  have hl1qs := hokqs.1
  refine wl_y (y_assign (by conv => lhs; whnf)) ?_
  refine wl_nil ?_
  refine then_normal ?_
  refine wc_seq ?_
  refine wc_region ?_
  refine wl_y (y_move (by conv => lhs; whnf)) ?_
  refine wl_y (y_lenSl rfl (hm.slAt 0 rfl) Try.underlying22) ?_
  refine wl_y (y_assign (by conv => lhs; whnf)) ?_
  refine wl_nil ?_
  refine then_normal ?_
  refine wc_seq ?_
  refine wc_region ?_
  have hnf := formLV_net hokqs
  have hff := form_form hokqs
  have hfl := formLV_len qs
  have hfk : formK (tabR qs) qs.length ≤ qs.length := rk_le _ _
  have hk1q := hokqs.1.1
  have hk5q := hokqs.1.2
  have hs1 := hom_same (formLV_hom hokqs) hokqs hnf
  have htl := tells_yes hokqs
  have htz := ((tells hokqs).2.2 htl).2.2.1
  refine wl_y (y_move (by conv => lhs; whnf)) ?_
  refine wl_callM hm hb31 (Form_yes _ _ qs (hm.slAt 0 rfl) hokqs) rfl rfl (fun W v33 E hm hu hE => ?_)
  obtain ⟨vs33, rfl, rfl⟩ := hE
  refine wl_y (y_move (by conv => lhs; whnf)) ?_
  refine wl_y (y_extract rfl rfl) ?_
  refine wl_y (y_extract rfl rfl) ?_
  refine wl_y (y_assign (by conv => lhs; whnf)) ?_
  refine wl_y (y_assign (by conv => lhs; whnf)) ?_
  refine wl_nil ?_
  refine then_normal ?_
  refine wc_seq ?_
  refine wc_seq ?_
  refine wc_region ?_
  refine wl_y (y_move (by conv => lhs; whnf)) ?_
  refine wl_y (y_neq rfl rfl) ?_
  refine wl_split rfl (fun h1 => ?_) (fun h1 => ?_)
  · exact absurd rfl h1
  · skip
    refine wl_guard_yes rfl ?_
    refine wl_y (y_move (by conv => lhs; whnf)) ?_
    refine wl_guard_yes rfl ?_
    refine wl_callR (v := .bool true) hm hb49 (rCheck_yes W _ (formLV qs) (hm.slAt 1 rfl) hnf) rfl rfl (fun W hm hu => ?_)
    refine wl_guard_yes rfl ?_
    refine wl_y (y_not rfl) ?_
    refine wl_y (y_pick_false rfl (by conv => lhs; whnf)) ?_
    refine wl_nil ?_
    refine then_normal ?_
    refine wc_cond_false rfl ?_
    refine wc_skip ?_
    refine then_normal ?_
    refine wc_seq ?_
    refine wc_region ?_
    refine wl_y (y_move (by conv => lhs; whnf)) ?_
    refine wl_y (y_move (by conv => lhs; whnf)) ?_
    refine wl_callR hm hb43 (Same_yes _ _ _ qs (formLV qs) (hm.slAt 0 rfl) hokqs (hm.slAt 1 rfl) hnf) rfl rfl (fun W hm hu => ?_)
    refine wl_y (y_move (by conv => lhs; whnf)) ?_
    refine wl_y (y_extract rfl rfl) ?_
    refine wl_y (y_extract rfl rfl) ?_
    refine wl_y (y_extract rfl rfl) ?_
    refine wl_y (y_assign (by conv => lhs; whnf)) ?_
    refine wl_y (y_assign (by conv => lhs; whnf)) ?_
    refine wl_y (y_assign (by conv => lhs; whnf)) ?_
    refine wl_nil ?_
    refine then_normal ?_
    refine wc_seq ?_
    refine wc_region ?_
    refine wl_y (y_move (by conv => lhs; whnf)) ?_
    refine wl_callM hm hb31 (Form_yes _ _ (formLV qs) (hm.slAt 1 rfl) hnf) rfl rfl (fun W v52 E hm hu hE => ?_)
    obtain ⟨vs52, rfl, rfl⟩ := hE
    refine wl_y (y_move (by conv => lhs; whnf)) ?_
    refine wl_y (y_extract rfl rfl) ?_
    refine wl_y (y_extract rfl rfl) ?_
    refine wl_y (y_assign (by conv => lhs; whnf)) ?_
    refine wl_y (y_assign (by conv => lhs; whnf)) ?_
    refine wl_nil ?_
    refine then_normal ?_
    refine wc_seq ?_
    refine wc_region ?_
    refine wl_y (y_move (by conv => lhs; whnf)) ?_
    refine wl_callR hm hb27 (Tells_yes _ _ qs (hm.slAt 0 rfl) hokqs) rfl rfl (fun W hm hu => ?_)
    refine wl_y (y_move (by conv => lhs; whnf)) ?_
    refine wl_y (y_extract rfl rfl) ?_
    refine wl_y (y_extract rfl rfl) ?_
    refine wl_y (y_extract rfl rfl) ?_
    refine wl_y (y_assign (by conv => lhs; whnf)) ?_
    refine wl_y (y_assign (by conv => lhs; whnf)) ?_
    refine wl_y (y_assign (by conv => lhs; whnf)) ?_
    refine wl_nil ?_
    refine then_normal ?_
    refine wc_seq ?_
    refine wc_seq ?_
    refine wc_region ?_
    refine wl_y (y_move (by conv => lhs; whnf)) ?_
    refine wl_y (y_neq rfl rfl) ?_
    refine wl_split rfl (fun h2 => ?_) (fun h2 => ?_)
    · exact absurd rfl h2
    · skip
      refine wl_guard_yes rfl ?_
      refine wl_y (y_move (by conv => lhs; whnf)) ?_
      refine wl_guard_yes rfl ?_
      refine wl_y (y_neq rfl rfl) ?_
      refine wl_y (y_pick_false rfl (by conv => lhs; whnf)) ?_
      refine wl_split rfl (fun h3 => ?_) (fun h3 => ?_)
      · exact absurd rfl h3
      · skip
        refine wl_guard_yes rfl ?_
        refine wl_y (y_move (by conv => lhs; whnf)) ?_
        refine wl_guard_yes rfl ?_
        refine wl_y (y_neq rfl rfl) ?_
        refine wl_y (y_pick_false rfl (by conv => lhs; whnf)) ?_
        refine wl_split rfl (fun h4 => ?_) (fun h4 => ?_)
        · exact absurd rfl h4
        · skip
          refine wl_guard_yes rfl ?_
          refine wl_y (y_move (by conv => lhs; whnf)) ?_
          refine wl_guard_yes rfl ?_
          refine wl_y (y_not rfl) ?_
          refine wl_y (y_pick_false rfl (by conv => lhs; whnf)) ?_
          refine wl_splitB rfl (fun h5 => ?_) (fun h5 => ?_)
          · exact absurd h5 (by rw [hs1]; decide)
          · skip
            refine wl_guard_yes rfl ?_
            refine wl_y (y_move (by conv => lhs; whnf)) ?_
            refine wl_guard_yes rfl ?_
            refine wl_y (y_move (by conv => lhs; whnf)) ?_
            refine wl_guard_yes rfl ?_
            refine wl_callR (v := .bool true) hm hb39 (sameT_calls W _ _ (formLV qs) (by have h := hm.slAt 2 rfl; rw [hff] at h; exact h) (hm.slAt 1 rfl) (by omega)) rfl rfl (fun W hm hu => ?_)
            refine wl_guard_yes rfl ?_
            refine wl_y (y_not rfl) ?_
            refine wl_y (y_pick_false rfl (by conv => lhs; whnf)) ?_
            refine wl_y (y_move (by conv => lhs; whnf)) ?_
            refine wl_guard_yes rfl ?_
            refine wl_y (y_move (by conv => lhs; whnf)) ?_
            refine wl_guard_yes rfl ?_
            refine wl_y (y_not rfl) ?_
            refine wl_y (y_pick_false rfl (by conv => lhs; whnf)) ?_
            refine wl_splitB rfl (fun h6 => ?_) (fun h6 => ?_)
            · exact absurd h6 (by rw [htl]; decide)
            · skip
              refine wl_guard_yes rfl ?_
              refine wl_y (y_move (by conv => lhs; whnf)) ?_
              refine wl_guard_yes rfl ?_
              refine wl_y (y_lenStr (by conv => lhs; whnf) Try.underlying9) ?_
              refine wl_guard_yes rfl ?_
              refine wl_y (y_gtr rfl rfl) ?_
              refine wl_y (y_pick_false rfl (by conv => lhs; whnf)) ?_
              refine wl_nil ?_
              refine then_normal ?_
              refine wc_cond_dec rfl (fun h7 => ?_) (fun h7 => ?_)
              · exact absurd h7 (by omega)
              · skip
                refine wc_skip ?_
                refine then_normal ?_
                refine wc_seq ?_
                refine wc_region ?_
                refine wl_y (y_move (by conv => lhs; whnf)) ?_
                refine wl_y (y_convW rfl Try.underlying3 Try.underlying39) ?_
                refine wl_y (y_move (by conv => lhs; whnf)) ?_
                refine wl_y (y_conv rfl Try.underlying3 Try.underlying39 (IntWalk.u64_in _ (by omega))) ?_
                have hur := u64_range z0
                have hmd := mod_lt hk1q (IntKind.u64.wrap z0)
                refine wl_y (y_rem rfl rfl (by omega)) ?_
                obtain ⟨tn, htn, htk⟩ : ∃ tn : Nat, IntKind.u64.wrap z0 % (qs.length : Int) = (tn : Int) ∧ tn < qs.length := ⟨(IntKind.u64.wrap z0 % (qs.length : Int)).toNat, by omega, by omega⟩
                refine wl_y (v := .int .i64 (tn : Int)) (by rw [← htn]; exact y_conv rfl Try.underlying39 Try.underlying3 (IntWalk.i64_in _ (by omega))) ?_
                refine wl_y (y_assign (by conv => lhs; whnf)) ?_
                refine wl_nil ?_
                refine then_normal ?_
                refine wc_seq ?_
                refine wc_region ?_
                refine wl_y (y_move (by conv => lhs; whnf)) ?_
                refine wl_make hm rfl rfl Try.underlying22 ti27 (by omega) (by omega) (fun W v97 hm hu => ?_)
                rw [Int.toNat_natCast, made_prs rfl hk5q, ← rotP_zero (tabR qs) qs.length tn] at hm
                refine wl_y (y_assign (by conv => lhs; whnf)) ?_
                refine wl_nil ?_
                refine then_normal ?_
                refine wc_seq ?_
                refine wc_seq ?_
                refine wc_region ?_
                refine wl_y (y_assign (by conv => lhs; whnf)) ?_
                refine wl_nil ?_
                refine then_normal ?_
                refine wc_block ?_
                have hm : Mem w [] [.own 27 2 v28 qs.length (prs qs), .own 27 2 vs33 (formLV qs).length (prs (formLV qs)), .own 27 2 vs52 (formLV (formLV qs)).length (prs (formLV (formLV qs))), .own 27 2 v97 qs.length (prs (rotP (tabR qs) qs.length tn 0))] W := hm
                refine wc_loop [19, 20, 21, 98, 99, 100, 101, 102, 103, 104, 105, 106, 107, 108, 109, 110, 111, 112, 113, 114, 115, 116, 117, 118, 119, 120, 121, 122, 123, 124, 125, 126, 127, 128, 129, 130, 131, 132, 133, 134] (fun (v : Nat) => [(19, .int .i64 (v : Int))]) (fun (v : Nat) W => Mem w [] [.own 27 2 v28 qs.length (prs qs), .own 27 2 vs33 (formLV qs).length (prs (formLV qs)), .own 27 2 vs52 (formLV (formLV qs)).length (prs (formLV (formLV qs))), .own 27 2 v97 qs.length (prs (rotP (tabR qs) qs.length tn v))] W ∧ v ≤ qs.length) (fun (v : Nat) => qs.length - v) ((0) : Nat) ?_ ?_ ?_
                · exact ⟨rfl, trivial⟩
                · exact ⟨hm, Nat.zero_le _⟩
                · rintro v u W ⟨hm, hv⟩
                  refine wc_seq ?_
                  refine wc_seq ?_
                  refine wc_region ?_
                  refine wl_y (y_move (by conv => lhs; whnf)) ?_
                  refine wl_y (y_move (by conv => lhs; whnf)) ?_
                  refine wl_y (y_lss rfl rfl) ?_
                  refine wl_nil ?_
                  refine then_normal ?_
                  refine wc_cond_dec rfl (fun h8 => ?_) (fun h8 => ?_)
                  · have hvk : v < qs.length := by omega
                    refine wc_skip ?_
                    refine then_normal ?_
                    refine wc_seq ?_
                    refine wc_block ?_
                    refine wc_seq ?_
                    refine wc_region ?_
                    refine wl_y (y_buildL (cells := #[.int .i64 (-1), .int .i64 (-1)]) rfl (by kernel_rfl)) ?_
                    refine wl_alloc hm ti27 (fun W b20 hm hb20 hu => ?_)
                    refine wl_storeBlk (i := 4) (vs := pcells (-1, -1)) hm rfl rfl rfl ti27 rfl rfl (by simp [pcells, Value.oneCell']) (fun W hm => ?_)
                    refine wl_nil ?_
                    refine then_normal ?_
                    refine wc_seq ?_
                    refine wc_seq ?_
                    refine wc_region ?_
                    refine wl_y (y_assign (by conv => lhs; whnf)) ?_
                    refine wl_nil ?_
                    refine then_normal ?_
                    refine wc_block ?_
                    refine wc_loop [21, 104, 105, 106, 107, 108, 109, 110, 111, 112, 113, 114, 115, 116, 117, 118, 119, 120, 121, 122, 123, 124, 125, 126] (fun (x : Nat) => [(21, .int .i64 (x : Int))]) (fun (x : Nat) W => Mem w [] [.own 27 2 v28 qs.length (prs qs), .own 27 2 vs33 (formLV qs).length (prs (formLV qs)), .own 27 2 vs52 (formLV (formLV qs)).length (prs (formLV (formLV qs))), .own 27 2 v97 qs.length (prs (rotP (tabR qs) qs.length tn v)), .blk b20 27 (pcells (rotX (tabR qs) qs.length tn v x))] W ∧ x ≤ 2) (fun (x : Nat) => 2 - x) ((0) : Nat) ?_ ?_ ?_
                    · exact ⟨rfl, trivial⟩
                    · exact ⟨hm, Nat.zero_le _⟩
                    · rintro x u W ⟨hm, hx⟩
                      refine wc_seq ?_
                      refine wc_seq ?_
                      refine wc_region ?_
                      refine wl_y (y_move (by conv => lhs; whnf)) ?_
                      refine wl_y (y_lss rfl rfl) ?_
                      refine wl_nil ?_
                      refine then_normal ?_
                      refine wc_cond_dec rfl (fun h9 => ?_) (fun h9 => ?_)
                      · have hlo := hokqs.okf.lo v x hvk (by omega)
                        have hhi := hokqs.okf.hi v x hvk (by omega)
                        refine wc_skip ?_
                        refine then_normal ?_
                        refine wc_seq ?_
                        refine wc_block ?_
                        refine wc_seq ?_
                        refine wc_region ?_
                        refine wl_y (y_move (by conv => lhs; whnf)) ?_
                        refine wl_y (y_move (by conv => lhs; whnf)) ?_
                        refine wl_y (y_move (by conv => lhs; whnf)) ?_
                        refine wl_y (y_indexAddr (by conv => lhs; whnf) rfl (hm.slAt 0 rfl) (by omega) Try.underlying22 ti27 (by decide)) ?_
                        refine wl_y (y_indexArrSl rfl rfl (hm.slAt 0 rfl) (by simp; omega) (by omega) Try.underlying27 ti3) ?_
                        refine wl_y (y_loadSl rfl (hm.slAt 0 rfl) (tabR_at (by omega) (by omega)) Try.underlying3 rfl) ?_
                        refine wl_y (y_geq rfl rfl) ?_
                        refine wl_nil ?_
                        refine then_normal ?_
                        refine wc_cond_dec rfl (fun h10 => ?_) (fun h10 => ?_)
                        · have hge : 0 ≤ tabR qs v x := h10
                          refine wc_region ?_
                          refine wl_y (y_move (by conv => lhs; whnf)) ?_
                          refine wl_y (y_move (by conv => lhs; whnf)) ?_
                          refine wl_y (y_move (by conv => lhs; whnf)) ?_
                          refine wl_y (y_move (by conv => lhs; whnf)) ?_
                          refine wl_y (y_indexAddr (by conv => lhs; whnf) rfl (hm.slAt 0 rfl) (by omega) Try.underlying22 ti27 (by decide)) ?_
                          refine wl_y (y_indexArrSl rfl rfl (hm.slAt 0 rfl) (by simp; omega) (by omega) Try.underlying27 ti3) ?_
                          refine wl_y (y_loadSl rfl (hm.slAt 0 rfl) (tabR_at (by omega) (by omega)) Try.underlying3 rfl) ?_
                          refine wl_y (y_move (by conv => lhs; whnf)) ?_
                          refine wl_y (y_add64 rfl rfl (by omega)) ?_
                          refine wl_y (y_move (by conv => lhs; whnf)) ?_
                          refine wl_y (y_rem rfl rfl (by omega)) ?_
                          refine wl_y (y_indexArr rfl rfl (by omega) Try.underlying27 ti3) ?_
                          refine wl_store1 (i := 4) (v := .int .i64 ((tabR qs v x + (tn : Int)) % (qs.length : Int))) hm rfl rfl rfl ti3 (by simp [pcells] <;> omega) rfl rfl (fun W hm => ?_)
                          rw [pcells_set (by omega), rotX_yes (by omega) hge] at hm
                          refine wl_nil ?_
                          refine block_normal ?_
                          refine then_normal ?_
                          refine wc_region ?_
                          refine wl_y (y_move (by conv => lhs; whnf)) ?_
                          refine wl_y (y_add64 rfl rfl (by omega)) ?_
                          refine wl_y (y_assign (by conv => lhs; whnf)) ?_
                          refine wl_nil ?_
                          refine next_round (σ := Nat) (x + 1) rfl (by repeat first | exact out_hav | refine out_look rfl ?_ | refine out_havIn rfl ?_) ⟨rfl, trivial⟩ ⟨hm, by omega⟩ (by (try dsimp only); omega)
                        · have hnx := rotX_no (f := tabR qs) (k := qs.length) (t := tn) (v := v) (x := x) (by omega) h10
                          refine wc_skip ?_
                          refine block_normal ?_
                          refine then_normal ?_
                          refine wc_region ?_
                          refine wl_y (y_move (by conv => lhs; whnf)) ?_
                          refine wl_y (y_add64 rfl rfl (by omega)) ?_
                          refine wl_y (y_assign (by conv => lhs; whnf)) ?_
                          refine wl_nil ?_
                          refine next_round (σ := Nat) (x + 1) rfl (by repeat first | exact out_hav | refine out_look rfl ?_ | refine out_havIn rfl ?_) ⟨rfl, trivial⟩ ⟨by rw [← hnx]; exact hm, by omega⟩ (by (try dsimp only); omega)
                      · obtain rfl : x = 2 := by omega
                        refine wc_exit ?_
                        refine then_exit ?_
                        refine then_exit ?_
                        refine block_exit ?_
                        refine then_normal ?_
                        have hvt := Nat.mod_lt (v + tn) (show 0 < qs.length by omega)
                        refine wc_draw (C := fun W => Mem w [] [.own 27 2 v28 qs.length (prs qs), .own 27 2 vs33 (formLV qs).length (prs (formLV qs)), .own 27 2 vs52 (formLV (formLV qs)).length (prs (formLV (formLV qs))), .own 27 2 v97 qs.length (prs (rotP (tabR qs) qs.length tn v)), .blk b20 27 (pcells (rotX (tabR qs) qs.length tn v 2))] W) (some 8) mix (by kernel_rfl) (by kernel_rfl) (Mem.stable _ _ _) (hm.step (upd_drew _)) ?_
                        refine al_y (by kernel_rfl) (fun W hm => y_move (by conv => lhs; whnf)) ?_
                        refine al_y (by kernel_rfl) (fun W hm => y_move (by conv => lhs; whnf)) ?_
                        refine al_y (by kernel_rfl) (fun W hm => y_move (by conv => lhs; whnf)) ?_
                        refine al_y (by kernel_rfl) (fun W hm => y_add64 rfl rfl (by omega)) ?_
                        refine al_y (by kernel_rfl) (fun W hm => y_move (by conv => lhs; whnf)) ?_
                        refine al_y (v := .int .i64 (((v + tn) % qs.length : Nat) : Int)) (by kernel_rfl) (fun W hm => by rw [Int.natCast_emod, Int.natCast_add]; exact y_rem rfl rfl (by omega)) ?_
                        refine al_y (by kernel_rfl) (fun W hm => y_loadBlk (xs := pcells (rotX (tabR qs) qs.length tn v 2)) rfl (hm.at (i := 4) rfl) Try.underlying27 rfl ti27) ?_
                        refine al_y (by kernel_rfl) (fun W hm => y_indexAddr (by conv => lhs; whnf) rfl (hm.slAt 3 rfl) (by omega) Try.underlying22 ti27 (by decide)) ?_
                        refine al_loud (by kernel_rfl) (fun W hm => ?_)
                        refine wl_storeOwn (i := 3) (vs := [.int .i64 (rotX (tabR qs) qs.length tn v 2).1, .int .i64 (rotX (tabR qs) qs.length tn v 2).2]) hm rfl rfl rfl rfl ti27 rfl (by decide) (by rw [length_prs, rotP_len]; have := Nat.mod_lt (v + tn) (show 0 < qs.length by omega); simp only [Int.toNat_natCast, List.length_cons, List.length_nil]; omega) (by simp [Value.oneCell']) (fun W hm => ?_)
                        have hm : Mem w [] [.own 27 2 v28 qs.length (prs qs), .own 27 2 vs33 (formLV qs).length (prs (formLV qs)), .own 27 2 vs52 (formLV (formLV qs)).length (prs (formLV (formLV qs))), .own 27 2 v97 qs.length (prs (rotP (tabR qs) qs.length tn (v + 1)))] W := by rw [← rotP_set htk hvk]; rw [Int.toNat_natCast, splice_prs _ _ _ _ (by rw [rotP_len]; exact Nat.mod_lt _ (by omega))] at hm; exact hm.take 4
                        refine nx_store none hm rfl ?_
                        refine al_nil (by kernel_rfl) (fun W hm => ?_)
                        refine block_normal ?_
                        refine then_normal ?_
                        refine wc_region ?_
                        refine wl_y (y_move (by conv => lhs; whnf)) ?_
                        refine wl_y (y_add64 rfl rfl (by omega)) ?_
                        refine wl_y (y_assign (by conv => lhs; whnf)) ?_
                        refine wl_nil ?_
                        refine next_round (σ := Nat) (v + 1) rfl (by repeat first | exact out_hav | refine out_look rfl ?_ | refine out_havIn rfl ?_) ⟨rfl, trivial⟩ ⟨hm, by omega⟩ (by (try dsimp only); omega)
                  · obtain rfl : v = qs.length := by omega
                    have hrl : (rotL qs tn).length = qs.length := rotP_len _ _ _ _
                    have hrn := rotL_net hokqs htk
                    have hs2 := hom_same (rot_hom hokqs htk) hokqs hrn
                    have hfe := rot_form hokqs htk
                    refine wc_exit ?_
                    refine then_exit ?_
                    refine then_exit ?_
                    refine block_exit ?_
                    refine then_normal ?_
                    refine wc_seq ?_
                    refine wc_region ?_
                    refine wl_y (y_move (by conv => lhs; whnf)) ?_
                    refine wl_y (y_move (by conv => lhs; whnf)) ?_
                    refine wl_callR hm hb43 (Same_yes _ _ _ qs (rotL qs tn) (hm.slAt 0 rfl) hokqs (by rw [hrl]; exact hm.slAt 3 rfl) hrn) rfl rfl (fun W hm hu => ?_)
                    refine wl_y (y_move (by conv => lhs; whnf)) ?_
                    refine wl_y (y_extract rfl rfl) ?_
                    refine wl_y (y_extract rfl rfl) ?_
                    refine wl_y (y_extract rfl rfl) ?_
                    refine wl_y (y_assign (by conv => lhs; whnf)) ?_
                    refine wl_y (y_assign (by conv => lhs; whnf)) ?_
                    refine wl_y (y_assign (by conv => lhs; whnf)) ?_
                    refine wl_nil ?_
                    refine then_normal ?_
                    refine wc_seq ?_
                    refine wc_region ?_
                    refine wl_y (y_move (by conv => lhs; whnf)) ?_
                    refine wl_callM hm hb31 (Form_yes _ _ (rotL qs tn) (by rw [hrl]; exact hm.slAt 3 rfl) hrn) rfl rfl (fun W v144 E hm hu hE => ?_)
                    obtain ⟨vs144, rfl, rfl⟩ := hE
                    refine wl_y (y_move (by conv => lhs; whnf)) ?_
                    refine wl_y (y_extract rfl rfl) ?_
                    refine wl_y (y_extract rfl rfl) ?_
                    refine wl_y (y_assign (by conv => lhs; whnf)) ?_
                    refine wl_y (y_assign (by conv => lhs; whnf)) ?_
                    refine wl_nil ?_
                    refine then_normal ?_
                    refine wc_seq ?_
                    refine wc_region ?_
                    refine wl_y (y_move (by conv => lhs; whnf)) ?_
                    refine wl_y (v := .bool true) (y_eqT rfl rfl) ?_
                    refine wl_y (y_move (by conv => lhs; whnf)) ?_
                    refine wl_guard_yes rfl ?_
                    refine wl_y (v := .bool true) (y_move (show Value.bool (!(sameV qs (rotL qs tn)).2) = .bool true by rw [hs2]; rfl)) ?_
                    refine wl_y (y_pick_true rfl (by conv => lhs; whnf)) ?_
                    refine wl_y (y_move (by conv => lhs; whnf)) ?_
                    refine wl_guard_yes rfl ?_
                    refine wl_y (y_move (by conv => lhs; whnf)) ?_
                    refine wl_guard_yes rfl ?_
                    refine wl_y (v := .bool true) (y_eqT rfl rfl) ?_
                    refine wl_y (y_pick_true rfl (by conv => lhs; whnf)) ?_
                    refine wl_y (y_move (by conv => lhs; whnf)) ?_
                    refine wl_guard_yes rfl ?_
                    refine wl_y (y_move (by conv => lhs; whnf)) ?_
                    refine wl_guard_yes rfl ?_
                    refine wl_y (v := .int .i64 ((formLV qs).length : Nat)) (by rw [← hfe]; exact y_lenSl (m := (formLV (rotL qs tn)).length) rfl (hm.slAt 4 rfl) Try.underlying22) ?_
                    refine wl_guard_yes rfl ?_
                    refine wl_y (y_move (by conv => lhs; whnf)) ?_
                    refine wl_guard_yes rfl ?_
                    refine wl_y (v := .int .i64 ((formLV qs).length : Nat)) (y_lenSl (m := (formLV qs).length) rfl (hm.slAt 1 rfl) Try.underlying22) ?_
                    refine wl_guard_yes rfl ?_
                    refine wl_y (v := .bool true) (y_eqT rfl rfl) ?_
                    refine wl_y (y_pick_true rfl (by conv => lhs; whnf)) ?_
                    refine wl_y (y_move (by conv => lhs; whnf)) ?_
                    refine wl_guard_yes rfl ?_
                    refine wl_callR (v := .bool true) hm hb18 (awake_calls W) rfl rfl (fun W hm hu => ?_)
                    refine wl_y (y_pick_true rfl (by conv => lhs; whnf)) ?_
                    refine wl_y (y_assign (by conv => lhs; whnf)) ?_
                    refine wl_nil ?_
                    refine then_normal ?_
                    refine wc_ret ?_
                    refine post_ret (results_fr rfl) ?_
                    exact ⟨rfl, hm.upd⟩
end Go.Proofs.Ytofpdjpenmhbnaa
