import Derived.Test.YtofpdjpenmhbnaaC1
set_option linter.unusedVariables false
set_option linter.unusedSimpArgs false
set_option linter.unusedSectionVars false
namespace Go.Proofs.Ytofpdjpenmhbnaa
open Go Go.Kx
theorem ti110 : TI Try.prog 110 (.agg #[.int .i64 0, .int .i64 0]) 2 16 := by show _ = _; kernel_rfl
theorem ok110 : KeyOk Try.prog 110 (prV .i64) := keyOk_pairS Try.underlying110 (by kernel_rfl) (by show _ = _; kernel_rfl) Try.underlying3 Try.underlying3

set_option maxHeartbeats 4000000 in
theorem rApart_calls (w : World) (vl vr : Value) (ps qs : List (Int × Int)) (s0 t0 : Nat) (hl : SlAt w 2 vl ps.length (prs ps)) (ho : Okf ps.length (tabR ps)) (hr : SlAt w 2 vr qs.length (prs qs)) (ho2 : Okf qs.length (tabR qs)) (hs0 : s0 < 32) (ht0 : t0 < 32) :
    Cl Try.prog 41 [vl, .int .i64 (s0 : Int), vr, .int .i64 (t0 : Int)].toArray w (Ret w (.int .i64 (apS (tabR ps) ps.length (tabR qs) qs.length s0 t0).len)) := by
  have hk := ho.k5
  have hk2 := ho2.k5
  have hS := apS_ok ho ho2 hs0 ht0
  have hm : Mem w [] [] w := Mem.init w
  refine cl_enter Try.func41 rfl Try.ntmps41 rfl ?_
  refine wc_seq ?_
  refine wc_region ?_
  refine wl_y (y_assign (by conv => lhs; whnf)) ?_
  refine wl_nil ?_
  refine then_normal ?_
  refine wc_seq ?_
  refine wc_region ?_
  refine wl_y (y_move (by conv => lhs; whnf)) ?_
  refine wl_y (y_move (by conv => lhs; whnf)) ?_
  refine wl_y (y_buildL (cells := #[.int .i64 (s0 : Int), .int .i64 (t0 : Int)]) rfl (by kernel_rfl)) ?_
  refine wl_lit1 (v := prV .i64 ((s0 : Int), (t0 : Int))) hm rfl Try.underlying111 ti110 rfl (by decide) (fun W v18 hm hu18 => ?_)
  refine wl_lit1 (v := .int .i64 0) hm rfl Try.underlying55 ti3 rfl (by decide) (fun W v19 hm hu19 => ?_)
  refine wl_y (y_assign (by conv => lhs; whnf)) ?_
  refine wl_y (y_assign (by conv => lhs; whnf)) ?_
  refine wl_nil ?_
  refine then_normal ?_
  refine wc_seq ?_
  refine wc_region ?_
  refine wl_makeMap hm (prV .i64) (fun W m20 hm hm20 hu => ?_)
  refine wl_y (y_move (by conv => lhs; whnf)) ?_
  refine wl_y (y_move (by conv => lhs; whnf)) ?_
  refine wl_y (y_buildL (cells := #[.int .i64 (s0 : Int), .int .i64 (t0 : Int)]) rfl (by kernel_rfl)) ?_
  refine wl_insert (i := 2) (k := ((s0 : Int), (t0 : Int))) (v := .bool true) hm rfl rfl rfl rfl Try.underlying112 ok110 (fun W hm => ?_)
  refine wl_y (y_move (by conv => lhs; whnf)) ?_
  refine wl_y (y_assign (by conv => lhs; whnf)) ?_
  refine wl_nil ?_
  refine then_normal ?_
  refine wc_seq ?_
  refine wc_seq ?_
  refine wc_region ?_
  refine wl_y (y_assign (by conv => lhs; whnf)) ?_
  refine wl_nil ?_
  refine then_normal ?_
  refine wc_block ?_
  have hm : Mem w [] [.own 110 2 v18 [((apS (tabR ps) ps.length (tabR qs) qs.length s0 t0).s, 0)].length (prs (Ps [((apS (tabR ps) ps.length (tabR qs) qs.length s0 t0).s, 0)])), .own 3 1 v19 [((apS (tabR ps) ps.length (tabR qs) qs.length s0 t0).s, 0)].length (ints (Gs [((apS (tabR ps) ps.length (tabR qs) qs.length s0 t0).s, 0)])), mapEn (prV .i64) m20 (KVp (Ps [((apS (tabR ps) ps.length (tabR qs) qs.length s0 t0).s, 0)]))] W := hm
  refine wc_loop [8, 9, 10, 12, 13, 14, 25, 26, 27, 28, 29, 30, 31, 32, 33, 34, 35, 36, 37, 38, 39, 40, 41, 42, 43, 44, 45, 46, 47, 48, 49, 50, 51, 52, 53, 54, 55, 56, 57, 58, 59, 60, 61, 62, 63, 64, 65, 66, 67, 68, 69, 70, 71, 72, 73, 74, 75, 76, 77, 78, 79, 80, 81, 82, 83, 84, 85, 86] (fun ((i, p, es, v3, v4) : Nat × Nat × List ((Int × Int) × Nat) × Value × Value) => [(12, .int .i64 (i : Int)), (9, v3), (10, v4)]) (fun ((i, p, es, v3, v4) : Nat × Nat × List ((Int × Int) × Nat) × Value × Value) W => Mem w [] [.own 110 2 v3 es.length (prs (Ps es)), .own 3 1 v4 es.length (ints (Gs es)), mapEn (prV .i64) m20 (KVp (Ps es))] W ∧ i ≤ es.length ∧ Sim (apS (tabR ps) ps.length (tabR qs) qs.length s0 t0) p i es ∧ es.length ≤ 1024) (fun ((i, p, es, v3, v4) : Nat × Nat × List ((Int × Int) × Nat) × Value × Value) => 1025 - i) ((0, 0, [((apS (tabR ps) ps.length (tabR qs) qs.length s0 t0).s, 0)], v18, v19) : Nat × Nat × List ((Int × Int) × Nat) × Value × Value) ?_ ?_ ?_
  · exact ⟨rfl, rfl, rfl, trivial⟩
  · exact ⟨hm, Nat.zero_le _, Sim.start _ rfl, by simp⟩
  · rintro ⟨i, p, es, v3, v4⟩ u W ⟨hm, hi, hsim, hel⟩
    refine wc_seq ?_
    refine wc_seq ?_
    refine wc_region ?_
    refine wl_y (y_move (by conv => lhs; whnf)) ?_
    refine wl_y (y_move (by conv => lhs; whnf)) ?_
    refine wl_y (y_lenSl (by conv => lhs; whnf) (hm.slAt 0 rfl) Try.underlying111) ?_
    refine wl_y (y_lss rfl rfl) ?_
    refine wl_nil ?_
    refine then_normal ?_
    refine wc_cond_dec rfl (fun h1 => ?_) (fun h1 => ?_)
    · obtain ⟨p2, e0, hs2, hq0, hz, hei⟩ := Sim.adv hS _ p i es hsim rfl (by omega)
      obtain ⟨s1, t1, hs32, ht32, hus⟩ := Sim.dom hS hq0
      have hAL : i < (Ps es).length := by rw [Ps_len]; omega
      have hPi : (Ps es).getD i (0, 0) = ((s1 : Int), (t1 : Int)) := by rw [Ps_get hei, hus]
      have hA1 : (prs (Ps es))[(i : Int).toNat * 2 + (0 : Int).toNat * 1]? = some (.int .i64 (s1 : Int)) := by have h := prs_at0 hAL; rw [hPi] at h; exact h
      have hA2 : (prs (Ps es))[(i : Int).toNat * 2 + (1 : Int).toNat * 1]? = some (.int .i64 (t1 : Int)) := by have h := prs_at1 hAL; rw [hPi] at h; exact h
      have hGi : (Gs es).getD i 0 = (e0.2.size : Int) := Gs_get hei
      have husz := Sim.size hS hq0
      have hqlt := (List.getElem?_eq_some_iff.1 hq0).1
      have hqlen : ((apS (tabR ps) ps.length (tabR qs) qs.length s0 t0).q p2).length ≤ 1024 := hS.len p2
      refine wc_skip ?_
      refine then_normal ?_
      refine wc_seq ?_
      refine wc_block ?_
      refine wc_seq ?_
      refine wc_seq ?_
      refine wc_draw (C := fun W => Mem w [] [.own 110 2 v3 es.length (prs (Ps es)), .own 3 1 v4 es.length (ints (Gs es)), mapEn (prV .i64) m20 (KVp (Ps es))] W) none mix (by kernel_rfl) (by kernel_rfl) (Mem.stable _ _ _) (hm.step (upd_drew _)) ?_
      refine al_y (by kernel_rfl) (fun W hm => y_move (by conv => lhs; whnf)) ?_
      refine al_y (by kernel_rfl) (fun W hm => y_move (by conv => lhs; whnf)) ?_
      refine al_y (by kernel_rfl) (fun W hm => y_indexAddr (by conv => lhs; whnf) rfl (hm.slAt 0 rfl) (by omega) Try.underlying111 ti110 (by decide)) ?_
      refine al_y (by kernel_rfl) (fun W hm => y_fieldAddrSl (off := 0) (ft := 3) rfl (hm.slAt 0 rfl) (by simp; omega) Try.underlying110 rfl ti3) ?_
      refine al_y (by kernel_rfl) (fun W hm => y_loadSl rfl (hm.slAt 0 rfl) (by first | exact hA1 | exact hA2) Try.underlying3 rfl) ?_
      refine al_y (by kernel_rfl) (fun W hm => y_eql rfl rfl) ?_
      refine al_y (by kernel_rfl) (fun W hm => y_move (by conv => lhs; whnf)) ?_
      refine al_y (by kernel_rfl) (fun W hm => y_move (by conv => lhs; whnf)) ?_
      refine al_y (by kernel_rfl) (fun W hm => y_indexAddr (by conv => lhs; whnf) rfl (hm.slAt 0 rfl) (by omega) Try.underlying111 ti110 (by decide)) ?_
      refine al_y (by kernel_rfl) (fun W hm => y_fieldAddrSl (off := 1) (ft := 3) rfl (hm.slAt 0 rfl) (by simp; omega) Try.underlying110 rfl ti3) ?_
      refine al_y (by kernel_rfl) (fun W hm => y_loadSl rfl (hm.slAt 0 rfl) (by first | exact hA1 | exact hA2) Try.underlying3 rfl) ?_
      refine al_y (by kernel_rfl) (fun W hm => y_eql rfl rfl) ?_
      refine al_y (by kernel_rfl) (fun W hm => y_neqB rfl rfl Try.underlying4) ?_
      refine al_nil (by kernel_rfl) (fun W hm => ?_)
      refine then_normal ?_
      refine wc_cond_dec rfl (fun h2 => ?_) (fun h2 => ?_)
      · have hans := Sim.found hS hs2 hq0 (by rw [hus]; exact decide_eq_true h2)
        refine wc_seq ?_
        refine wc_region ?_
        refine wl_y (y_move (by conv => lhs; whnf)) ?_
        refine wl_y (y_move (by conv => lhs; whnf)) ?_
        refine wl_y (y_indexAddr (by conv => lhs; whnf) rfl (hm.slAt 1 rfl) (by omega) Try.underlying55 ti3 (by decide)) ?_
        refine wl_y (v := .int .i64 (e0.2.size : Int)) (by rw [← hGi]; exact y_loadSl rfl (hm.slAt 1 rfl) (ints_atN (by first | rw [Ls_len]; omega | rw [Gs_len]; omega)) Try.underlying3 rfl) ?_
        refine wl_y (y_assign (by conv => lhs; whnf)) ?_
        refine wl_nil ?_
        refine then_normal ?_
        refine wc_ret ?_
        refine then_ret ?_
        refine block_ret ?_
        refine then_ret ?_
        refine then_ret ?_
        refine block_ret ?_
        refine then_ret ?_
        refine post_ret (results_fr rfl) ?_
        refine ⟨?_, hm.upd⟩
        unfold Srch.len
        rw [hans]; rfl
      · have hgf : (apS (tabR ps) ps.length (tabR qs) qs.length s0 t0).g e0.1 = false := by rw [hus]; exact decide_eq_false h2
        refine wc_skip ?_
        refine then_normal ?_
        refine wc_seq ?_
        refine wc_region ?_
        refine wl_y (y_assign (by conv => lhs; whnf)) ?_
        refine wl_nil ?_
        refine then_normal ?_
        refine wc_block ?_
        refine wc_loop [9, 10, 13, 14, 48, 49, 50, 51, 52, 53, 54, 55, 56, 57, 58, 59, 60, 61, 62, 63, 64, 65, 66, 67, 68, 69, 70, 71, 72, 73, 74, 75, 76, 77, 78, 79, 80, 81, 82, 83, 84, 85, 86] (fun ((c, v3, v4) : Nat × Value × Value) => [(13, .int .i64 (c : Int)), (9, v3), (10, v4)]) (fun ((c, v3, v4) : Nat × Value × Value) W => Mem w [] [.own 110 2 v3 (flt (apS (tabR ps) ps.length (tabR qs) qs.length s0 t0).nz (bfsP (apS (tabR ps) ps.length (tabR qs) qs.length s0 t0).F e0 ((apS (tabR ps) ps.length (tabR qs) qs.length s0 t0).q p2) c)).length (prs (Ps (flt (apS (tabR ps) ps.length (tabR qs) qs.length s0 t0).nz (bfsP (apS (tabR ps) ps.length (tabR qs) qs.length s0 t0).F e0 ((apS (tabR ps) ps.length (tabR qs) qs.length s0 t0).q p2) c)))), .own 3 1 v4 (flt (apS (tabR ps) ps.length (tabR qs) qs.length s0 t0).nz (bfsP (apS (tabR ps) ps.length (tabR qs) qs.length s0 t0).F e0 ((apS (tabR ps) ps.length (tabR qs) qs.length s0 t0).q p2) c)).length (ints (Gs (flt (apS (tabR ps) ps.length (tabR qs) qs.length s0 t0).nz (bfsP (apS (tabR ps) ps.length (tabR qs) qs.length s0 t0).F e0 ((apS (tabR ps) ps.length (tabR qs) qs.length s0 t0).q p2) c)))), mapEn (prV .i64) m20 (KVp (Ps (flt (apS (tabR ps) ps.length (tabR qs) qs.length s0 t0).nz (bfsP (apS (tabR ps) ps.length (tabR qs) qs.length s0 t0).F e0 ((apS (tabR ps) ps.length (tabR qs) qs.length s0 t0).q p2) c))))] W ∧ c ≤ 2) (fun ((c, v3, v4) : Nat × Value × Value) => 2 - c) ((0, v3, v4) : Nat × Value × Value) ?_ ?_ ?_
        · exact ⟨rfl, rfl, rfl, trivial⟩
        · exact ⟨by rw [show (flt (apS (tabR ps) ps.length (tabR qs) qs.length s0 t0).nz (bfsP (apS (tabR ps) ps.length (tabR qs) qs.length s0 t0).F e0 ((apS (tabR ps) ps.length (tabR qs) qs.length s0 t0).q p2) 0)) = es from hs2.es.symm]; exact hm, Nat.zero_le _⟩
        · rintro ⟨c, v3, v4⟩ u W ⟨hm, hc⟩
          have hecl : (flt (apS (tabR ps) ps.length (tabR qs) qs.length s0 t0).nz (bfsP (apS (tabR ps) ps.length (tabR qs) qs.length s0 t0).F e0 ((apS (tabR ps) ps.length (tabR qs) qs.length s0 t0).q p2) c)).length ≤ 1024 := Sim.part_len hS hq0 hc
          obtain ⟨ex, hex⟩ := bfsP_pre (apS (tabR ps) ps.length (tabR qs) qs.length s0 t0).F e0 ((apS (tabR ps) ps.length (tabR qs) qs.length s0 t0).q p2) c
          have hE : (flt (apS (tabR ps) ps.length (tabR qs) qs.length s0 t0).nz (bfsP (apS (tabR ps) ps.length (tabR qs) qs.length s0 t0).F e0 ((apS (tabR ps) ps.length (tabR qs) qs.length s0 t0).q p2) c)) = es ++ flt (apS (tabR ps) ps.length (tabR qs) qs.length s0 t0).nz ex := by rw [hex, flt_append, ← hs2.es]
          obtain ⟨ec, hec⟩ : ∃ ec, ec = (flt (apS (tabR ps) ps.length (tabR qs) qs.length s0 t0).nz (bfsP (apS (tabR ps) ps.length (tabR qs) qs.length s0 t0).F e0 ((apS (tabR ps) ps.length (tabR qs) qs.length s0 t0).q p2) c)) := ⟨_, rfl⟩
          rw [← hec] at hm hecl hE
          have hei2 : ec[i]? = some (e0.1, e0.2.size) := by rw [hE, List.getElem?_append_left (List.getElem?_eq_some_iff.1 hei).1]; exact hei
          have hil := (List.getElem?_eq_some_iff.1 hei2).1
          have hBL : i < (Ps ec).length := by rw [Ps_len]; omega
          have hPc : (Ps ec).getD i (0, 0) = ((s1 : Int), (t1 : Int)) := by rw [Ps_get hei2, hus]
          have hB1 : (prs (Ps ec))[(i : Int).toNat * 2 + (0 : Int).toNat * 1]? = some (.int .i64 (s1 : Int)) := by have h := prs_at0 hBL; rw [hPc] at h; exact h
          have hB2 : (prs (Ps ec))[(i : Int).toNat * 2 + (1 : Int).toNat * 1]? = some (.int .i64 (t1 : Int)) := by have h := prs_at1 hBL; rw [hPc] at h; exact h
          have hGc : (Gs ec).getD i 0 = (e0.2.size : Int) := Gs_get hei2
          refine wc_seq ?_
          refine wc_seq ?_
          refine wc_region ?_
          refine wl_y (y_move (by conv => lhs; whnf)) ?_
          refine wl_y (y_lss rfl rfl) ?_
          refine wl_nil ?_
          refine then_normal ?_
          refine wc_cond_dec rfl (fun h3 => ?_) (fun h3 => ?_)
          · have hc2 : c < 2 := by omega
            have hFu : (apS (tabR ps) ps.length (tabR qs) qs.length s0 t0).F e0.1 c = ((((stepF (tabR ps) s1 c ps.length : Nat) : Int), ((stepF (tabR qs) t1 c qs.length : Nat) : Int)) : Int × Int) := by rw [hus]; rfl
            refine wc_skip ?_
            refine then_normal ?_
            refine wc_seq ?_
            refine wc_block ?_
            refine wc_seq ?_
            refine wc_draw (C := fun W => Mem w [] [.own 110 2 v3 ec.length (prs (Ps ec)), .own 3 1 v4 ec.length (ints (Gs ec)), mapEn (prV .i64) m20 (KVp (Ps ec))] W) (some 18) mix (by kernel_rfl) (by kernel_rfl) (Mem.stable _ _ _) (hm.step (upd_drew _)) ?_
            refine al_y (by kernel_rfl) (fun W hm => y_move (by conv => lhs; whnf)) ?_
            refine al_y (by kernel_rfl) (fun W hm => y_move (by conv => lhs; whnf)) ?_
            refine al_y (by kernel_rfl) (fun W hm => y_move (by conv => lhs; whnf)) ?_
            refine al_y (by kernel_rfl) (fun W hm => y_indexAddr (by conv => lhs; whnf) rfl (hm.slAt 0 rfl) (by omega) Try.underlying111 ti110 (by decide)) ?_
            refine al_y (by kernel_rfl) (fun W hm => y_fieldAddrSl (off := 0) (ft := 3) rfl (hm.slAt 0 rfl) (by simp; omega) Try.underlying110 rfl ti3) ?_
            refine al_y (by kernel_rfl) (fun W hm => y_loadSl rfl (hm.slAt 0 rfl) (by first | exact hB1 | exact hB2) Try.underlying3 rfl) ?_
            refine al_y (by kernel_rfl) (fun W hm => y_move (by conv => lhs; whnf)) ?_
            refine al_callR (by kernel_rfl) hb61 (fun W hm => rstep_calls _ _ _ s1 c (hl.step hm.upd) ho hs32 hc2) rfl rfl ?_
            refine al_y (by kernel_rfl) (fun W hm => y_move (by conv => lhs; whnf)) ?_
            refine al_y (by kernel_rfl) (fun W hm => y_move (by conv => lhs; whnf)) ?_
            refine al_y (by kernel_rfl) (fun W hm => y_move (by conv => lhs; whnf)) ?_
            refine al_y (by kernel_rfl) (fun W hm => y_indexAddr (by conv => lhs; whnf) rfl (hm.slAt 0 rfl) (by omega) Try.underlying111 ti110 (by decide)) ?_
            refine al_y (by kernel_rfl) (fun W hm => y_fieldAddrSl (off := 1) (ft := 3) rfl (hm.slAt 0 rfl) (by simp; omega) Try.underlying110 rfl ti3) ?_
            refine al_y (by kernel_rfl) (fun W hm => y_loadSl rfl (hm.slAt 0 rfl) (by first | exact hB1 | exact hB2) Try.underlying3 rfl) ?_
            refine al_y (by kernel_rfl) (fun W hm => y_move (by conv => lhs; whnf)) ?_
            refine al_callR (by kernel_rfl) hb61 (fun W hm => rstep_calls _ _ _ t1 c (hr.step hm.upd) ho2 ht32 hc2) rfl rfl ?_
            refine al_y (by kernel_rfl) (fun W hm => y_buildL (cells := #[.int .i64 ((stepF (tabR ps) s1 c ps.length : Nat) : Int), .int .i64 ((stepF (tabR qs) t1 c qs.length : Nat) : Int)]) rfl (by kernel_rfl)) ?_
            refine al_loud (by kernel_rfl) (fun W hm => ?_)
            refine wl_alloc hm ti110 (fun W b14 hm hb14 hu => ?_)
            refine nx_keep hm (fun W h => h.take 3) ?_
            refine al_loud (by kernel_rfl) (fun W hm => ?_)
            refine wl_storeBlk (i := 3) (vs := [.int .i64 ((stepF (tabR ps) s1 c ps.length : Nat) : Int), .int .i64 ((stepF (tabR qs) t1 c qs.length : Nat) : Int)]) hm rfl rfl rfl ti110 rfl rfl (by simp [Value.oneCell']) (fun W hm => ?_)
            refine nx_store none hm rfl ?_
            refine al_nil (by kernel_rfl) (fun W hm => ?_)
            refine then_normal ?_
            refine wc_seq ?_
            refine wc_region ?_
            refine wl_y (y_move (by conv => lhs; whnf)) ?_
            refine wl_y (y_loadBlk (xs := [.int .i64 ((stepF (tabR ps) s1 c ps.length : Nat) : Int), .int .i64 ((stepF (tabR qs) t1 c qs.length : Nat) : Int)]) rfl (hm.at (i := 3) rfl) Try.underlying110 rfl ti110) ?_
            refine wl_y (v := .bool (decide (((((stepF (tabR ps) s1 c ps.length : Nat) : Int), ((stepF (tabR qs) t1 c qs.length : Nat) : Int)) : Int × Int) ∈ Ps ec))) (by rw [← KVp_get]; exact y_lookup (k := ((((stepF (tabR ps) s1 c ps.length : Nat) : Int), ((stepF (tabR qs) t1 c qs.length : Nat) : Int)) : Int × Int)) (hm.at (i := 2) rfl) rfl rfl Try.underlying112 ok110 ti4) ?_
            refine wl_y (y_not rfl) ?_
            refine wl_nil ?_
            refine then_normal ?_
            refine wc_cond rfl (fun h4 => ?_) (fun h4 => ?_)
            · have hny : ((((stepF (tabR ps) s1 c ps.length : Nat) : Int), ((stepF (tabR qs) t1 c qs.length : Nat) : Int)) : Int × Int) ∉ Ps ec := by simpa using h4
              have hnew : (flt (apS (tabR ps) ps.length (tabR qs) qs.length s0 t0).nz (bfsP (apS (tabR ps) ps.length (tabR qs) qs.length s0 t0).F e0 ((apS (tabR ps) ps.length (tabR qs) qs.length s0 t0).q p2) (c + 1))) = ec ++ [(((((stepF (tabR ps) s1 c ps.length : Nat) : Int), ((stepF (tabR qs) t1 c qs.length : Nat) : Int)) : Int × Int), e0.2.size + 1)] := by rw [hec, ← hFu]; exact part_new hc2 rfl (fun hm2 => hny (by rw [hec, ← hFu]; exact hm2))
              refine wc_seq ?_
              refine wc_region ?_
              refine wl_y (y_move (by conv => lhs; whnf)) ?_
              refine wl_y (y_loadBlk (xs := [.int .i64 ((stepF (tabR ps) s1 c ps.length : Nat) : Int), .int .i64 ((stepF (tabR qs) t1 c qs.length : Nat) : Int)]) rfl (hm.at (i := 3) rfl) Try.underlying110 rfl ti110) ?_
              refine wl_mapUpdate (i := 2) (k := ((((stepF (tabR ps) s1 c ps.length : Nat) : Int), ((stepF (tabR qs) t1 c qs.length : Nat) : Int)) : Int × Int)) (v := .bool true) hm rfl rfl rfl rfl Try.underlying112 ok110 (fun W hm => ?_)
              rw [KVp_set hny] at hm
              refine wl_nil ?_
              refine then_normal ?_
              refine wc_seq ?_
              refine wc_region ?_
              refine wl_y (y_move (by conv => lhs; whnf)) ?_
              refine wl_y (y_loadBlk (xs := [.int .i64 ((stepF (tabR ps) s1 c ps.length : Nat) : Int), .int .i64 ((stepF (tabR qs) t1 c qs.length : Nat) : Int)]) rfl (hm.at (i := 3) rfl) Try.underlying110 rfl ti110) ?_
              refine wl_lit1 (v := prV .i64 ((((stepF (tabR ps) s1 c ps.length : Nat) : Int), ((stepF (tabR qs) t1 c qs.length : Nat) : Int)) : Int × Int)) hm rfl Try.underlying111 ti110 rfl (by decide) (fun W v77 hm hu77 => ?_)
              have hm : Mem w [] ([.own 110 2 v3 ec.length (prs (Ps ec)), .own 3 1 v4 ec.length (ints (Gs ec)), mapEn (prV .i64) m20 (KVp (Ps ec ++ [((((stepF (tabR ps) s1 c ps.length : Nat) : Int), ((stepF (tabR qs) t1 c qs.length : Nat) : Int)) : Int × Int)])), .blk b14 110 [.int .i64 ((stepF (tabR ps) s1 c ps.length : Nat) : Int), .int .i64 ((stepF (tabR qs) t1 c qs.length : Nat) : Int)]] ++ [.own 110 2 v77 1 [.int .i64 ((stepF (tabR ps) s1 c ps.length : Nat) : Int), .int .i64 ((stepF (tabR qs) t1 c qs.length : Nat) : Int)]]) W := hm
              refine wl_appendTo (i := 0) hm rfl rfl rfl (hm.slAt 4 rfl) (prs_snoc _ _ _) Try.underlying111 ti110 rfl (by decide) (by simp [Value.oneCell']) (by omega) (fun W v78 hm hv78 => ?_)
              have hm : Mem w [] [.own 110 2 v78 (ec.length + 1) (prs (Ps ec ++ [((((stepF (tabR ps) s1 c ps.length : Nat) : Int), ((stepF (tabR qs) t1 c qs.length : Nat) : Int)) : Int × Int)])), .own 3 1 v4 ec.length (ints (Gs ec)), mapEn (prV .i64) m20 (KVp (Ps ec ++ [((((stepF (tabR ps) s1 c ps.length : Nat) : Int), ((stepF (tabR qs) t1 c qs.length : Nat) : Int)) : Int × Int)]))] W := hm.take 3
              refine wl_y (y_assign (by conv => lhs; whnf)) ?_
              refine wl_nil ?_
              refine then_normal ?_
              refine wc_region ?_
              refine wl_y (y_move (by conv => lhs; whnf)) ?_
              refine wl_y (y_move (by conv => lhs; whnf)) ?_
              refine wl_y (y_move (by conv => lhs; whnf)) ?_
              refine wl_y (y_indexAddr (by conv => lhs; whnf) rfl (hm.slAt 1 rfl) (by omega) Try.underlying55 ti3 (by decide)) ?_
              refine wl_y (v := .int .i64 (e0.2.size : Int)) (by rw [← hGc]; exact y_loadSl rfl (hm.slAt 1 rfl) (ints_atN (by first | rw [Ls_len]; omega | rw [Gs_len]; omega)) Try.underlying3 rfl) ?_
              refine wl_y (y_add64 rfl rfl (by omega)) ?_
              refine wl_lit1 (v := .int .i64 ((e0.2.size : Int) + 1)) hm rfl Try.underlying55 ti3 rfl (by decide) (fun W v85 hm hu85 => ?_)
              have hm : Mem w [] ([.own 110 2 v78 (ec.length + 1) (prs (Ps ec ++ [((((stepF (tabR ps) s1 c ps.length : Nat) : Int), ((stepF (tabR qs) t1 c qs.length : Nat) : Int)) : Int × Int)])), .own 3 1 v4 ec.length (ints (Gs ec)), mapEn (prV .i64) m20 (KVp (Ps ec ++ [((((stepF (tabR ps) s1 c ps.length : Nat) : Int), ((stepF (tabR qs) t1 c qs.length : Nat) : Int)) : Int × Int)]))] ++ [.own 3 1 v85 1 [.int .i64 ((e0.2.size : Int) + 1)]]) W := hm
              refine wl_appendTo (i := 1) hm rfl rfl rfl (hm.slAt 3 rfl) (ints_snoc _ _) Try.underlying55 ti3 rfl (by decide) (by simp [Value.oneCell']) (by omega) (fun W v86 hm hv86 => ?_)
              have hm : Mem w [] [.own 110 2 v78 (ec.length + 1) (prs (Ps ec ++ [((((stepF (tabR ps) s1 c ps.length : Nat) : Int), ((stepF (tabR qs) t1 c qs.length : Nat) : Int)) : Int × Int)])), .own 3 1 v86 (ec.length + 1) (ints (Gs ec ++ [(e0.2.size : Int) + 1])), mapEn (prV .i64) m20 (KVp (Ps ec ++ [((((stepF (tabR ps) s1 c ps.length : Nat) : Int), ((stepF (tabR qs) t1 c qs.length : Nat) : Int)) : Int × Int)]))] W := hm.take 3
              have hm : Mem w [] [.own 110 2 v78 (ec ++ [(((((stepF (tabR ps) s1 c ps.length : Nat) : Int), ((stepF (tabR qs) t1 c qs.length : Nat) : Int)) : Int × Int), e0.2.size + 1)]).length (prs (Ps (ec ++ [(((((stepF (tabR ps) s1 c ps.length : Nat) : Int), ((stepF (tabR qs) t1 c qs.length : Nat) : Int)) : Int × Int), e0.2.size + 1)]))), .own 3 1 v86 (ec ++ [(((((stepF (tabR ps) s1 c ps.length : Nat) : Int), ((stepF (tabR qs) t1 c qs.length : Nat) : Int)) : Int × Int), e0.2.size + 1)]).length (ints (Gs (ec ++ [(((((stepF (tabR ps) s1 c ps.length : Nat) : Int), ((stepF (tabR qs) t1 c qs.length : Nat) : Int)) : Int × Int), e0.2.size + 1)]))), mapEn (prV .i64) m20 (KVp (Ps (ec ++ [(((((stepF (tabR ps) s1 c ps.length : Nat) : Int), ((stepF (tabR qs) t1 c qs.length : Nat) : Int)) : Int × Int), e0.2.size + 1)])))] W := by rw [Ps_snoc, Gs_snoc, List.length_append]; exact hm
              rw [← hnew] at hm
              refine wl_y (y_assign (by conv => lhs; whnf)) ?_
              refine wl_nil ?_
              refine block_normal ?_
              refine then_normal ?_
              refine wc_region ?_
              refine wl_y (y_move (by conv => lhs; whnf)) ?_
              refine wl_y (y_add64 rfl rfl (by omega)) ?_
              refine wl_y (y_assign (by conv => lhs; whnf)) ?_
              refine wl_nil ?_
              refine next_round (σ := Nat × Value × Value) (c + 1, v78, v86) rfl (by repeat first | exact out_hav | refine out_look rfl ?_ | refine out_havIn rfl ?_) ⟨rfl, rfl, rfl, trivial⟩ ⟨hm, by omega⟩ (by (try dsimp only); omega)
            · have hold : ((((stepF (tabR ps) s1 c ps.length : Nat) : Int), ((stepF (tabR qs) t1 c qs.length : Nat) : Int)) : Int × Int) ∈ Ps ec := by simpa using h4
              have hsame := part_old (S := (apS (tabR ps) ps.length (tabR qs) qs.length s0 t0)) (p := p2) (c := c) (u := e0) (by rw [hFu, ← hec]; exact hold)
              refine wc_skip ?_
              refine block_normal ?_
              refine then_normal ?_
              refine wc_region ?_
              refine wl_y (y_move (by conv => lhs; whnf)) ?_
              refine wl_y (y_add64 rfl rfl (by omega)) ?_
              refine wl_y (y_assign (by conv => lhs; whnf)) ?_
              refine wl_nil ?_
              refine next_round (σ := Nat × Value × Value) (c + 1, v3, v4) rfl (by repeat first | exact out_hav | refine out_look rfl ?_ | refine out_havIn rfl ?_) ⟨rfl, rfl, rfl, trivial⟩ ⟨by rw [hsame, ← hec]; exact hm.take 3, by omega⟩ (by (try dsimp only); omega)
          · obtain rfl : c = 2 := by omega
            refine wc_exit ?_
            refine then_exit ?_
            refine then_exit ?_
            refine block_exit ?_
            refine block_normal ?_
            refine then_normal ?_
            refine wc_region ?_
            refine wl_y (y_move (by conv => lhs; whnf)) ?_
            refine wl_y (y_add64 rfl rfl (by omega)) ?_
            refine wl_y (y_assign (by conv => lhs; whnf)) ?_
            refine wl_nil ?_
            refine next_round (σ := Nat × Nat × List ((Int × Int) × Nat) × Value × Value) (i + 1, p2 + 1, (flt (apS (tabR ps) ps.length (tabR qs) qs.length s0 t0).nz (bfsP (apS (tabR ps) ps.length (tabR qs) qs.length s0 t0).F e0 ((apS (tabR ps) ps.length (tabR qs) qs.length s0 t0).q p2) 2)), v3, v4) rfl (by repeat first | exact out_hav | refine out_look rfl ?_ | refine out_havIn rfl ?_) ⟨rfl, rfl, rfl, trivial⟩ ⟨by rw [← hec]; exact hm, by rw [← hec]; omega, Sim.next hS hs2 hq0 hz hgf, Sim.part_len hS hq0 (by decide)⟩ (by (try dsimp only); omega)
    · have hans := Sim.end_ hS _ p i es hsim rfl (by omega)
      refine wc_exit ?_
      refine then_exit ?_
      refine then_exit ?_
      refine block_exit ?_
      refine then_normal ?_
      refine wc_seq ?_
      refine wc_region ?_
      refine wl_y (y_assign (by conv => lhs; whnf)) ?_
      refine wl_nil ?_
      refine then_normal ?_
      refine wc_ret ?_
      refine post_ret (results_fr rfl) ?_
      refine ⟨?_, hm.upd⟩
      unfold Srch.len
      rw [hans]; rfl
end Go.Proofs.Ytofpdjpenmhbnaa
namespace Go.Proofs.Ytofpdjpenmhbnaa
open Go Go.Kx
theorem hb41 : HasBody Try.prog 41 := hasBody Try.func41 (by kernel_rfl) (by kernel_rfl)
theorem modb {k : Nat} (h1 : 1 ≤ k) (h5 : k ≤ 5) (z : Int) : -9223372036854775808 ≤ z % (k : Int) ∧ z % (k : Int) ≤ 9223372036854775807 := by
  have := mod_lt h1 z
  omega
theorem apart_in {ps : List (Int × Int)} (hn : NetOk ps) {s t : Nat} (hs : s < ps.length) (ht : t < ps.length) : apartW ps s t = ((apartV ps s t).1, (apartV ps s t).2, 0) ∧ (apartV ps s t).2 = decide ((apS (tabR ps) ps.length (tabR ps) ps.length (2 ^ s) (2 ^ t)).len ≥ 0) ∧ ((apartV ps s t).2 = false → (apartV ps s t).1 = ⟨#[]⟩) ∧
    ((apartV ps s t).2 = true → ((apartV ps s t).1.size : Int) = (apS (tabR ps) ps.length (tabR ps) ps.length (2 ^ s) (2 ^ t)).len ∧ wordB (apartV ps s t).1 = true ∧ (apartV ps s t).1.size ≤ 64 ∧
      ¬ decide (((fromTo (tabR ps) ps.length (2 ^ s) (apartV ps s t).1 (apartV ps s t).1.size : Nat) : Int) = 0) = decide (((fromTo (tabR ps) ps.length (2 ^ t) (apartV ps s t).1 (apartV ps s t).1.size : Nat) : Int) = 0)) := by
  have h2s := Nat.two_pow_pos s
  have h2t := Nat.two_pow_pos t
  obtain ⟨f1, f2, f3⟩ := apS_facts hn.okf hn.okf (s := 2 ^ s) (t := 2 ^ t) (Nat.pow_lt_pow_right (by decide) hs) (Nat.pow_lt_pow_right (by decide) ht) (by omega) (by omega)
  refine ⟨by rw [apartW, if_pos (by omega), Int.toNat_natCast, Int.toNat_natCast], f1, f2, fun h => ?_⟩
  obtain ⟨g1, g2, g3, g4⟩ := f3 h
  refine ⟨g1, g2, g3, fun hh => g4 ?_⟩
  rw [decide_eq_decide] at hh ⊢
  show (fromTo _ _ _ (apartV ps s t).1 (apartV ps s t).1.size = 0) ↔ (fromTo _ _ _ (apartV ps s t).1 (apartV ps s t).1.size = 0)
  omega
theorem same_in {ps qs : List (Int × Int)} (hn : NetOk ps) (hq : NetOk qs) : (!(sameV ps qs).2) = decide ((apS (tabR ps) ps.length (tabR qs) qs.length (2 ^ ps.length - 1) (2 ^ qs.length - 1)).len < 0) ∧ ((sameV ps qs).2 = false → (sameV ps qs).1 = ⟨#[]⟩) ∧
    ((sameV ps qs).2 = true → ((sameV ps qs).1.size : Int) = (apS (tabR ps) ps.length (tabR qs) qs.length (2 ^ ps.length - 1) (2 ^ qs.length - 1)).len ∧ wordB (sameV ps qs).1 = true ∧ (sameV ps qs).1.size ≤ 64 ∧
      ¬ decide (((fromTo (tabR ps) ps.length (2 ^ ps.length - 1) (sameV ps qs).1 (sameV ps qs).1.size : Nat) : Int) = 0) = decide (((fromTo (tabR qs) qs.length (2 ^ qs.length - 1) (sameV ps qs).1 (sameV ps qs).1.size : Nat) : Int) = 0)) := by
  have hp : 2 ^ 1 ≤ 2 ^ ps.length := Nat.pow_le_pow_right (by decide) hn.1.1
  have hq2 : 2 ^ 1 ≤ 2 ^ qs.length := Nat.pow_le_pow_right (by decide) hq.1.1
  obtain ⟨f1, f2, f3⟩ := apS_facts hn.okf hq.okf (s := 2 ^ ps.length - 1) (t := 2 ^ qs.length - 1) (by omega) (by omega) (by omega) (by omega)
  refine ⟨?_, f2, fun h => ?_⟩
  · show (!(apS (tabR ps) ps.length (tabR qs) qs.length (2 ^ ps.length - 1) (2 ^ qs.length - 1)).ans.2) = _
    rw [f1, ← decide_not]
    exact decide_eq_decide.2 (by omega)
  · obtain ⟨g1, g2, g3, g4⟩ := f3 h
    refine ⟨g1, g2, g3, fun hh => g4 ?_⟩
    rw [decide_eq_decide] at hh ⊢
    show (fromTo _ _ _ (sameV ps qs).1 (sameV ps qs).1.size = 0) ↔ (fromTo _ _ _ (sameV ps qs).1 (sameV ps qs).1.size = 0)
    omega

set_option maxHeartbeats 40000000 in
theorem soficAparts_calls (w : World) (vl vr : Value) (ps qs : List (Int × Int)) (p0 q0 : Int) (hl : SlAt w 2 vl ps.length (prs ps)) (hr : SlAt w 2 vr qs.length (prs qs)) :
    Cl Try.prog 9 [vl, vr, prV .i64 (p0, q0)].toArray w (Ret w (.bool true)) := by
  have hm : Mem w [] [] w := Mem.init w
  refine cl_enter Try.func9 rfl Try.ntmps9 rfl ?_
  refine wc_seq ?_
  refine wc_region ?_
  refine wl_box (v := prV .i64 (p0, q0)) hm rfl (fun W b5 hm hb5 hu => ?_)
  have hm : Mem w [] [.blk b5 27 [.int .i64 p0, .int .i64 q0]] W := hm
  refine wl_y (y_assign (by conv => lhs; whnf)) ?_
  refine wl_nil ?_
  refine then_normal ?_
  refine wc_seq ?_
  refine wc_drawX (C := fun W => Mem w [] [.blk b5 27 [.int .i64 p0, .int .i64 q0]] W) none mix (by kernel_rfl) (by kernel_rfl) (Mem.stable _ _ _) (hm.step (upd_drew _)) ?_
  refine ax_y (i := 0) rfl (by kernel_rfl) (fun W hm => y_move (by conv => lhs; whnf)) ?_
  refine ax_y (i := 1) rfl (by kernel_rfl) (fun W hm => y_indexArr rfl rfl (by omega) Try.underlying27 ti3) ?_
  refine ax_y (i := 2) (v := .int .i64 p0) rfl (by kernel_rfl) (fun W hm => y_load rfl (hm.blk_cell 0 rfl rfl) Try.underlying3 rfl) ?_
  refine ax_y (i := 3) rfl (by kernel_rfl) (fun W hm => y_remT rfl rfl (by decide)) ?_
  refine ax_y (i := 4) rfl (by kernel_rfl) (fun W hm => y_eql rfl rfl) ?_
  refine ax_y (i := 6) rfl (by kernel_rfl) (fun W hm => y_move (by conv => lhs; whnf)) ?_
  refine ax_y (i := 7) rfl (by kernel_rfl) (fun W hm => y_indexArr rfl rfl (by omega) Try.underlying27 ti3) ?_
  refine ax_y (i := 8) (v := .int .i64 q0) rfl (by kernel_rfl) (fun W hm => y_load rfl (hm.blk_cell 0 rfl rfl) Try.underlying3 rfl) ?_
  refine ax_y (i := 9) rfl (by kernel_rfl) (fun W hm => y_remT rfl rfl (by decide)) ?_
  refine ax_y (i := 10) rfl (by kernel_rfl) (fun W hm => y_eql rfl rfl) ?_
  refine ax_loud (i := 5) rfl (by kernel_rfl) (fun W hm => ?_)
  refine wl_callM hm hb14 (tame_calls _ _ ps (decide (p0.tmod 2 = 0)) (hl.step hm.upd)) rfl rfl (fun W v26 E hm hu hE => ?_)
  obtain ⟨xs, hTxs, rfl⟩ := hE
  have hokx := hTxs.1
  refine nxx_keep hm (fun W h => h.take 1) ?_
  refine ax_loud (i := 11) rfl (by kernel_rfl) (fun W hm => ?_)
  refine wl_callM hm hb14 (tame_calls _ _ qs (decide (q0.tmod 2 = 0)) (hr.step hm.upd)) rfl rfl (fun W v32 E hm hu hE => ?_)
  obtain ⟨ys0, hTys0, rfl⟩ := hE
  have hoky0 := hTys0.1
  refine nxx_keep hm (fun W h => h.take 2) ?_
  refine ax_y (i := 12) rfl (by kernel_rfl) (fun W hm => y_assign (by conv => lhs; whnf)) ?_
  refine ax_y (i := 13) rfl (by kernel_rfl) (fun W hm => y_assign (by conv => lhs; whnf)) ?_
  refine ax_nil (by kernel_rfl) (fun W hm => ?_)
  refine then_normal ?_
  refine wc_seq ?_
  refine wc_drawX (C := fun W => Mem w [] [.blk b5 27 [.int .i64 p0, .int .i64 q0], .own 27 2 v26 xs.length (prs xs), .own 27 2 v32 ys0.length (prs ys0)] W) none mix (by kernel_rfl) (by kernel_rfl) (Mem.stable _ _ _) (hm.step (upd_drew _)) ?_
  refine ax_y (i := 0) rfl (by kernel_rfl) (fun W hm => y_indexArr rfl rfl (by omega) Try.underlying27 ti3) ?_
  refine ax_y (i := 1) (v := .int .i64 p0) rfl (by kernel_rfl) (fun W hm => y_load rfl (hm.blk_cell 0 rfl rfl) Try.underlying3 rfl) ?_
  refine ax_y (i := 2) rfl (by kernel_rfl) (fun W hm => y_indexArr rfl rfl (by omega) Try.underlying27 ti3) ?_
  refine ax_y (i := 3) (v := .int .i64 q0) rfl (by kernel_rfl) (fun W hm => y_load rfl (hm.blk_cell 0 rfl rfl) Try.underlying3 rfl) ?_
  refine ax_y (i := 4) rfl (by kernel_rfl) (fun W hm => y_assign (by conv => lhs; whnf)) ?_
  refine ax_y (i := 5) rfl (by kernel_rfl) (fun W hm => y_assign (by conv => lhs; whnf)) ?_
  refine ax_nil (by kernel_rfl) (fun W hm => ?_)
  refine then_normal ?_
  refine wc_seq ?_
  refine wc_seq ?_
  refine wc_region ?_
  refine wl_y (y_assign (by conv => lhs; whnf)) ?_
  refine wl_nil ?_
  refine then_normal ?_
  refine wc_block ?_
  refine wc_loop [6, 9, 10, 11, 12, 13, 14, 15, 37, 38, 39, 40, 41, 42, 43, 44, 45, 46, 47, 48, 49, 50, 51, 52, 53, 54, 55, 56, 57, 58, 59, 60, 61, 62, 63, 64, 65, 66, 67, 68, 69, 70, 71, 72, 73, 74, 75, 76, 77, 78, 79, 80, 81, 82, 83, 84, 85, 86, 87, 88, 89, 90, 91, 92, 93, 94, 95, 96, 97, 98, 99, 100, 101, 102, 103, 104, 105, 106, 107, 108, 109, 110, 111, 112, 113, 114, 115, 116, 117, 118, 119, 120, 121, 122, 123, 124, 125, 126, 127, 128, 129, 130, 131, 132, 133, 134, 135, 136, 137, 138, 139, 140, 141, 142, 143] (fun ((r, sI, tI) : Nat × Int × Int) => [(11, .int .i64 (r : Int)), (9, .int .i64 sI), (10, .int .i64 tI)]) (fun ((r, sI, tI) : Nat × Int × Int) W => Mem w [] [.blk b5 27 [.int .i64 p0, .int .i64 q0], .own 27 2 v26 xs.length (prs xs), .own 27 2 v32 ys0.length (prs ys0)] W ∧ r ≤ 2) (fun ((r, sI, tI) : Nat × Int × Int) => 2 - r) ((0, p0, q0) : Nat × Int × Int) ?_ ?_ ?_
  · exact ⟨rfl, rfl, rfl, trivial⟩
  · exact ⟨hm, Nat.zero_le _⟩
  · rintro ⟨r, sI, tI⟩ u W ⟨hm, hr2⟩
    have hk1x := hokx.1.1
    have hk5x := hokx.1.2
    refine wc_seq ?_
    refine wc_seq ?_
    refine wc_region ?_
    refine wl_y (y_move (by conv => lhs; whnf)) ?_
    refine wl_y (y_lss rfl rfl) ?_
    refine wl_nil ?_
    refine then_normal ?_
    refine wc_cond_dec rfl (fun h1 => ?_) (fun h1 => ?_)
    · skip
      refine wc_skip ?_
      refine then_normal ?_
      refine wc_seq ?_
      refine wc_block ?_
      refine wc_seq ?_
      refine wc_region ?_
      refine wl_y (y_move (by conv => lhs; whnf)) ?_
      refine wl_y (y_move (by conv => lhs; whnf)) ?_
      refine wl_y (y_move (by conv => lhs; whnf)) ?_
      refine wl_callR hm hb40 (Apart_yes _ _ xs sI tI (hm.slAt 1 rfl) hokx) rfl rfl (fun W hm hu => ?_)
      refine wl_y (y_move (by conv => lhs; whnf)) ?_
      refine wl_y (y_extract rfl rfl) ?_
      refine wl_y (y_extract rfl rfl) ?_
      refine wl_y (y_extract rfl rfl) ?_
      refine wl_y (y_assign (by conv => lhs; whnf)) ?_
      refine wl_y (y_assign (by conv => lhs; whnf)) ?_
      refine wl_y (y_assign (by conv => lhs; whnf)) ?_
      refine wl_nil ?_
      refine then_normal ?_
      refine wc_seq ?_
      refine wc_seq ?_
      refine wc_region ?_
      refine wl_y (y_move (by conv => lhs; whnf)) ?_
      refine wl_y (y_lss rfl rfl) ?_
      refine wl_split rfl (fun h2 => ?_) (fun h2 => ?_)
      · have haw : apartW xs sI tI = (⟨#[]⟩, false, 1) := if_neg (by omega)
        refine wl_guard_no rfl ?_
        refine wl_guard_no rfl ?_
        refine wl_y (y_pick_true rfl (by conv => lhs; whnf)) ?_
        refine wl_y (y_move (by conv => lhs; whnf)) ?_
        refine wl_guard_no rfl ?_
        refine wl_guard_no rfl ?_
        refine wl_guard_no rfl ?_
        refine wl_guard_no rfl ?_
        refine wl_y (y_pick_true rfl (by conv => lhs; whnf)) ?_
        refine wl_y (y_move (by conv => lhs; whnf)) ?_
        refine wl_guard_no rfl ?_
        refine wl_guard_no rfl ?_
        refine wl_guard_no rfl ?_
        refine wl_guard_no rfl ?_
        refine wl_y (y_pick_true rfl (by conv => lhs; whnf)) ?_
        refine wl_nil ?_
        refine then_normal ?_
        refine wc_cond_true rfl ?_
        refine wc_seq ?_
        refine wc_region ?_
        refine wl_y (y_move (by conv => lhs; whnf)) ?_
        refine wl_y (y_neq rfl rfl) ?_
        refine wl_split rfl (fun h3 => ?_) (fun h3 => ?_)
        · exact absurd (by rw [haw]) h3
        · skip
          refine wl_guard_yes rfl ?_
          refine wl_y (y_move (by conv => lhs; whnf)) ?_
          refine wl_y (y_pick_false rfl (by conv => lhs; whnf)) ?_
          refine wl_splitB rfl (fun h4 => ?_) (fun h4 => ?_)
          · exact absurd h4 (by rw [haw]; decide)
          · skip
            refine wl_guard_yes rfl ?_
            refine wl_y (y_move (by conv => lhs; whnf)) ?_
            refine wl_guard_yes rfl ?_
            refine wl_y (y_lenStr (by conv => lhs; whnf) Try.underlying9) ?_
            refine wl_guard_yes rfl ?_
            refine wl_y (y_neq rfl rfl) ?_
            refine wl_y (y_pick_false rfl (by conv => lhs; whnf)) ?_
            refine wl_nil ?_
            refine then_normal ?_
            refine wc_cond_dec rfl (fun h5 => ?_) (fun h5 => ?_)
            · exact absurd (by rw [haw]; rfl) h5
            · skip
              refine wc_skip ?_
              refine then_normal ?_
              refine wc_seq ?_
              refine wc_region ?_
              refine wl_y (y_move (by conv => lhs; whnf)) ?_
              refine wl_y (y_convW rfl Try.underlying3 Try.underlying39) ?_
              refine wl_y (y_move (by conv => lhs; whnf)) ?_
              refine wl_y (y_lenSl rfl (hm.slAt 1 rfl) Try.underlying22) ?_
              refine wl_y (y_conv rfl Try.underlying3 Try.underlying39 (IntWalk.u64_in _ (by omega))) ?_
              refine wl_y (y_rem rfl rfl ⟨(u64_range _).1, by omega⟩) ?_
              refine wl_y (y_conv rfl Try.underlying39 Try.underlying3 (IntWalk.i64_in _ (modb hk1x hk5x _))) ?_
              refine wl_y (y_assign (by conv => lhs; whnf)) ?_
              refine wl_nil ?_
              refine then_normal ?_
              refine wc_region ?_
              refine wl_y (y_move (by conv => lhs; whnf)) ?_
              refine wl_y (y_convW rfl Try.underlying3 Try.underlying39) ?_
              refine wl_y (y_move (by conv => lhs; whnf)) ?_
              refine wl_y (y_lenSl rfl (hm.slAt 1 rfl) Try.underlying22) ?_
              refine wl_y (y_conv rfl Try.underlying3 Try.underlying39 (IntWalk.u64_in _ (by omega))) ?_
              refine wl_y (y_rem rfl rfl ⟨(u64_range _).1, by omega⟩) ?_
              refine wl_y (y_conv rfl Try.underlying39 Try.underlying3 (IntWalk.i64_in _ (modb hk1x hk5x _))) ?_
              refine wl_y (y_assign (by conv => lhs; whnf)) ?_
              refine wl_nil ?_
              refine block_normal ?_
              refine then_normal ?_
              refine wc_region ?_
              refine wl_y (y_move (by conv => lhs; whnf)) ?_
              refine wl_y (y_add64 rfl rfl (by omega)) ?_
              refine wl_y (y_assign (by conv => lhs; whnf)) ?_
              refine wl_nil ?_
              refine next_round (σ := Nat × Int × Int) (r + 1, _, _) rfl (by repeat first | exact out_hav | refine out_look rfl ?_ | refine out_havIn rfl ?_) ⟨rfl, rfl, rfl, trivial⟩ ⟨hm, by omega⟩ (by (try dsimp only); omega)
      · skip
        refine wl_guard_yes rfl ?_
        refine wl_y (y_move (by conv => lhs; whnf)) ?_
        refine wl_guard_yes rfl ?_
        refine wl_y (y_lss rfl rfl) ?_
        refine wl_y (y_pick_false rfl (by conv => lhs; whnf)) ?_
        refine wl_split rfl (fun h6 => ?_) (fun h6 => ?_)
        · have haw : apartW xs sI tI = (⟨#[]⟩, false, 1) := if_neg (by omega)
          refine wl_guard_no rfl ?_
          refine wl_guard_no rfl ?_
          refine wl_guard_no rfl ?_
          refine wl_guard_no rfl ?_
          refine wl_y (y_pick_true rfl (by conv => lhs; whnf)) ?_
          refine wl_y (y_move (by conv => lhs; whnf)) ?_
          refine wl_guard_no rfl ?_
          refine wl_guard_no rfl ?_
          refine wl_guard_no rfl ?_
          refine wl_guard_no rfl ?_
          refine wl_y (y_pick_true rfl (by conv => lhs; whnf)) ?_
          refine wl_nil ?_
          refine then_normal ?_
          refine wc_cond_true rfl ?_
          refine wc_seq ?_
          refine wc_region ?_
          refine wl_y (y_move (by conv => lhs; whnf)) ?_
          refine wl_y (y_neq rfl rfl) ?_
          refine wl_split rfl (fun h7 => ?_) (fun h7 => ?_)
          · exact absurd (by rw [haw]) h7
          · skip
            refine wl_guard_yes rfl ?_
            refine wl_y (y_move (by conv => lhs; whnf)) ?_
            refine wl_y (y_pick_false rfl (by conv => lhs; whnf)) ?_
            refine wl_splitB rfl (fun h8 => ?_) (fun h8 => ?_)
            · exact absurd h8 (by rw [haw]; decide)
            · skip
              refine wl_guard_yes rfl ?_
              refine wl_y (y_move (by conv => lhs; whnf)) ?_
              refine wl_guard_yes rfl ?_
              refine wl_y (y_lenStr (by conv => lhs; whnf) Try.underlying9) ?_
              refine wl_guard_yes rfl ?_
              refine wl_y (y_neq rfl rfl) ?_
              refine wl_y (y_pick_false rfl (by conv => lhs; whnf)) ?_
              refine wl_nil ?_
              refine then_normal ?_
              refine wc_cond_dec rfl (fun h9 => ?_) (fun h9 => ?_)
              · exact absurd (by rw [haw]; rfl) h9
              · skip
                refine wc_skip ?_
                refine then_normal ?_
                refine wc_seq ?_
                refine wc_region ?_
                refine wl_y (y_move (by conv => lhs; whnf)) ?_
                refine wl_y (y_convW rfl Try.underlying3 Try.underlying39) ?_
                refine wl_y (y_move (by conv => lhs; whnf)) ?_
                refine wl_y (y_lenSl rfl (hm.slAt 1 rfl) Try.underlying22) ?_
                refine wl_y (y_conv rfl Try.underlying3 Try.underlying39 (IntWalk.u64_in _ (by omega))) ?_
                refine wl_y (y_rem rfl rfl ⟨(u64_range _).1, by omega⟩) ?_
                refine wl_y (y_conv rfl Try.underlying39 Try.underlying3 (IntWalk.i64_in _ (modb hk1x hk5x _))) ?_
                refine wl_y (y_assign (by conv => lhs; whnf)) ?_
                refine wl_nil ?_
                refine then_normal ?_
                refine wc_region ?_
                refine wl_y (y_move (by conv => lhs; whnf)) ?_
                refine wl_y (y_convW rfl Try.underlying3 Try.underlying39) ?_
                refine wl_y (y_move (by conv => lhs; whnf)) ?_
                refine wl_y (y_lenSl rfl (hm.slAt 1 rfl) Try.underlying22) ?_
                refine wl_y (y_conv rfl Try.underlying3 Try.underlying39 (IntWalk.u64_in _ (by omega))) ?_
                refine wl_y (y_rem rfl rfl ⟨(u64_range _).1, by omega⟩) ?_
                refine wl_y (y_conv rfl Try.underlying39 Try.underlying3 (IntWalk.i64_in _ (modb hk1x hk5x _))) ?_
                refine wl_y (y_assign (by conv => lhs; whnf)) ?_
                refine wl_nil ?_
                refine block_normal ?_
                refine then_normal ?_
                refine wc_region ?_
                refine wl_y (y_move (by conv => lhs; whnf)) ?_
                refine wl_y (y_add64 rfl rfl (by omega)) ?_
                refine wl_y (y_assign (by conv => lhs; whnf)) ?_
                refine wl_nil ?_
                refine next_round (σ := Nat × Int × Int) (r + 1, _, _) rfl (by repeat first | exact out_hav | refine out_look rfl ?_ | refine out_havIn rfl ?_) ⟨rfl, rfl, rfl, trivial⟩ ⟨hm, by omega⟩ (by (try dsimp only); omega)
        · skip
          refine wl_guard_yes rfl ?_
          refine wl_y (y_move (by conv => lhs; whnf)) ?_
          refine wl_guard_yes rfl ?_
          refine wl_y (y_move (by conv => lhs; whnf)) ?_
          refine wl_guard_yes rfl ?_
          refine wl_y (y_lenSl rfl (hm.slAt 1 rfl) Try.underlying22) ?_
          refine wl_guard_yes rfl ?_
          refine wl_y (y_geq rfl rfl) ?_
          refine wl_y (y_pick_false rfl (by conv => lhs; whnf)) ?_
          refine wl_split rfl (fun h10 => ?_) (fun h10 => ?_)
          · have haw : apartW xs sI tI = (⟨#[]⟩, false, 1) := if_neg (by omega)
            refine wl_guard_no rfl ?_
            refine wl_guard_no rfl ?_
            refine wl_guard_no rfl ?_
            refine wl_guard_no rfl ?_
            refine wl_y (y_pick_true rfl (by conv => lhs; whnf)) ?_
            refine wl_nil ?_
            refine then_normal ?_
            refine wc_cond_true rfl ?_
            refine wc_seq ?_
            refine wc_region ?_
            refine wl_y (y_move (by conv => lhs; whnf)) ?_
            refine wl_y (y_neq rfl rfl) ?_
            refine wl_split rfl (fun h11 => ?_) (fun h11 => ?_)
            · exact absurd (by rw [haw]) h11
            · skip
              refine wl_guard_yes rfl ?_
              refine wl_y (y_move (by conv => lhs; whnf)) ?_
              refine wl_y (y_pick_false rfl (by conv => lhs; whnf)) ?_
              refine wl_splitB rfl (fun h12 => ?_) (fun h12 => ?_)
              · exact absurd h12 (by rw [haw]; decide)
              · skip
                refine wl_guard_yes rfl ?_
                refine wl_y (y_move (by conv => lhs; whnf)) ?_
                refine wl_guard_yes rfl ?_
                refine wl_y (y_lenStr (by conv => lhs; whnf) Try.underlying9) ?_
                refine wl_guard_yes rfl ?_
                refine wl_y (y_neq rfl rfl) ?_
                refine wl_y (y_pick_false rfl (by conv => lhs; whnf)) ?_
                refine wl_nil ?_
                refine then_normal ?_
                refine wc_cond_dec rfl (fun h13 => ?_) (fun h13 => ?_)
                · exact absurd (by rw [haw]; rfl) h13
                · skip
                  refine wc_skip ?_
                  refine then_normal ?_
                  refine wc_seq ?_
                  refine wc_region ?_
                  refine wl_y (y_move (by conv => lhs; whnf)) ?_
                  refine wl_y (y_convW rfl Try.underlying3 Try.underlying39) ?_
                  refine wl_y (y_move (by conv => lhs; whnf)) ?_
                  refine wl_y (y_lenSl rfl (hm.slAt 1 rfl) Try.underlying22) ?_
                  refine wl_y (y_conv rfl Try.underlying3 Try.underlying39 (IntWalk.u64_in _ (by omega))) ?_
                  refine wl_y (y_rem rfl rfl ⟨(u64_range _).1, by omega⟩) ?_
                  refine wl_y (y_conv rfl Try.underlying39 Try.underlying3 (IntWalk.i64_in _ (modb hk1x hk5x _))) ?_
                  refine wl_y (y_assign (by conv => lhs; whnf)) ?_
                  refine wl_nil ?_
                  refine then_normal ?_
                  refine wc_region ?_
                  refine wl_y (y_move (by conv => lhs; whnf)) ?_
                  refine wl_y (y_convW rfl Try.underlying3 Try.underlying39) ?_
                  refine wl_y (y_move (by conv => lhs; whnf)) ?_
                  refine wl_y (y_lenSl rfl (hm.slAt 1 rfl) Try.underlying22) ?_
                  refine wl_y (y_conv rfl Try.underlying3 Try.underlying39 (IntWalk.u64_in _ (by omega))) ?_
                  refine wl_y (y_rem rfl rfl ⟨(u64_range _).1, by omega⟩) ?_
                  refine wl_y (y_conv rfl Try.underlying39 Try.underlying3 (IntWalk.i64_in _ (modb hk1x hk5x _))) ?_
                  refine wl_y (y_assign (by conv => lhs; whnf)) ?_
                  refine wl_nil ?_
                  refine block_normal ?_
                  refine then_normal ?_
                  refine wc_region ?_
                  refine wl_y (y_move (by conv => lhs; whnf)) ?_
                  refine wl_y (y_add64 rfl rfl (by omega)) ?_
                  refine wl_y (y_assign (by conv => lhs; whnf)) ?_
                  refine wl_nil ?_
                  refine next_round (σ := Nat × Int × Int) (r + 1, _, _) rfl (by repeat first | exact out_hav | refine out_look rfl ?_ | refine out_havIn rfl ?_) ⟨rfl, rfl, rfl, trivial⟩ ⟨hm, by omega⟩ (by (try dsimp only); omega)
          · skip
            refine wl_guard_yes rfl ?_
            refine wl_y (y_move (by conv => lhs; whnf)) ?_
            refine wl_guard_yes rfl ?_
            refine wl_y (y_move (by conv => lhs; whnf)) ?_
            refine wl_guard_yes rfl ?_
            refine wl_y (y_lenSl rfl (hm.slAt 1 rfl) Try.underlying22) ?_
            refine wl_guard_yes rfl ?_
            refine wl_y (y_geq rfl rfl) ?_
            refine wl_y (y_pick_false rfl (by conv => lhs; whnf)) ?_
            refine wl_nil ?_
            refine then_normal ?_
            refine wc_cond_dec rfl (fun h14 => ?_) (fun h14 => ?_)
            · have haw : apartW xs sI tI = (⟨#[]⟩, false, 1) := if_neg (by omega)
              refine wc_seq ?_
              refine wc_region ?_
              refine wl_y (y_move (by conv => lhs; whnf)) ?_
              refine wl_y (y_neq rfl rfl) ?_
              refine wl_split rfl (fun h15 => ?_) (fun h15 => ?_)
              · exact absurd (by rw [haw]) h15
              · skip
                refine wl_guard_yes rfl ?_
                refine wl_y (y_move (by conv => lhs; whnf)) ?_
                refine wl_y (y_pick_false rfl (by conv => lhs; whnf)) ?_
                refine wl_splitB rfl (fun h16 => ?_) (fun h16 => ?_)
                · exact absurd h16 (by rw [haw]; decide)
                · skip
                  refine wl_guard_yes rfl ?_
                  refine wl_y (y_move (by conv => lhs; whnf)) ?_
                  refine wl_guard_yes rfl ?_
                  refine wl_y (y_lenStr (by conv => lhs; whnf) Try.underlying9) ?_
                  refine wl_guard_yes rfl ?_
                  refine wl_y (y_neq rfl rfl) ?_
                  refine wl_y (y_pick_false rfl (by conv => lhs; whnf)) ?_
                  refine wl_nil ?_
                  refine then_normal ?_
                  refine wc_cond_dec rfl (fun h17 => ?_) (fun h17 => ?_)
                  · exact absurd (by rw [haw]; rfl) h17
                  · skip
                    refine wc_skip ?_
                    refine then_normal ?_
                    refine wc_seq ?_
                    refine wc_region ?_
                    refine wl_y (y_move (by conv => lhs; whnf)) ?_
                    refine wl_y (y_convW rfl Try.underlying3 Try.underlying39) ?_
                    refine wl_y (y_move (by conv => lhs; whnf)) ?_
                    refine wl_y (y_lenSl rfl (hm.slAt 1 rfl) Try.underlying22) ?_
                    refine wl_y (y_conv rfl Try.underlying3 Try.underlying39 (IntWalk.u64_in _ (by omega))) ?_
                    refine wl_y (y_rem rfl rfl ⟨(u64_range _).1, by omega⟩) ?_
                    refine wl_y (y_conv rfl Try.underlying39 Try.underlying3 (IntWalk.i64_in _ (modb hk1x hk5x _))) ?_
                    refine wl_y (y_assign (by conv => lhs; whnf)) ?_
                    refine wl_nil ?_
                    refine then_normal ?_
                    refine wc_region ?_
                    refine wl_y (y_move (by conv => lhs; whnf)) ?_
                    refine wl_y (y_convW rfl Try.underlying3 Try.underlying39) ?_
                    refine wl_y (y_move (by conv => lhs; whnf)) ?_
                    refine wl_y (y_lenSl rfl (hm.slAt 1 rfl) Try.underlying22) ?_
                    refine wl_y (y_conv rfl Try.underlying3 Try.underlying39 (IntWalk.u64_in _ (by omega))) ?_
                    refine wl_y (y_rem rfl rfl ⟨(u64_range _).1, by omega⟩) ?_
                    refine wl_y (y_conv rfl Try.underlying39 Try.underlying3 (IntWalk.i64_in _ (modb hk1x hk5x _))) ?_
                    refine wl_y (y_assign (by conv => lhs; whnf)) ?_
                    refine wl_nil ?_
                    refine block_normal ?_
                    refine then_normal ?_
                    refine wc_region ?_
                    refine wl_y (y_move (by conv => lhs; whnf)) ?_
                    refine wl_y (y_add64 rfl rfl (by omega)) ?_
                    refine wl_y (y_assign (by conv => lhs; whnf)) ?_
                    refine wl_nil ?_
                    refine next_round (σ := Nat × Int × Int) (r + 1, _, _) rfl (by repeat first | exact out_hav | refine out_look rfl ?_ | refine out_havIn rfl ?_) ⟨rfl, rfl, rfl, trivial⟩ ⟨hm, by omega⟩ (by (try dsimp only); omega)
            · obtain ⟨sn, rfl⟩ : ∃ sn : Nat, sI = sn := ⟨sI.toNat, by omega⟩
              obtain ⟨tn, rfl⟩ : ∃ tn : Nat, tI = tn := ⟨tI.toNat, by omega⟩
              have hsn : sn < xs.length := by omega
              have htn : tn < xs.length := by omega
              obtain ⟨haw, f1, f2, f3⟩ := apart_in hokx hsn htn
              rw [haw]
              have hs16 : 2 ^ sn ≤ 2 ^ 4 := Nat.pow_le_pow_right (by decide) (by omega)
              have ht16 : 2 ^ tn ≤ 2 ^ 4 := Nat.pow_le_pow_right (by decide) (by omega)
              refine wc_seq ?_
              refine wc_drawX (C := fun W => Mem w [] [.blk b5 27 [.int .i64 p0, .int .i64 q0], .own 27 2 v26 xs.length (prs xs), .own 27 2 v32 ys0.length (prs ys0)] W) none mix (by kernel_rfl) (by kernel_rfl) (Mem.stable _ _ _) (hm.step (upd_drew _)) ?_
              refine ax_y (i := 0) rfl (by kernel_rfl) (fun W hm => y_move (by conv => lhs; whnf)) ?_
              refine ax_y (i := 1) rfl (by kernel_rfl) (fun W hm => y_move (by conv => lhs; whnf)) ?_
              refine ax_y (i := 2) (v := .int .i64 ((2 ^ sn : Nat) : Int)) rfl (by kernel_rfl) (fun W hm => y_bitN rfl rfl (by omega)) ?_
              refine ax_y (i := 3) rfl (by kernel_rfl) (fun W hm => y_move (by conv => lhs; whnf)) ?_
              refine ax_y (i := 4) rfl (by kernel_rfl) (fun W hm => y_move (by conv => lhs; whnf)) ?_
              refine ax_y (i := 5) (v := .int .i64 ((2 ^ tn : Nat) : Int)) rfl (by kernel_rfl) (fun W hm => y_bitN rfl rfl (by omega)) ?_
              refine ax_callR (i := 6) rfl (by kernel_rfl) hb41 (fun W hm => rApart_calls _ _ _ xs xs (2 ^ sn) (2 ^ tn) (hm.slAt 1 rfl) hokx.okf (hm.slAt 1 rfl) hokx.okf (by omega) (by omega)) rfl rfl ?_
              refine ax_y (i := 7) rfl (by kernel_rfl) (fun W hm => y_assign (by conv => lhs; whnf)) ?_
              refine ax_nil (by kernel_rfl) (fun W hm => ?_)
              refine then_normal ?_
              refine wc_seq ?_
              refine wc_drawX (C := fun W => Mem w [] [.blk b5 27 [.int .i64 p0, .int .i64 q0], .own 27 2 v26 xs.length (prs xs), .own 27 2 v32 ys0.length (prs ys0)] W) none mix (by kernel_rfl) (by kernel_rfl) (Mem.stable _ _ _) (hm.step (upd_drew _)) ?_
              refine ax_y (i := 0) rfl (by kernel_rfl) (fun W hm => y_move (by conv => lhs; whnf)) ?_
              refine ax_y (i := 1) rfl (by kernel_rfl) (fun W hm => y_neq rfl rfl) ?_
              refine ax_split (i := 2) rfl (by kernel_rfl) rfl (fun h18 => ?_) (fun h18 => ?_)
              · exact absurd rfl h18
              · skip
                refine ax_yg (i := 3) rfl rfl (by kernel_rfl) (fun W hm => y_move (by conv => lhs; whnf)) ?_
                refine ax_yg (i := 4) rfl rfl (by kernel_rfl) (fun W hm => y_move (by conv => lhs; whnf)) ?_
                refine ax_yg (i := 5) rfl rfl (by kernel_rfl) (fun W hm => y_geq rfl rfl) ?_
                refine ax_yg (i := 6) rfl rfl (by kernel_rfl) (fun W hm => y_neqB rfl rfl Try.underlying4) ?_
                refine ax_y (i := 7) rfl (by kernel_rfl) (fun W hm => y_pick_false rfl (by conv => lhs; whnf)) ?_
                refine ax_split (i := 8) rfl (by kernel_rfl) rfl (fun h19 => ?_) (fun h19 => ?_)
                · exact absurd f1 h19
                · skip
                  refine ax_yg (i := 9) rfl rfl (by kernel_rfl) (fun W hm => y_move (by conv => lhs; whnf)) ?_
                  refine ax_splitBg (i := 10) rfl rfl (by kernel_rfl) rfl (fun h20 => ?_) (fun h20 => ?_)
                  · obtain ⟨g2, g3, g4, g5⟩ := f3 h20
                    refine ax_yg (i := 11) rfl rfl (by kernel_rfl) (fun W hm => y_move (by conv => lhs; whnf)) ?_
                    refine ax_yg (i := 12) rfl rfl (by kernel_rfl) (fun W hm => y_lenStr (by conv => lhs; whnf) Try.underlying9) ?_
                    refine ax_yg (i := 13) rfl rfl (by kernel_rfl) (fun W hm => y_move (by conv => lhs; whnf)) ?_
                    refine ax_yg (i := 14) rfl rfl (by kernel_rfl) (fun W hm => y_neq rfl rfl) ?_
                    refine ax_splitg (i := 15) rfl rfl (by kernel_rfl) rfl (fun h21 => ?_) (fun h21 => ?_)
                    · exact absurd g2 h21
                    · skip
                      refine ax_yg (i := 16) rfl rfl (by kernel_rfl) (fun W hm => y_move (by conv => lhs; whnf)) ?_
                      refine ax_callRg (i := 17) rfl rfl (by kernel_rfl) hb30 (fun W hm => rWordT_calls _ (apartV xs sn tn).1 (by omega) g3) rfl rfl ?_
                      refine ax_yg (i := 18) rfl rfl (by kernel_rfl) (fun W hm => y_not rfl) ?_
                      refine ax_yg (i := 19) rfl rfl (by kernel_rfl) (fun W hm => y_pick_false rfl (by conv => lhs; whnf)) ?_
                      refine ax_yg (i := 20) rfl rfl (by kernel_rfl) (fun W hm => y_move (by conv => lhs; whnf)) ?_
                      refine ax_yg (i := 21) rfl rfl (by kernel_rfl) (fun W hm => y_move (by conv => lhs; whnf)) ?_
                      refine ax_yg (i := 22) rfl rfl (by kernel_rfl) (fun W hm => y_move (by conv => lhs; whnf)) ?_
                      refine ax_yg (i := 23) (v := .int .i64 ((2 ^ sn : Nat) : Int)) rfl rfl (by kernel_rfl) (fun W hm => y_bitN rfl rfl (by omega)) ?_
                      refine ax_yg (i := 24) rfl rfl (by kernel_rfl) (fun W hm => y_move (by conv => lhs; whnf)) ?_
                      refine ax_callRg (i := 25) rfl rfl (by kernel_rfl) hb42 (fun W hm => From_calls _ _ xs (2 ^ sn) (apartV xs sn tn).1 (hm.slAt 1 rfl) hokx.okf (Nat.pow_lt_pow_right (by decide) hsn) (wordB_lets g3) (by omega)) rfl rfl ?_
                      refine ax_yg (i := 26) rfl rfl (by kernel_rfl) (fun W hm => y_eql rfl rfl) ?_
                      refine ax_yg (i := 27) rfl rfl (by kernel_rfl) (fun W hm => y_move (by conv => lhs; whnf)) ?_
                      refine ax_yg (i := 28) rfl rfl (by kernel_rfl) (fun W hm => y_move (by conv => lhs; whnf)) ?_
                      refine ax_yg (i := 29) (v := .int .i64 ((2 ^ tn : Nat) : Int)) rfl rfl (by kernel_rfl) (fun W hm => y_bitN rfl rfl (by omega)) ?_
                      refine ax_yg (i := 30) rfl rfl (by kernel_rfl) (fun W hm => y_move (by conv => lhs; whnf)) ?_
                      refine ax_callRg (i := 31) rfl rfl (by kernel_rfl) hb42 (fun W hm => From_calls _ _ xs (2 ^ tn) (apartV xs sn tn).1 (hm.slAt 1 rfl) hokx.okf (Nat.pow_lt_pow_right (by decide) htn) (wordB_lets g3) (by omega)) rfl rfl ?_
                      refine ax_yg (i := 32) rfl rfl (by kernel_rfl) (fun W hm => y_eql rfl rfl) ?_
                      refine ax_yg (i := 33) rfl rfl (by kernel_rfl) (fun W hm => y_eqlB rfl rfl Try.underlying4) ?_
                      refine ax_yg (i := 34) rfl rfl (by kernel_rfl) (fun W hm => y_pick_false rfl (by conv => lhs; whnf)) ?_
                      refine ax_yg (i := 35) rfl rfl (by kernel_rfl) (fun W hm => y_pick_true rfl (by conv => lhs; whnf)) ?_
                      refine ax_y (i := 36) rfl (by kernel_rfl) (fun W hm => y_pick_false rfl (by conv => lhs; whnf)) ?_
                      refine ax_split (i := 37) rfl (by kernel_rfl) rfl (fun h22 => ?_) (fun h22 => ?_)
                      · exact absurd h22 g5
                      · skip
                        refine ax_yg (i := 38) rfl rfl (by kernel_rfl) (fun W hm => y_move (by conv => lhs; whnf)) ?_
                        refine ax_yg (i := 39) rfl rfl (by kernel_rfl) (fun W hm => y_not rfl) ?_
                        refine ax_splitBg (i := 40) rfl rfl (by kernel_rfl) rfl (fun h23 => ?_) (fun h23 => ?_)
                        · have hw0 := f2 (by simpa using h23)
                          refine ax_yg (i := 41) rfl rfl (by kernel_rfl) (fun W hm => y_move (by conv => lhs; whnf)) ?_
                          refine ax_yg (i := 42) rfl rfl (by kernel_rfl) (fun W hm => y_lenStr (by conv => lhs; whnf) Try.underlying9) ?_
                          refine ax_yg (i := 43) rfl rfl (by kernel_rfl) (fun W hm => y_neq rfl rfl) ?_
                          refine ax_yg (i := 44) rfl rfl (by kernel_rfl) (fun W hm => y_pick_true rfl (by conv => lhs; whnf)) ?_
                          refine ax_y (i := 45) rfl (by kernel_rfl) (fun W hm => y_pick_false rfl (by conv => lhs; whnf)) ?_
                          refine ax_nil (by kernel_rfl) (fun W hm => ?_)
                          refine then_normal ?_
                          refine wc_cond_dec rfl (fun h24 => ?_) (fun h24 => ?_)
                          · exact absurd (show ((apartV xs sn tn).1.size : Int) = 0 by rw [hw0]; rfl) h24
                          · skip
                            refine wc_skip ?_
                            refine then_normal ?_
                            refine wc_seq ?_
                            refine wc_region ?_
                            refine wl_y (y_move (by conv => lhs; whnf)) ?_
                            refine wl_y (y_convW rfl Try.underlying3 Try.underlying39) ?_
                            refine wl_y (y_move (by conv => lhs; whnf)) ?_
                            refine wl_y (y_lenSl rfl (hm.slAt 1 rfl) Try.underlying22) ?_
                            refine wl_y (y_conv rfl Try.underlying3 Try.underlying39 (IntWalk.u64_in _ (by omega))) ?_
                            refine wl_y (y_rem rfl rfl ⟨(u64_range _).1, by omega⟩) ?_
                            refine wl_y (y_conv rfl Try.underlying39 Try.underlying3 (IntWalk.i64_in _ (modb hk1x hk5x _))) ?_
                            refine wl_y (y_assign (by conv => lhs; whnf)) ?_
                            refine wl_nil ?_
                            refine then_normal ?_
                            refine wc_region ?_
                            refine wl_y (y_move (by conv => lhs; whnf)) ?_
                            refine wl_y (y_convW rfl Try.underlying3 Try.underlying39) ?_
                            refine wl_y (y_move (by conv => lhs; whnf)) ?_
                            refine wl_y (y_lenSl rfl (hm.slAt 1 rfl) Try.underlying22) ?_
                            refine wl_y (y_conv rfl Try.underlying3 Try.underlying39 (IntWalk.u64_in _ (by omega))) ?_
                            refine wl_y (y_rem rfl rfl ⟨(u64_range _).1, by omega⟩) ?_
                            refine wl_y (y_conv rfl Try.underlying39 Try.underlying3 (IntWalk.i64_in _ (modb hk1x hk5x _))) ?_
                            refine wl_y (y_assign (by conv => lhs; whnf)) ?_
                            refine wl_nil ?_
                            refine block_normal ?_
                            refine then_normal ?_
                            refine wc_region ?_
                            refine wl_y (y_move (by conv => lhs; whnf)) ?_
                            refine wl_y (y_add64 rfl rfl (by omega)) ?_
                            refine wl_y (y_assign (by conv => lhs; whnf)) ?_
                            refine wl_nil ?_
                            refine next_round (σ := Nat × Int × Int) (r + 1, _, _) rfl (by repeat first | exact out_hav | refine out_look rfl ?_ | refine out_havIn rfl ?_) ⟨rfl, rfl, rfl, trivial⟩ ⟨hm, by omega⟩ (by (try dsimp only); omega)
                        · skip
                          refine ax_guard_no (i := 41) rfl rfl rfl (by kernel_rfl) ?_
                          refine ax_guard_no (i := 42) rfl rfl rfl (by kernel_rfl) ?_
                          refine ax_guard_no (i := 43) rfl rfl rfl (by kernel_rfl) ?_
                          refine ax_yg (i := 44) rfl rfl (by kernel_rfl) (fun W hm => y_pick_false rfl (by conv => lhs; whnf)) ?_
                          refine ax_y (i := 45) rfl (by kernel_rfl) (fun W hm => y_pick_false rfl (by conv => lhs; whnf)) ?_
                          refine ax_nil (by kernel_rfl) (fun W hm => ?_)
                          refine then_normal ?_
                          refine wc_cond_false rfl ?_
                          refine wc_skip ?_
                          refine then_normal ?_
                          refine wc_seq ?_
                          refine wc_region ?_
                          refine wl_y (y_move (by conv => lhs; whnf)) ?_
                          refine wl_y (y_convW rfl Try.underlying3 Try.underlying39) ?_
                          refine wl_y (y_move (by conv => lhs; whnf)) ?_
                          refine wl_y (y_lenSl rfl (hm.slAt 1 rfl) Try.underlying22) ?_
                          refine wl_y (y_conv rfl Try.underlying3 Try.underlying39 (IntWalk.u64_in _ (by omega))) ?_
                          refine wl_y (y_rem rfl rfl ⟨(u64_range _).1, by omega⟩) ?_
                          refine wl_y (y_conv rfl Try.underlying39 Try.underlying3 (IntWalk.i64_in _ (modb hk1x hk5x _))) ?_
                          refine wl_y (y_assign (by conv => lhs; whnf)) ?_
                          refine wl_nil ?_
                          refine then_normal ?_
                          refine wc_region ?_
                          refine wl_y (y_move (by conv => lhs; whnf)) ?_
                          refine wl_y (y_convW rfl Try.underlying3 Try.underlying39) ?_
                          refine wl_y (y_move (by conv => lhs; whnf)) ?_
                          refine wl_y (y_lenSl rfl (hm.slAt 1 rfl) Try.underlying22) ?_
                          refine wl_y (y_conv rfl Try.underlying3 Try.underlying39 (IntWalk.u64_in _ (by omega))) ?_
                          refine wl_y (y_rem rfl rfl ⟨(u64_range _).1, by omega⟩) ?_
                          refine wl_y (y_conv rfl Try.underlying39 Try.underlying3 (IntWalk.i64_in _ (modb hk1x hk5x _))) ?_
                          refine wl_y (y_assign (by conv => lhs; whnf)) ?_
                          refine wl_nil ?_
                          refine block_normal ?_
                          refine then_normal ?_
                          refine wc_region ?_
                          refine wl_y (y_move (by conv => lhs; whnf)) ?_
                          refine wl_y (y_add64 rfl rfl (by omega)) ?_
                          refine wl_y (y_assign (by conv => lhs; whnf)) ?_
                          refine wl_nil ?_
                          refine next_round (σ := Nat × Int × Int) (r + 1, _, _) rfl (by repeat first | exact out_hav | refine out_look rfl ?_ | refine out_havIn rfl ?_) ⟨rfl, rfl, rfl, trivial⟩ ⟨hm, by omega⟩ (by (try dsimp only); omega)
                  · skip
                    refine ax_guard_no (i := 11) rfl rfl rfl (by kernel_rfl) ?_
                    refine ax_guard_no (i := 12) rfl rfl rfl (by kernel_rfl) ?_
                    refine ax_guard_no (i := 13) rfl rfl rfl (by kernel_rfl) ?_
                    refine ax_guard_no (i := 14) rfl rfl rfl (by kernel_rfl) ?_
                    refine ax_guard_no (i := 15) rfl rfl rfl (by kernel_rfl) ?_
                    refine ax_guard_no (i := 16) rfl rfl rfl (by kernel_rfl) ?_
                    refine ax_guard_no (i := 17) rfl rfl rfl (by kernel_rfl) ?_
                    refine ax_guard_no (i := 18) rfl rfl rfl (by kernel_rfl) ?_
                    refine ax_guard_no (i := 19) rfl rfl rfl (by kernel_rfl) ?_
                    refine ax_guard_no (i := 20) rfl rfl rfl (by kernel_rfl) ?_
                    refine ax_guard_no (i := 21) rfl rfl rfl (by kernel_rfl) ?_
                    refine ax_guard_no (i := 22) rfl rfl rfl (by kernel_rfl) ?_
                    refine ax_guard_no (i := 23) rfl rfl rfl (by kernel_rfl) ?_
                    refine ax_guard_no (i := 24) rfl rfl rfl (by kernel_rfl) ?_
                    refine ax_guard_no (i := 25) rfl rfl rfl (by kernel_rfl) ?_
                    refine ax_guard_no (i := 26) rfl rfl rfl (by kernel_rfl) ?_
                    refine ax_guard_no (i := 27) rfl rfl rfl (by kernel_rfl) ?_
                    refine ax_guard_no (i := 28) rfl rfl rfl (by kernel_rfl) ?_
                    refine ax_guard_no (i := 29) rfl rfl rfl (by kernel_rfl) ?_
                    refine ax_guard_no (i := 30) rfl rfl rfl (by kernel_rfl) ?_
                    refine ax_guard_no (i := 31) rfl rfl rfl (by kernel_rfl) ?_
                    refine ax_guard_no (i := 32) rfl rfl rfl (by kernel_rfl) ?_
                    refine ax_guard_no (i := 33) rfl rfl rfl (by kernel_rfl) ?_
                    refine ax_guard_no (i := 34) rfl rfl rfl (by kernel_rfl) ?_
                    refine ax_yg (i := 35) rfl rfl (by kernel_rfl) (fun W hm => y_pick_false rfl (by conv => lhs; whnf)) ?_
                    refine ax_y (i := 36) rfl (by kernel_rfl) (fun W hm => y_pick_false rfl (by conv => lhs; whnf)) ?_
                    refine ax_y (i := 37) rfl (by kernel_rfl) (fun W hm => y_move (by conv => lhs; whnf)) ?_
                    refine ax_yg (i := 38) rfl rfl (by kernel_rfl) (fun W hm => y_move (by conv => lhs; whnf)) ?_
                    refine ax_yg (i := 39) rfl rfl (by kernel_rfl) (fun W hm => y_not rfl) ?_
                    refine ax_splitBg (i := 40) rfl rfl (by kernel_rfl) rfl (fun h25 => ?_) (fun h25 => ?_)
                    · have hw0 := f2 (by simpa using h25)
                      refine ax_yg (i := 41) rfl rfl (by kernel_rfl) (fun W hm => y_move (by conv => lhs; whnf)) ?_
                      refine ax_yg (i := 42) rfl rfl (by kernel_rfl) (fun W hm => y_lenStr (by conv => lhs; whnf) Try.underlying9) ?_
                      refine ax_yg (i := 43) rfl rfl (by kernel_rfl) (fun W hm => y_neq rfl rfl) ?_
                      refine ax_yg (i := 44) rfl rfl (by kernel_rfl) (fun W hm => y_pick_true rfl (by conv => lhs; whnf)) ?_
                      refine ax_y (i := 45) rfl (by kernel_rfl) (fun W hm => y_pick_false rfl (by conv => lhs; whnf)) ?_
                      refine ax_nil (by kernel_rfl) (fun W hm => ?_)
                      refine then_normal ?_
                      refine wc_cond_dec rfl (fun h26 => ?_) (fun h26 => ?_)
                      · exact absurd (show ((apartV xs sn tn).1.size : Int) = 0 by rw [hw0]; rfl) h26
                      · skip
                        refine wc_skip ?_
                        refine then_normal ?_
                        refine wc_seq ?_
                        refine wc_region ?_
                        refine wl_y (y_move (by conv => lhs; whnf)) ?_
                        refine wl_y (y_convW rfl Try.underlying3 Try.underlying39) ?_
                        refine wl_y (y_move (by conv => lhs; whnf)) ?_
                        refine wl_y (y_lenSl rfl (hm.slAt 1 rfl) Try.underlying22) ?_
                        refine wl_y (y_conv rfl Try.underlying3 Try.underlying39 (IntWalk.u64_in _ (by omega))) ?_
                        refine wl_y (y_rem rfl rfl ⟨(u64_range _).1, by omega⟩) ?_
                        refine wl_y (y_conv rfl Try.underlying39 Try.underlying3 (IntWalk.i64_in _ (modb hk1x hk5x _))) ?_
                        refine wl_y (y_assign (by conv => lhs; whnf)) ?_
                        refine wl_nil ?_
                        refine then_normal ?_
                        refine wc_region ?_
                        refine wl_y (y_move (by conv => lhs; whnf)) ?_
                        refine wl_y (y_convW rfl Try.underlying3 Try.underlying39) ?_
                        refine wl_y (y_move (by conv => lhs; whnf)) ?_
                        refine wl_y (y_lenSl rfl (hm.slAt 1 rfl) Try.underlying22) ?_
                        refine wl_y (y_conv rfl Try.underlying3 Try.underlying39 (IntWalk.u64_in _ (by omega))) ?_
                        refine wl_y (y_rem rfl rfl ⟨(u64_range _).1, by omega⟩) ?_
                        refine wl_y (y_conv rfl Try.underlying39 Try.underlying3 (IntWalk.i64_in _ (modb hk1x hk5x _))) ?_
                        refine wl_y (y_assign (by conv => lhs; whnf)) ?_
                        refine wl_nil ?_
                        refine block_normal ?_
                        refine then_normal ?_
                        refine wc_region ?_
                        refine wl_y (y_move (by conv => lhs; whnf)) ?_
                        refine wl_y (y_add64 rfl rfl (by omega)) ?_
                        refine wl_y (y_assign (by conv => lhs; whnf)) ?_
                        refine wl_nil ?_
                        refine next_round (σ := Nat × Int × Int) (r + 1, _, _) rfl (by repeat first | exact out_hav | refine out_look rfl ?_ | refine out_havIn rfl ?_) ⟨rfl, rfl, rfl, trivial⟩ ⟨hm, by omega⟩ (by (try dsimp only); omega)
                    · skip
                      refine ax_guard_no (i := 41) rfl rfl rfl (by kernel_rfl) ?_
                      refine ax_guard_no (i := 42) rfl rfl rfl (by kernel_rfl) ?_
                      refine ax_guard_no (i := 43) rfl rfl rfl (by kernel_rfl) ?_
                      refine ax_yg (i := 44) rfl rfl (by kernel_rfl) (fun W hm => y_pick_false rfl (by conv => lhs; whnf)) ?_
                      refine ax_y (i := 45) rfl (by kernel_rfl) (fun W hm => y_pick_false rfl (by conv => lhs; whnf)) ?_
                      refine ax_nil (by kernel_rfl) (fun W hm => ?_)
                      refine then_normal ?_
                      refine wc_cond_false rfl ?_
                      refine wc_skip ?_
                      refine then_normal ?_
                      refine wc_seq ?_
                      refine wc_region ?_
                      refine wl_y (y_move (by conv => lhs; whnf)) ?_
                      refine wl_y (y_convW rfl Try.underlying3 Try.underlying39) ?_
                      refine wl_y (y_move (by conv => lhs; whnf)) ?_
                      refine wl_y (y_lenSl rfl (hm.slAt 1 rfl) Try.underlying22) ?_
                      refine wl_y (y_conv rfl Try.underlying3 Try.underlying39 (IntWalk.u64_in _ (by omega))) ?_
                      refine wl_y (y_rem rfl rfl ⟨(u64_range _).1, by omega⟩) ?_
                      refine wl_y (y_conv rfl Try.underlying39 Try.underlying3 (IntWalk.i64_in _ (modb hk1x hk5x _))) ?_
                      refine wl_y (y_assign (by conv => lhs; whnf)) ?_
                      refine wl_nil ?_
                      refine then_normal ?_
                      refine wc_region ?_
                      refine wl_y (y_move (by conv => lhs; whnf)) ?_
                      refine wl_y (y_convW rfl Try.underlying3 Try.underlying39) ?_
                      refine wl_y (y_move (by conv => lhs; whnf)) ?_
                      refine wl_y (y_lenSl rfl (hm.slAt 1 rfl) Try.underlying22) ?_
                      refine wl_y (y_conv rfl Try.underlying3 Try.underlying39 (IntWalk.u64_in _ (by omega))) ?_
                      refine wl_y (y_rem rfl rfl ⟨(u64_range _).1, by omega⟩) ?_
                      refine wl_y (y_conv rfl Try.underlying39 Try.underlying3 (IntWalk.i64_in _ (modb hk1x hk5x _))) ?_
                      refine wl_y (y_assign (by conv => lhs; whnf)) ?_
                      refine wl_nil ?_
                      refine block_normal ?_
                      refine then_normal ?_
                      refine wc_region ?_
                      refine wl_y (y_move (by conv => lhs; whnf)) ?_
                      refine wl_y (y_add64 rfl rfl (by omega)) ?_
                      refine wl_y (y_assign (by conv => lhs; whnf)) ?_
                      refine wl_nil ?_
                      refine next_round (σ := Nat × Int × Int) (r + 1, _, _) rfl (by repeat first | exact out_hav | refine out_look rfl ?_ | refine out_havIn rfl ?_) ⟨rfl, rfl, rfl, trivial⟩ ⟨hm, by omega⟩ (by (try dsimp only); omega)
    · skip
      refine wc_exit ?_
      refine then_exit ?_
      refine then_exit ?_
      refine block_exit ?_
      refine then_normal ?_
      refine wc_seq ?_
      refine wc_seq ?_
      refine wc_region ?_
      refine wl_y (y_assign (by conv => lhs; whnf)) ?_
      refine wl_nil ?_
      refine then_normal ?_
      refine wc_block ?_
      refine wc_loop [6, 8, 16, 17, 18, 19, 20, 144, 145, 146, 147, 148, 149, 150, 151, 152, 153, 154, 155, 156, 157, 158, 159, 160, 161, 162, 163, 164, 165, 166, 167, 168, 169, 170, 171, 172, 173, 174, 175, 176, 177, 178, 179, 180, 181, 182, 183, 184, 185, 186, 187, 188, 189, 190, 191, 192, 193, 194, 195, 196, 197, 198, 199, 200, 201, 202, 203, 204, 205, 206, 207, 208, 209] (fun ((r, ys, v8) : Nat × List (Int × Int) × Value) => [(16, .int .i64 (r : Int)), (8, v8)]) (fun ((r, ys, v8) : Nat × List (Int × Int) × Value) W => Mem w [] [.blk b5 27 [.int .i64 p0, .int .i64 q0], .own 27 2 v26 xs.length (prs xs), .own 27 2 v8 ys.length (prs ys)] W ∧ r ≤ 2 ∧ NetOk ys) (fun ((r, ys, v8) : Nat × List (Int × Int) × Value) => 2 - r) ((0, ys0, v32) : Nat × List (Int × Int) × Value) ?_ ?_ ?_
      · exact ⟨rfl, rfl, trivial⟩
      · exact ⟨hm, Nat.zero_le _, hoky0⟩
      · rintro ⟨r, ys, v8⟩ u W ⟨hm, hr2, hoky⟩
        have hk5x := hokx.1.2
        have hk5y := hoky.1.2
        have h32x := pow_le_32 hk5x
        have h32y := pow_le_32 hk5y
        have hpx := Nat.two_pow_pos xs.length
        have hpy := Nat.two_pow_pos ys.length
        obtain ⟨f1, f2, f3⟩ := same_in hokx hoky
        refine wc_seq ?_
        refine wc_seq ?_
        refine wc_region ?_
        refine wl_y (y_move (by conv => lhs; whnf)) ?_
        refine wl_y (y_lss rfl rfl) ?_
        refine wl_nil ?_
        refine then_normal ?_
        refine wc_cond_dec rfl (fun h27 => ?_) (fun h27 => ?_)
        · skip
          refine wc_skip ?_
          refine then_normal ?_
          refine wc_seq ?_
          refine wc_block ?_
          refine wc_seq ?_
          refine wc_region ?_
          refine wl_y (y_move (by conv => lhs; whnf)) ?_
          refine wl_y (y_move (by conv => lhs; whnf)) ?_
          refine wl_callR hm hb43 (Same_yes _ _ _ xs ys (hm.slAt 1 rfl) hokx (hm.slAt 2 rfl) hoky) rfl rfl (fun W hm hu => ?_)
          refine wl_y (y_move (by conv => lhs; whnf)) ?_
          refine wl_y (y_extract rfl rfl) ?_
          refine wl_y (y_extract rfl rfl) ?_
          refine wl_y (y_extract rfl rfl) ?_
          refine wl_y (y_assign (by conv => lhs; whnf)) ?_
          refine wl_y (y_assign (by conv => lhs; whnf)) ?_
          refine wl_y (y_assign (by conv => lhs; whnf)) ?_
          refine wl_nil ?_
          refine then_normal ?_
          refine wc_seq ?_
          refine wc_drawX (C := fun W => Mem w [] [.blk b5 27 [.int .i64 p0, .int .i64 q0], .own 27 2 v26 xs.length (prs xs), .own 27 2 v8 ys.length (prs ys)] W) none mix (by kernel_rfl) (by kernel_rfl) (Mem.stable _ _ _) (hm.step (upd_drew _)) ?_
          refine ax_y (i := 0) rfl (by kernel_rfl) (fun W hm => y_move (by conv => lhs; whnf)) ?_
          refine ax_y (i := 1) rfl (by kernel_rfl) (fun W hm => y_move (by conv => lhs; whnf)) ?_
          refine ax_y (i := 2) rfl (by kernel_rfl) (fun W hm => y_lenSl rfl (hm.slAt 1 rfl) Try.underlying22) ?_
          refine ax_y (i := 3) (v := .int .i64 ((2 ^ xs.length : Nat) : Int)) rfl (by kernel_rfl) (fun W hm => y_bitN rfl rfl (by omega)) ?_
          refine ax_y (i := 4) (v := .int .i64 ((2 ^ xs.length - 1 : Nat) : Int)) rfl (by kernel_rfl) (fun W hm => y_sub1N rfl rfl (by omega)) ?_
          refine ax_y (i := 5) rfl (by kernel_rfl) (fun W hm => y_move (by conv => lhs; whnf)) ?_
          refine ax_y (i := 6) rfl (by kernel_rfl) (fun W hm => y_move (by conv => lhs; whnf)) ?_
          refine ax_y (i := 7) rfl (by kernel_rfl) (fun W hm => y_lenSl rfl (hm.slAt 2 rfl) Try.underlying22) ?_
          refine ax_y (i := 8) (v := .int .i64 ((2 ^ ys.length : Nat) : Int)) rfl (by kernel_rfl) (fun W hm => y_bitN rfl rfl (by omega)) ?_
          refine ax_y (i := 9) (v := .int .i64 ((2 ^ ys.length - 1 : Nat) : Int)) rfl (by kernel_rfl) (fun W hm => y_sub1N rfl rfl (by omega)) ?_
          refine ax_callR (i := 10) rfl (by kernel_rfl) hb41 (fun W hm => rApart_calls _ _ _ xs ys (2 ^ xs.length - 1) (2 ^ ys.length - 1) (hm.slAt 1 rfl) hokx.okf (hm.slAt 2 rfl) hoky.okf (by omega) (by omega)) rfl rfl ?_
          refine ax_y (i := 11) rfl (by kernel_rfl) (fun W hm => y_assign (by conv => lhs; whnf)) ?_
          refine ax_nil (by kernel_rfl) (fun W hm => ?_)
          refine then_normal ?_
          refine wc_seq ?_
          refine wc_seq ?_
          refine wc_region ?_
          refine wl_y (y_move (by conv => lhs; whnf)) ?_
          refine wl_y (y_neq rfl rfl) ?_
          refine wl_split rfl (fun h28 => ?_) (fun h28 => ?_)
          · exact absurd rfl h28
          · skip
            refine wl_guard_yes rfl ?_
            refine wl_y (y_move (by conv => lhs; whnf)) ?_
            refine wl_guard_yes rfl ?_
            refine wl_y (y_move (by conv => lhs; whnf)) ?_
            refine wl_guard_yes rfl ?_
            refine wl_y (y_lss rfl rfl) ?_
            refine wl_guard_yes rfl ?_
            refine wl_y (y_neqB rfl rfl Try.underlying4) ?_
            refine wl_y (y_pick_false rfl (by conv => lhs; whnf)) ?_
            refine wl_split rfl (fun h29 => ?_) (fun h29 => ?_)
            · exact absurd f1 h29
            · skip
              refine wl_guard_yes rfl ?_
              refine wl_y (y_move (by conv => lhs; whnf)) ?_
              refine wl_guard_yes rfl ?_
              refine wl_y (y_not rfl) ?_
              refine wl_guard_yes rfl ?_
              refine wl_splitB rfl (fun h30 => ?_) (fun h30 => ?_)
              · obtain ⟨g2, g3, g4, g5⟩ := f3 (by simpa using h30)
                refine wl_guard_yes rfl ?_
                refine wl_y (y_move (by conv => lhs; whnf)) ?_
                refine wl_guard_yes rfl ?_
                refine wl_y (y_lenStr (by conv => lhs; whnf) Try.underlying9) ?_
                refine wl_guard_yes rfl ?_
                refine wl_y (y_move (by conv => lhs; whnf)) ?_
                refine wl_guard_yes rfl ?_
                refine wl_y (y_neq rfl rfl) ?_
                refine wl_guard_yes rfl ?_
                refine wl_split rfl (fun h31 => ?_) (fun h31 => ?_)
                · exact absurd g2 h31
                · skip
                  refine wl_guard_yes rfl ?_
                  refine wl_y (y_move (by conv => lhs; whnf)) ?_
                  refine wl_guard_yes rfl ?_
                  refine wl_callR (v := .bool true) hm hb30 (rWordT_calls W (sameV xs ys).1 (by omega) g3) rfl rfl (fun W hm hu => ?_)
                  refine wl_guard_yes rfl ?_
                  refine wl_y (y_not rfl) ?_
                  refine wl_guard_yes rfl ?_
                  refine wl_y (y_pick_false rfl (by conv => lhs; whnf)) ?_
                  refine wl_guard_yes rfl ?_
                  refine wl_y (y_move (by conv => lhs; whnf)) ?_
                  refine wl_guard_yes rfl ?_
                  refine wl_y (y_move (by conv => lhs; whnf)) ?_
                  refine wl_guard_yes rfl ?_
                  refine wl_y (y_move (by conv => lhs; whnf)) ?_
                  refine wl_guard_yes rfl ?_
                  refine wl_callR hm hb29 (rEnds_calls _ _ xs (sameV xs ys).1 (hm.slAt 1 rfl) hokx.okf (wordB_lets g3) (by omega)) rfl rfl (fun W hm hu => ?_)
                  refine wl_guard_yes rfl ?_
                  refine wl_y (y_eql rfl rfl) ?_
                  refine wl_guard_yes rfl ?_
                  refine wl_y (y_move (by conv => lhs; whnf)) ?_
                  refine wl_guard_yes rfl ?_
                  refine wl_y (y_move (by conv => lhs; whnf)) ?_
                  refine wl_guard_yes rfl ?_
                  refine wl_callR hm hb29 (rEnds_calls _ _ ys (sameV xs ys).1 (hm.slAt 2 rfl) hoky.okf (wordB_lets g3) (by omega)) rfl rfl (fun W hm hu => ?_)
                  refine wl_guard_yes rfl ?_
                  refine wl_y (y_eql rfl rfl) ?_
                  refine wl_guard_yes rfl ?_
                  refine wl_y (y_eqlB rfl rfl Try.underlying4) ?_
                  refine wl_guard_yes rfl ?_
                  refine wl_y (y_pick_false rfl (by conv => lhs; whnf)) ?_
                  refine wl_guard_yes rfl ?_
                  refine wl_y (y_pick_true rfl (by conv => lhs; whnf)) ?_
                  refine wl_y (y_pick_false rfl (by conv => lhs; whnf)) ?_
                  refine wl_split rfl (fun h32 => ?_) (fun h32 => ?_)
                  · exact absurd h32 g5
                  · skip
                    refine wl_guard_yes rfl ?_
                    refine wl_y (y_move (by conv => lhs; whnf)) ?_
                    refine wl_guard_yes rfl ?_
                    refine wl_splitB rfl (fun h33 => ?_) (fun h33 => ?_)
                    · have hw0 := f2 (by simpa using h33)
                      refine wl_guard_yes rfl ?_
                      refine wl_y (y_move (by conv => lhs; whnf)) ?_
                      refine wl_guard_yes rfl ?_
                      refine wl_y (y_lenStr (by conv => lhs; whnf) Try.underlying9) ?_
                      refine wl_guard_yes rfl ?_
                      refine wl_y (y_neq rfl rfl) ?_
                      refine wl_guard_yes rfl ?_
                      refine wl_y (y_pick_true rfl (by conv => lhs; whnf)) ?_
                      refine wl_y (y_pick_false rfl (by conv => lhs; whnf)) ?_
                      refine wl_nil ?_
                      refine then_normal ?_
                      refine wc_cond_dec rfl (fun h34 => ?_) (fun h34 => ?_)
                      · exact absurd (by rw [hw0]; rfl) h34
                      · skip
                        refine wc_skip ?_
                        refine then_normal ?_
                        refine wc_region ?_
                        refine wl_y (y_move (by conv => lhs; whnf)) ?_
                        refine wl_call hb19 (rForm_calls _ _ xs (hm.slAt 1 rfl) hokx.okf) rfl rfl (fun e W h => ?_)
                        obtain ⟨v209, rfl, hv209⟩ := h
                        refine ⟨_, rfl, ?_⟩
                        have hm := hm.call hv209
                        refine wl_y (y_assign (by conv => lhs; whnf)) ?_
                        refine wl_nil ?_
                        refine block_normal ?_
                        refine then_normal ?_
                        refine wc_region ?_
                        refine wl_y (y_move (by conv => lhs; whnf)) ?_
                        refine wl_y (y_add64 rfl rfl (by omega)) ?_
                        refine wl_y (y_assign (by conv => lhs; whnf)) ?_
                        refine wl_nil ?_
                        refine next_round (σ := Nat × List (Int × Int) × Value) (r + 1, formLV xs, v209) rfl (by repeat first | exact out_hav | refine out_look rfl ?_ | refine out_havIn rfl ?_) ⟨rfl, rfl, trivial⟩ ⟨hm.erase 2, by omega, formLV_net hokx⟩ (by (try dsimp only); omega)
                    · skip
                      refine wl_guard_no rfl ?_
                      refine wl_guard_no rfl ?_
                      refine wl_guard_no rfl ?_
                      refine wl_guard_yes rfl ?_
                      refine wl_y (y_pick_false rfl (by conv => lhs; whnf)) ?_
                      refine wl_y (y_pick_false rfl (by conv => lhs; whnf)) ?_
                      refine wl_nil ?_
                      refine then_normal ?_
                      refine wc_cond_false rfl ?_
                      refine wc_skip ?_
                      refine then_normal ?_
                      refine wc_region ?_
                      refine wl_y (y_move (by conv => lhs; whnf)) ?_
                      refine wl_call hb19 (rForm_calls _ _ xs (hm.slAt 1 rfl) hokx.okf) rfl rfl (fun e W h => ?_)
                      obtain ⟨v209, rfl, hv209⟩ := h
                      refine ⟨_, rfl, ?_⟩
                      have hm := hm.call hv209
                      refine wl_y (y_assign (by conv => lhs; whnf)) ?_
                      refine wl_nil ?_
                      refine block_normal ?_
                      refine then_normal ?_
                      refine wc_region ?_
                      refine wl_y (y_move (by conv => lhs; whnf)) ?_
                      refine wl_y (y_add64 rfl rfl (by omega)) ?_
                      refine wl_y (y_assign (by conv => lhs; whnf)) ?_
                      refine wl_nil ?_
                      refine next_round (σ := Nat × List (Int × Int) × Value) (r + 1, formLV xs, v209) rfl (by repeat first | exact out_hav | refine out_look rfl ?_ | refine out_havIn rfl ?_) ⟨rfl, rfl, trivial⟩ ⟨hm.erase 2, by omega, formLV_net hokx⟩ (by (try dsimp only); omega)
              · skip
                refine wl_guard_no rfl ?_
                refine wl_guard_no rfl ?_
                refine wl_guard_no rfl ?_
                refine wl_guard_no rfl ?_
                refine wl_guard_no rfl ?_
                refine wl_guard_no rfl ?_
                refine wl_guard_no rfl ?_
                refine wl_guard_no rfl ?_
                refine wl_guard_no rfl ?_
                refine wl_guard_no rfl ?_
                refine wl_guard_no rfl ?_
                refine wl_guard_no rfl ?_
                refine wl_guard_no rfl ?_
                refine wl_guard_no rfl ?_
                refine wl_guard_no rfl ?_
                refine wl_guard_no rfl ?_
                refine wl_guard_no rfl ?_
                refine wl_guard_no rfl ?_
                refine wl_guard_no rfl ?_
                refine wl_guard_no rfl ?_
                refine wl_guard_yes rfl ?_
                refine wl_y (y_pick_false rfl (by conv => lhs; whnf)) ?_
                refine wl_y (y_pick_false rfl (by conv => lhs; whnf)) ?_
                refine wl_y (y_move (by conv => lhs; whnf)) ?_
                refine wl_guard_yes rfl ?_
                refine wl_y (y_move (by conv => lhs; whnf)) ?_
                refine wl_guard_yes rfl ?_
                refine wl_splitB rfl (fun h35 => ?_) (fun h35 => ?_)
                · have hw0 := f2 (by simpa using h35)
                  refine wl_guard_yes rfl ?_
                  refine wl_y (y_move (by conv => lhs; whnf)) ?_
                  refine wl_guard_yes rfl ?_
                  refine wl_y (y_lenStr (by conv => lhs; whnf) Try.underlying9) ?_
                  refine wl_guard_yes rfl ?_
                  refine wl_y (y_neq rfl rfl) ?_
                  refine wl_guard_yes rfl ?_
                  refine wl_y (y_pick_true rfl (by conv => lhs; whnf)) ?_
                  refine wl_y (y_pick_false rfl (by conv => lhs; whnf)) ?_
                  refine wl_nil ?_
                  refine then_normal ?_
                  refine wc_cond_dec rfl (fun h36 => ?_) (fun h36 => ?_)
                  · exact absurd (by rw [hw0]; rfl) h36
                  · skip
                    refine wc_skip ?_
                    refine then_normal ?_
                    refine wc_region ?_
                    refine wl_y (y_move (by conv => lhs; whnf)) ?_
                    refine wl_call hb19 (rForm_calls _ _ xs (hm.slAt 1 rfl) hokx.okf) rfl rfl (fun e W h => ?_)
                    obtain ⟨v209, rfl, hv209⟩ := h
                    refine ⟨_, rfl, ?_⟩
                    have hm := hm.call hv209
                    refine wl_y (y_assign (by conv => lhs; whnf)) ?_
                    refine wl_nil ?_
                    refine block_normal ?_
                    refine then_normal ?_
                    refine wc_region ?_
                    refine wl_y (y_move (by conv => lhs; whnf)) ?_
                    refine wl_y (y_add64 rfl rfl (by omega)) ?_
                    refine wl_y (y_assign (by conv => lhs; whnf)) ?_
                    refine wl_nil ?_
                    refine next_round (σ := Nat × List (Int × Int) × Value) (r + 1, formLV xs, v209) rfl (by repeat first | exact out_hav | refine out_look rfl ?_ | refine out_havIn rfl ?_) ⟨rfl, rfl, trivial⟩ ⟨hm.erase 2, by omega, formLV_net hokx⟩ (by (try dsimp only); omega)
                · skip
                  refine wl_guard_no rfl ?_
                  refine wl_guard_no rfl ?_
                  refine wl_guard_no rfl ?_
                  refine wl_guard_yes rfl ?_
                  refine wl_y (y_pick_false rfl (by conv => lhs; whnf)) ?_
                  refine wl_y (y_pick_false rfl (by conv => lhs; whnf)) ?_
                  refine wl_nil ?_
                  refine then_normal ?_
                  refine wc_cond_false rfl ?_
                  refine wc_skip ?_
                  refine then_normal ?_
                  refine wc_region ?_
                  refine wl_y (y_move (by conv => lhs; whnf)) ?_
                  refine wl_call hb19 (rForm_calls _ _ xs (hm.slAt 1 rfl) hokx.okf) rfl rfl (fun e W h => ?_)
                  obtain ⟨v209, rfl, hv209⟩ := h
                  refine ⟨_, rfl, ?_⟩
                  have hm := hm.call hv209
                  refine wl_y (y_assign (by conv => lhs; whnf)) ?_
                  refine wl_nil ?_
                  refine block_normal ?_
                  refine then_normal ?_
                  refine wc_region ?_
                  refine wl_y (y_move (by conv => lhs; whnf)) ?_
                  refine wl_y (y_add64 rfl rfl (by omega)) ?_
                  refine wl_y (y_assign (by conv => lhs; whnf)) ?_
                  refine wl_nil ?_
                  refine next_round (σ := Nat × List (Int × Int) × Value) (r + 1, formLV xs, v209) rfl (by repeat first | exact out_hav | refine out_look rfl ?_ | refine out_havIn rfl ?_) ⟨rfl, rfl, trivial⟩ ⟨hm.erase 2, by omega, formLV_net hokx⟩ (by (try dsimp only); omega)
        · skip
          refine wc_exit ?_
          refine then_exit ?_
          refine then_exit ?_
          refine block_exit ?_
          refine then_normal ?_
          refine wc_seq ?_
          refine wc_region ?_
          refine wl_callR hm hb18 (awake_calls _) rfl rfl (fun W hm hu => ?_)
          refine wl_y (y_assign (by conv => lhs; whnf)) ?_
          refine wl_nil ?_
          refine then_normal ?_
          refine wc_ret ?_
          refine post_ret (results_fr rfl) ?_
          exact ⟨rfl, hm.upd⟩

theorem soficApartsR_calls (w : World) (vl : Value) (ps : List (Int × Int)) (vr : Value) (qs : List (Int × Int)) (p0 q0 : Int) (hl : SlAt w 2 vl ps.length (prs ps)) (hr : SlAt w 2 vr qs.length (prs qs)) :
    Cl Try.prog 9 [vl, vr, prV .i64 (p0, q0)].toArray w (Ret w (.bool true)) := soficAparts_calls w vl vr ps qs p0 q0 hl hr
end Go.Proofs.Ytofpdjpenmhbnaa
