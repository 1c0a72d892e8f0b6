import Derived.Test.YtofpdjpenmhbnaaC1
set_option linter.unusedVariables false
set_option linter.unusedSimpArgs false
set_option linter.unusedSectionVars false
namespace Go.Proofs.Ytofpdjpenmhbnaa
open Go Go.Kx
theorem hb49 : HasBody Try.prog 49 := hasBody Try.func49 (by kernel_rfl) (by kernel_rfl)
set_option maxHeartbeats 40000000 in
theorem tame_calls (w : World) (vl : Value) (ps : List (Int × Int)) (j : Bool) (hl : SlAt w 2 vl ps.length (prs ps)) :
    Cl Try.prog 14 [vl, .bool j].toArray w (fun e w' => ∃ v E, e = .returned v ∧ Mem w [] E w' ∧ ∃ qs, Tamed j qs ∧ E = [.own 27 2 v qs.length (prs qs)]) := by
  have hm : Mem w [] [] w := Mem.init w
  refine cl_enter Try.func14 rfl Try.ntmps14 rfl ?_
  refine wc_seq ?_
  refine wc_region ?_
  refine wl_y (y_assign (by conv => lhs; whnf)) ?_
  refine wl_nil ?_
  refine then_normal ?_
  refine wc_seq ?_
  refine wc_region ?_
  refine wl_y (y_move (by conv => lhs; whnf)) ?_
  refine wl_y (y_lenSl (by conv => lhs; whnf) (hl.step hm.upd) Try.underlying22) ?_
  refine wl_y (y_min rfl rfl) ?_
  refine wl_y (y_max rfl rfl) ?_
  refine wl_y (y_assign (by conv => lhs; whnf)) ?_
  refine wl_nil ?_
  refine then_normal ?_
  refine wc_seq ?_
  refine wc_region ?_
  obtain ⟨k, hk⟩ : ∃ k : Nat, max 1 (min (ps.length : Int) 5) = k := ⟨max 1 (min ps.length 5), by omega⟩
  rw [hk]
  have hk5 : 1 ≤ k ∧ k ≤ 5 := by omega
  refine wl_y (y_assign (by conv => lhs; whnf)) ?_
  have hm := hm.ownNil 27 2
  refine wl_nil ?_
  refine then_normal ?_
  refine wc_seq ?_
  refine wc_seq ?_
  refine wc_region ?_
  refine wl_y (y_assign (by conv => lhs; whnf)) ?_
  refine wl_nil ?_
  refine then_normal ?_
  refine wc_block ?_
  refine wc_loop [6, 7, 8, 9, 10, 19, 20, 21, 22, 23, 24, 25, 26, 27, 28, 29, 30, 31, 32, 33, 34, 35, 36, 37, 38, 39, 40, 41, 42, 43, 44, 45, 46, 47, 48, 49, 50, 51, 52, 53, 54, 55, 56, 57, 58, 59, 60, 61, 62, 63, 64, 65, 66, 67, 68, 69, 70, 71, 72, 73, 74, 75, 76, 77, 78, 79, 80, 81, 82, 83, 84, 85, 86] (fun ((v, qs, vo) : Nat × List (Int × Int) × Value) => [(7, .int .i64 (v : Int)), (6, vo)]) (fun ((v, qs, vo) : Nat × List (Int × Int) × Value) W => Mem w [] [.own 27 2 vo v (prs qs)] W ∧ v ≤ k ∧ qs.length = v ∧ RowsOk k j qs) (fun ((v, qs, vo) : Nat × List (Int × Int) × Value) => k - v) ((0, [], .slice none 0 0) : Nat × List (Int × Int) × Value) ?_ ?_ ?_
  · exact ⟨rfl, rfl, trivial⟩
  · exact ⟨hm, Nat.zero_le _, rfl, fun i hi => absurd hi (Nat.not_lt_zero i)⟩
  · rintro ⟨v, qs, vo⟩ u W ⟨hm, hv, hq, hrows⟩
    refine wc_seq ?_
    refine wc_seq ?_
    refine wc_region ?_
    refine wl_y (y_move (by conv => lhs; whnf)) ?_
    refine wl_y (y_move (by conv => lhs; whnf)) ?_
    refine wl_y (y_lss rfl rfl) ?_
    refine wl_nil ?_
    refine then_normal ?_
    refine wc_cond_dec rfl (fun h1 => ?_) (fun h1 => ?_)
    · skip
      refine wc_skip ?_
      refine then_normal ?_
      refine wc_seq ?_
      refine wc_block ?_
      refine wc_seq ?_
      refine wc_region ?_
      refine wl_y (y_buildL (cells := #[.int .i64 (-1), .int .i64 (-1)]) rfl (by kernel_rfl)) ?_
      refine wl_alloc hm ti27 (fun W b8 hm hb8 hu => ?_)
      refine wl_storeBlk (i := 1) (vs := pcells (-1, -1)) hm rfl rfl rfl ti27 rfl rfl (by simp [pcells, Value.oneCell']) (fun W hm => ?_)
      refine wl_nil ?_
      refine then_normal ?_
      refine wc_seq ?_
      refine wc_seq ?_
      refine wc_region ?_
      refine wl_y (y_assign (by conv => lhs; whnf)) ?_
      refine wl_nil ?_
      refine then_normal ?_
      refine wc_block ?_
      refine wc_loop [9, 25, 26, 27, 28, 29, 30, 31, 32, 33, 34, 35, 36, 37, 38, 39, 40, 41, 42, 43, 44, 45, 46, 47, 48, 49] (fun ((x, r) : Nat × (Int × Int)) => [(9, .int .i64 (x : Int))]) (fun ((x, r) : Nat × (Int × Int)) W => Mem w [] [.own 27 2 vo v (prs qs), .blk b8 27 (pcells r)] W ∧ x ≤ 2 ∧ RwOk k r) (fun ((x, r) : Nat × (Int × Int)) => 2 - x) ((0, (-1, -1)) : Nat × (Int × Int)) ?_ ?_ ?_
      · exact ⟨rfl, trivial⟩
      · exact ⟨hm, Nat.zero_le _, ⟨by simp only; omega, by simp only; omega⟩⟩
      · rintro ⟨x, r⟩ u W ⟨hm, hx, hr⟩
        refine wc_seq ?_
        refine wc_seq ?_
        refine wc_region ?_
        refine wl_y (y_move (by conv => lhs; whnf)) ?_
        refine wl_y (y_lss rfl rfl) ?_
        refine wl_split rfl (fun h2 => ?_) (fun h2 => ?_)
        · skip
          refine wl_guard_yes rfl ?_
          refine wl_y (y_move (by conv => lhs; whnf)) ?_
          refine wl_guard_yes rfl ?_
          refine wl_y (y_move (by conv => lhs; whnf)) ?_
          refine wl_guard_yes rfl ?_
          refine wl_y (y_lenSl (by conv => lhs; whnf) (hl.step hm.upd) Try.underlying22) ?_
          refine wl_guard_yes rfl ?_
          refine wl_y (y_lss rfl rfl) ?_
          refine wl_y (y_pick_true rfl (by conv => lhs; whnf)) ?_
          refine wl_nil ?_
          refine then_normal ?_
          refine wc_cond_dec rfl (fun h3 => ?_) (fun h3 => ?_)
          · skip
            refine wc_skip ?_
            refine then_normal ?_
            refine wc_seq ?_
            refine wc_block ?_
            refine wc_region ?_
            refine wl_y (y_move (by conv => lhs; whnf)) ?_
            refine wl_y (y_move (by conv => lhs; whnf)) ?_
            refine wl_y (y_move (by conv => lhs; whnf)) ?_
            refine wl_y (y_move (by conv => lhs; whnf)) ?_
            refine wl_y (y_indexAddr (by conv => lhs; whnf) rfl (hl.step hm.upd) (by omega) Try.underlying22 ti27 (by decide)) ?_
            refine wl_y (y_indexArrSl rfl rfl (hl.step hm.upd) (by simp; omega) (by omega) Try.underlying27 ti3) ?_
            refine wl_y (y_loadSl rfl (hl.step hm.upd) (by first | exact tabR_at0 (by omega) | exact tabR_aI (by omega) (by omega)) Try.underlying3 rfl) ?_
            refine wl_y (y_convW rfl Try.underlying3 Try.underlying39) ?_
            refine wl_y (y_move (by conv => lhs; whnf)) ?_
            refine wl_y (y_add64 rfl rfl (by omega)) ?_
            refine wl_y (y_conv rfl Try.underlying3 Try.underlying39 (IntWalk.u64_in _ (by omega))) ?_
            have hur := u64_range (tabR ps (v : Int).toNat x)
            have hmd := mod_lt (k := k + 1) (by omega) (IntKind.u64.wrap (tabR ps (v : Int).toNat x))
            rw [show ((k + 1 : Nat) : Int) = (k : Int) + 1 by omega] at hmd
            refine wl_y (y_rem rfl rfl (by omega)) ?_
            refine wl_y (y_conv rfl Try.underlying39 Try.underlying3 (IntWalk.i64_in _ (by omega))) ?_
            refine wl_y (y_sub64 rfl rfl (by omega)) ?_
            refine wl_y (y_indexArr rfl rfl (by omega) Try.underlying27 ti3) ?_
            refine wl_store1 (i := 1) (v := .int .i64 (IntKind.u64.wrap (tabR ps (v : Int).toNat x) % ((k : Int) + 1) - 1)) hm rfl rfl rfl ti3 (by simp [pcells] <;> omega) rfl rfl (fun W hm => ?_)
            rw [pcells_set (by omega)] at hm
            have hr := hr.set (x := x) (z := IntKind.u64.wrap (tabR ps (v : Int).toNat x) % ((k : Int) + 1) - 1) (by omega)
            refine wl_nil ?_
            refine block_normal ?_
            refine then_normal ?_
            refine wc_region ?_
            refine wl_y (y_move (by conv => lhs; whnf)) ?_
            refine wl_y (y_add64 rfl rfl (by omega)) ?_
            refine wl_y (y_assign (by conv => lhs; whnf)) ?_
            refine wl_nil ?_
            refine next_round (σ := Nat × (Int × Int)) (x + 1, rset r x (IntKind.u64.wrap (tabR ps (v : Int).toNat x) % ((k : Int) + 1) - 1)) rfl (by repeat first | exact out_hav | refine out_look rfl ?_ | refine out_havIn rfl ?_) ⟨rfl, trivial⟩ ⟨hm, by omega, hr⟩ (by (try dsimp only); omega)
          · skip
            refine wc_exit ?_
            refine then_exit ?_
            refine then_exit ?_
            refine block_exit ?_
            refine then_normal ?_
            refine wc_seq ?_
            refine wc_seq ?_
            refine wc_region ?_
            refine wl_y (y_move (by conv => lhs; whnf)) ?_
            refine wl_nil ?_
            refine then_normal ?_
            refine wc_cond rfl (fun h4 => ?_) (fun h4 => ?_)
            · have hjt : j = true := h4
              refine wc_seq ?_
              refine wc_region ?_
              refine wl_y (y_assign (by conv => lhs; whnf)) ?_
              refine wl_nil ?_
              refine then_normal ?_
              refine wc_seq ?_
              refine wc_seq ?_
              refine wc_region ?_
              refine wl_y (y_move (by conv => lhs; whnf)) ?_
              refine wl_y (y_move (by conv => lhs; whnf)) ?_
              refine wl_y (y_lenSl (by conv => lhs; whnf) (hl.step hm.upd) Try.underlying22) ?_
              refine wl_y (y_lss rfl rfl) ?_
              refine wl_nil ?_
              refine then_normal ?_
              refine wc_cond_dec rfl (fun h5 => ?_) (fun h5 => ?_)
              · skip
                refine wc_region ?_
                refine wl_y (y_move (by conv => lhs; whnf)) ?_
                refine wl_y (y_move (by conv => lhs; whnf)) ?_
                refine wl_y (y_indexAddr (by conv => lhs; whnf) rfl (hl.step hm.upd) (by omega) Try.underlying22 ti27 (by decide)) ?_
                refine wl_y (y_indexArrSl rfl rfl (hl.step hm.upd) (by simp; omega) (by omega) Try.underlying27 ti3) ?_
                refine wl_y (y_loadSl rfl (hl.step hm.upd) (by first | exact tabR_at0 (by omega) | exact tabR_aI (by omega) (by omega)) Try.underlying3 rfl) ?_
                refine wl_y (y_convW rfl Try.underlying3 Try.underlying39) ?_
                have hur := u64_range (tabR ps (v : Int).toNat 0)
                refine wl_y (y_quoU64 rfl rfl (by omega)) ?_
                refine wl_y (y_rem rfl rfl (by omega)) ?_
                refine wl_y (y_conv rfl Try.underlying39 Try.underlying3 (IntWalk.i64_in _ (by omega))) ?_
                refine wl_y (y_assign (by conv => lhs; whnf)) ?_
                refine wl_nil ?_
                refine then_normal ?_
                refine wc_region ?_
                obtain ⟨xj, hxj, hxj2⟩ : ∃ xj : Nat, IntKind.u64.wrap (tabR ps (v : Int).toNat 0) / 8 % 2 = xj ∧ xj < 2 := ⟨(IntKind.u64.wrap (tabR ps (v : Int).toNat 0) / 8 % 2).toNat, by omega, by omega⟩
                rw [hxj]
                have hmr := mod_lt hk5.1 ((v : Int) + 1)
                refine wl_y (y_move (by conv => lhs; whnf)) ?_
                refine wl_y (y_move (by conv => lhs; whnf)) ?_
                refine wl_y (y_add64 rfl rfl (by omega)) ?_
                refine wl_y (y_move (by conv => lhs; whnf)) ?_
                refine wl_y (y_rem rfl rfl (by omega)) ?_
                refine wl_y (y_indexArr rfl rfl (by omega) Try.underlying27 ti3) ?_
                refine wl_store1 (i := 1) (v := .int .i64 (((v : Int) + 1) % (k : Int))) hm rfl rfl rfl ti3 (by simp [pcells] <;> omega) rfl rfl (fun W hm => ?_)
                rw [pcells_set hxj2] at hm
                obtain ⟨r, hr, hjr, hm⟩ : ∃ r2, RwOk k r2 ∧ (j = true → RingR k v r2) ∧ Mem w [] [.own 27 2 vo v (prs qs), .blk b8 27 (pcells r2)] W := ⟨rset r xj (((v : Int) + 1) % (k : Int)), hr.set (by omega), fun _ => ring_set hxj2, hm⟩
                refine wl_nil ?_
                refine then_normal ?_
                refine wc_seq ?_
                refine wc_seq ?_
                refine wc_region ?_
                refine wl_y (y_indexArr rfl rfl (by omega) Try.underlying27 ti3) ?_
                refine wl_y (y_load rfl (hm.blk_cell 1 rfl rfl) Try.underlying3 rfl) ?_
                refine wl_y (y_lss rfl rfl) ?_
                refine wl_split rfl (fun h6 => ?_) (fun h6 => ?_)
                · skip
                  refine wl_guard_yes rfl ?_
                  refine wl_y (y_indexArr rfl rfl (by omega) Try.underlying27 ti3) ?_
                  refine wl_guard_yes rfl ?_
                  refine wl_y (y_load rfl (hm.blk_cell 1 rfl rfl) Try.underlying3 rfl) ?_
                  refine wl_guard_yes rfl ?_
                  refine wl_y (y_lss rfl rfl) ?_
                  refine wl_y (y_pick_true rfl (by conv => lhs; whnf)) ?_
                  refine wl_nil ?_
                  refine then_normal ?_
                  refine wc_cond_dec rfl (fun h7 => ?_) (fun h7 => ?_)
                  · skip
                    refine wc_region ?_
                    refine wl_y (y_move (by conv => lhs; whnf)) ?_
                    refine wl_y (y_add64 rfl rfl (by omega)) ?_
                    refine wl_y (y_move (by conv => lhs; whnf)) ?_
                    refine wl_y (y_rem rfl rfl (by omega)) ?_
                    refine wl_y (y_indexArr rfl rfl (by omega) Try.underlying27 ti3) ?_
                    have hmr := mod_lt hk5.1 ((v : Int) + 1)
                    refine wl_store1 (i := 1) (v := .int .i64 (((v : Int) + 1) % (k : Int))) hm rfl rfl rfl ti3 (by simp [pcells]) rfl rfl (fun W hm => ?_)
                    rw [pcells_set1] at hm
                    obtain ⟨r, hr, hjr, hm⟩ : ∃ r2, RwOk k r2 ∧ (j = true → RingR k v r2) ∧ Mem w [] [.own 27 2 vo v (prs qs), .blk b8 27 (pcells r2)] W := ⟨rset r 1 (((v : Int) + 1) % (k : Int)), hr.set (by omega), fun _ => ring_set1 r, hm⟩
                    refine wl_nil ?_
                    refine then_normal ?_
                    refine wc_region ?_
                    refine wl_y (y_move (by conv => lhs; whnf)) ?_
                    refine wl_y (y_loadBlk rfl (hm.at (i := 1) rfl) Try.underlying27 rfl ti27) ?_
                    refine wl_lit1 hm rfl Try.underlying22 ti27 rfl (by decide) (fun W v85 hm hu => ?_)
                    have hm : Mem w [] ([.own 27 2 vo v (prs qs), .blk b8 27 (pcells r)] ++ [.own 27 2 v85 1 [.int .i64 r.1, .int .i64 r.2]]) W := hm
                    refine wl_appendTo (i := 0) hm rfl rfl rfl (hm.slAt 2 rfl) (prs_snoc _ _ _) Try.underlying22 ti27 rfl (by decide) (by simp [Value.oneCell']) (by omega) (fun W v86 hm hv86 => ?_)
                    have hm : Mem w [] [.own 27 2 v86 (v + 1) (prs (qs ++ [r]))] W := hm.take 1
                    refine wl_y (y_assign (by conv => lhs; whnf)) ?_
                    refine wl_nil ?_
                    refine block_normal ?_
                    refine then_normal ?_
                    refine wc_region ?_
                    refine wl_y (y_move (by conv => lhs; whnf)) ?_
                    refine wl_y (y_add64 rfl rfl (by omega)) ?_
                    refine wl_y (y_assign (by conv => lhs; whnf)) ?_
                    refine wl_nil ?_
                    refine next_round (σ := Nat × List (Int × Int) × Value) (v + 1, qs ++ [r], v86) rfl (by repeat first | exact out_hav | refine out_look rfl ?_ | refine out_havIn rfl ?_) ⟨rfl, rfl, trivial⟩ ⟨hm, by omega, by rw [List.length_append, hq]; rfl, hrows.snoc hr (by rw [hq]; exact hjr)⟩ (by (try dsimp only); omega)
                  · skip
                    refine wc_skip ?_
                    refine then_normal ?_
                    refine wc_region ?_
                    refine wl_y (y_move (by conv => lhs; whnf)) ?_
                    refine wl_y (y_loadBlk rfl (hm.at (i := 1) rfl) Try.underlying27 rfl ti27) ?_
                    refine wl_lit1 hm rfl Try.underlying22 ti27 rfl (by decide) (fun W v85 hm hu => ?_)
                    have hm : Mem w [] ([.own 27 2 vo v (prs qs), .blk b8 27 (pcells r)] ++ [.own 27 2 v85 1 [.int .i64 r.1, .int .i64 r.2]]) W := hm
                    refine wl_appendTo (i := 0) hm rfl rfl rfl (hm.slAt 2 rfl) (prs_snoc _ _ _) Try.underlying22 ti27 rfl (by decide) (by simp [Value.oneCell']) (by omega) (fun W v86 hm hv86 => ?_)
                    have hm : Mem w [] [.own 27 2 v86 (v + 1) (prs (qs ++ [r]))] W := hm.take 1
                    refine wl_y (y_assign (by conv => lhs; whnf)) ?_
                    refine wl_nil ?_
                    refine block_normal ?_
                    refine then_normal ?_
                    refine wc_region ?_
                    refine wl_y (y_move (by conv => lhs; whnf)) ?_
                    refine wl_y (y_add64 rfl rfl (by omega)) ?_
                    refine wl_y (y_assign (by conv => lhs; whnf)) ?_
                    refine wl_nil ?_
                    refine next_round (σ := Nat × List (Int × Int) × Value) (v + 1, qs ++ [r], v86) rfl (by repeat first | exact out_hav | refine out_look rfl ?_ | refine out_havIn rfl ?_) ⟨rfl, rfl, trivial⟩ ⟨hm, by omega, by rw [List.length_append, hq]; rfl, hrows.snoc hr (by rw [hq]; exact hjr)⟩ (by (try dsimp only); omega)
                · skip
                  refine wl_guard_no rfl ?_
                  refine wl_guard_no rfl ?_
                  refine wl_guard_no rfl ?_
                  refine wl_y (y_pick_false rfl (by conv => lhs; whnf)) ?_
                  refine wl_nil ?_
                  refine then_normal ?_
                  refine wc_cond_false rfl ?_
                  refine wc_skip ?_
                  refine then_normal ?_
                  refine wc_region ?_
                  refine wl_y (y_move (by conv => lhs; whnf)) ?_
                  refine wl_y (y_loadBlk rfl (hm.at (i := 1) rfl) Try.underlying27 rfl ti27) ?_
                  refine wl_lit1 hm rfl Try.underlying22 ti27 rfl (by decide) (fun W v85 hm hu => ?_)
                  have hm : Mem w [] ([.own 27 2 vo v (prs qs), .blk b8 27 (pcells r)] ++ [.own 27 2 v85 1 [.int .i64 r.1, .int .i64 r.2]]) W := hm
                  refine wl_appendTo (i := 0) hm rfl rfl rfl (hm.slAt 2 rfl) (prs_snoc _ _ _) Try.underlying22 ti27 rfl (by decide) (by simp [Value.oneCell']) (by omega) (fun W v86 hm hv86 => ?_)
                  have hm : Mem w [] [.own 27 2 v86 (v + 1) (prs (qs ++ [r]))] W := hm.take 1
                  refine wl_y (y_assign (by conv => lhs; whnf)) ?_
                  refine wl_nil ?_
                  refine block_normal ?_
                  refine then_normal ?_
                  refine wc_region ?_
                  refine wl_y (y_move (by conv => lhs; whnf)) ?_
                  refine wl_y (y_add64 rfl rfl (by omega)) ?_
                  refine wl_y (y_assign (by conv => lhs; whnf)) ?_
                  refine wl_nil ?_
                  refine next_round (σ := Nat × List (Int × Int) × Value) (v + 1, qs ++ [r], v86) rfl (by repeat first | exact out_hav | refine out_look rfl ?_ | refine out_havIn rfl ?_) ⟨rfl, rfl, trivial⟩ ⟨hm, by omega, by rw [List.length_append, hq]; rfl, hrows.snoc hr (by rw [hq]; exact hjr)⟩ (by (try dsimp only); omega)
              · skip
                refine wc_skip ?_
                refine then_normal ?_
                refine wc_region ?_
                have hxj2 : (0 : Nat) < 2 := by decide
                skip
                have hmr := mod_lt hk5.1 ((v : Int) + 1)
                refine wl_y (y_move (by conv => lhs; whnf)) ?_
                refine wl_y (y_move (by conv => lhs; whnf)) ?_
                refine wl_y (y_add64 rfl rfl (by omega)) ?_
                refine wl_y (y_move (by conv => lhs; whnf)) ?_
                refine wl_y (y_rem rfl rfl (by omega)) ?_
                refine wl_y (y_indexArr rfl rfl (by omega) Try.underlying27 ti3) ?_
                refine wl_store1 (i := 1) (v := .int .i64 (((v : Int) + 1) % (k : Int))) hm rfl rfl rfl ti3 (by simp [pcells] <;> omega) rfl rfl (fun W hm => ?_)
                rw [pcells_set0] at hm
                obtain ⟨r, hr, hjr, hm⟩ : ∃ r2, RwOk k r2 ∧ (j = true → RingR k v r2) ∧ Mem w [] [.own 27 2 vo v (prs qs), .blk b8 27 (pcells r2)] W := ⟨rset r 0 (((v : Int) + 1) % (k : Int)), hr.set (by omega), fun _ => ring_set hxj2, hm⟩
                refine wl_nil ?_
                refine then_normal ?_
                refine wc_seq ?_
                refine wc_seq ?_
                refine wc_region ?_
                refine wl_y (y_indexArr rfl rfl (by omega) Try.underlying27 ti3) ?_
                refine wl_y (y_load rfl (hm.blk_cell 1 rfl rfl) Try.underlying3 rfl) ?_
                refine wl_y (y_lss rfl rfl) ?_
                refine wl_split rfl (fun h8 => ?_) (fun h8 => ?_)
                · skip
                  refine wl_guard_yes rfl ?_
                  refine wl_y (y_indexArr rfl rfl (by omega) Try.underlying27 ti3) ?_
                  refine wl_guard_yes rfl ?_
                  refine wl_y (y_load rfl (hm.blk_cell 1 rfl rfl) Try.underlying3 rfl) ?_
                  refine wl_guard_yes rfl ?_
                  refine wl_y (y_lss rfl rfl) ?_
                  refine wl_y (y_pick_true rfl (by conv => lhs; whnf)) ?_
                  refine wl_nil ?_
                  refine then_normal ?_
                  refine wc_cond_dec rfl (fun h9 => ?_) (fun h9 => ?_)
                  · skip
                    refine wc_region ?_
                    refine wl_y (y_move (by conv => lhs; whnf)) ?_
                    refine wl_y (y_add64 rfl rfl (by omega)) ?_
                    refine wl_y (y_move (by conv => lhs; whnf)) ?_
                    refine wl_y (y_rem rfl rfl (by omega)) ?_
                    refine wl_y (y_indexArr rfl rfl (by omega) Try.underlying27 ti3) ?_
                    have hmr := mod_lt hk5.1 ((v : Int) + 1)
                    refine wl_store1 (i := 1) (v := .int .i64 (((v : Int) + 1) % (k : Int))) hm rfl rfl rfl ti3 (by simp [pcells]) rfl rfl (fun W hm => ?_)
                    rw [pcells_set1] at hm
                    obtain ⟨r, hr, hjr, hm⟩ : ∃ r2, RwOk k r2 ∧ (j = true → RingR k v r2) ∧ Mem w [] [.own 27 2 vo v (prs qs), .blk b8 27 (pcells r2)] W := ⟨rset r 1 (((v : Int) + 1) % (k : Int)), hr.set (by omega), fun _ => ring_set1 r, hm⟩
                    refine wl_nil ?_
                    refine then_normal ?_
                    refine wc_region ?_
                    refine wl_y (y_move (by conv => lhs; whnf)) ?_
                    refine wl_y (y_loadBlk rfl (hm.at (i := 1) rfl) Try.underlying27 rfl ti27) ?_
                    refine wl_lit1 hm rfl Try.underlying22 ti27 rfl (by decide) (fun W v85 hm hu => ?_)
                    have hm : Mem w [] ([.own 27 2 vo v (prs qs), .blk b8 27 (pcells r)] ++ [.own 27 2 v85 1 [.int .i64 r.1, .int .i64 r.2]]) W := hm
                    refine wl_appendTo (i := 0) hm rfl rfl rfl (hm.slAt 2 rfl) (prs_snoc _ _ _) Try.underlying22 ti27 rfl (by decide) (by simp [Value.oneCell']) (by omega) (fun W v86 hm hv86 => ?_)
                    have hm : Mem w [] [.own 27 2 v86 (v + 1) (prs (qs ++ [r]))] W := hm.take 1
                    refine wl_y (y_assign (by conv => lhs; whnf)) ?_
                    refine wl_nil ?_
                    refine block_normal ?_
                    refine then_normal ?_
                    refine wc_region ?_
                    refine wl_y (y_move (by conv => lhs; whnf)) ?_
                    refine wl_y (y_add64 rfl rfl (by omega)) ?_
                    refine wl_y (y_assign (by conv => lhs; whnf)) ?_
                    refine wl_nil ?_
                    refine next_round (σ := Nat × List (Int × Int) × Value) (v + 1, qs ++ [r], v86) rfl (by repeat first | exact out_hav | refine out_look rfl ?_ | refine out_havIn rfl ?_) ⟨rfl, rfl, trivial⟩ ⟨hm, by omega, by rw [List.length_append, hq]; rfl, hrows.snoc hr (by rw [hq]; exact hjr)⟩ (by (try dsimp only); omega)
                  · skip
                    refine wc_skip ?_
                    refine then_normal ?_
                    refine wc_region ?_
                    refine wl_y (y_move (by conv => lhs; whnf)) ?_
                    refine wl_y (y_loadBlk rfl (hm.at (i := 1) rfl) Try.underlying27 rfl ti27) ?_
                    refine wl_lit1 hm rfl Try.underlying22 ti27 rfl (by decide) (fun W v85 hm hu => ?_)
                    have hm : Mem w [] ([.own 27 2 vo v (prs qs), .blk b8 27 (pcells r)] ++ [.own 27 2 v85 1 [.int .i64 r.1, .int .i64 r.2]]) W := hm
                    refine wl_appendTo (i := 0) hm rfl rfl rfl (hm.slAt 2 rfl) (prs_snoc _ _ _) Try.underlying22 ti27 rfl (by decide) (by simp [Value.oneCell']) (by omega) (fun W v86 hm hv86 => ?_)
                    have hm : Mem w [] [.own 27 2 v86 (v + 1) (prs (qs ++ [r]))] W := hm.take 1
                    refine wl_y (y_assign (by conv => lhs; whnf)) ?_
                    refine wl_nil ?_
                    refine block_normal ?_
                    refine then_normal ?_
                    refine wc_region ?_
                    refine wl_y (y_move (by conv => lhs; whnf)) ?_
                    refine wl_y (y_add64 rfl rfl (by omega)) ?_
                    refine wl_y (y_assign (by conv => lhs; whnf)) ?_
                    refine wl_nil ?_
                    refine next_round (σ := Nat × List (Int × Int) × Value) (v + 1, qs ++ [r], v86) rfl (by repeat first | exact out_hav | refine out_look rfl ?_ | refine out_havIn rfl ?_) ⟨rfl, rfl, trivial⟩ ⟨hm, by omega, by rw [List.length_append, hq]; rfl, hrows.snoc hr (by rw [hq]; exact hjr)⟩ (by (try dsimp only); omega)
                · skip
                  refine wl_guard_no rfl ?_
                  refine wl_guard_no rfl ?_
                  refine wl_guard_no rfl ?_
                  refine wl_y (y_pick_false rfl (by conv => lhs; whnf)) ?_
                  refine wl_nil ?_
                  refine then_normal ?_
                  refine wc_cond_false rfl ?_
                  refine wc_skip ?_
                  refine then_normal ?_
                  refine wc_region ?_
                  refine wl_y (y_move (by conv => lhs; whnf)) ?_
                  refine wl_y (y_loadBlk rfl (hm.at (i := 1) rfl) Try.underlying27 rfl ti27) ?_
                  refine wl_lit1 hm rfl Try.underlying22 ti27 rfl (by decide) (fun W v85 hm hu => ?_)
                  have hm : Mem w [] ([.own 27 2 vo v (prs qs), .blk b8 27 (pcells r)] ++ [.own 27 2 v85 1 [.int .i64 r.1, .int .i64 r.2]]) W := hm
                  refine wl_appendTo (i := 0) hm rfl rfl rfl (hm.slAt 2 rfl) (prs_snoc _ _ _) Try.underlying22 ti27 rfl (by decide) (by simp [Value.oneCell']) (by omega) (fun W v86 hm hv86 => ?_)
                  have hm : Mem w [] [.own 27 2 v86 (v + 1) (prs (qs ++ [r]))] W := hm.take 1
                  refine wl_y (y_assign (by conv => lhs; whnf)) ?_
                  refine wl_nil ?_
                  refine block_normal ?_
                  refine then_normal ?_
                  refine wc_region ?_
                  refine wl_y (y_move (by conv => lhs; whnf)) ?_
                  refine wl_y (y_add64 rfl rfl (by omega)) ?_
                  refine wl_y (y_assign (by conv => lhs; whnf)) ?_
                  refine wl_nil ?_
                  refine next_round (σ := Nat × List (Int × Int) × Value) (v + 1, qs ++ [r], v86) rfl (by repeat first | exact out_hav | refine out_look rfl ?_ | refine out_havIn rfl ?_) ⟨rfl, rfl, trivial⟩ ⟨hm, by omega, by rw [List.length_append, hq]; rfl, hrows.snoc hr (by rw [hq]; exact hjr)⟩ (by (try dsimp only); omega)
            · have hjf : j = false := h4
              obtain ⟨r, hr, hjr, hm⟩ : ∃ r2, RwOk k r2 ∧ (j = true → RingR k v r2) ∧ Mem w [] [.own 27 2 vo v (prs qs), .blk b8 27 (pcells r2)] W := ⟨r, hr, (fun h => absurd h (by rw [hjf]; decide)), hm⟩
              refine wc_skip ?_
              refine then_normal ?_
              refine wc_seq ?_
              refine wc_seq ?_
              refine wc_region ?_
              refine wl_y (y_indexArr rfl rfl (by omega) Try.underlying27 ti3) ?_
              refine wl_y (y_load rfl (hm.blk_cell 1 rfl rfl) Try.underlying3 rfl) ?_
              refine wl_y (y_lss rfl rfl) ?_
              refine wl_split rfl (fun h10 => ?_) (fun h10 => ?_)
              · skip
                refine wl_guard_yes rfl ?_
                refine wl_y (y_indexArr rfl rfl (by omega) Try.underlying27 ti3) ?_
                refine wl_guard_yes rfl ?_
                refine wl_y (y_load rfl (hm.blk_cell 1 rfl rfl) Try.underlying3 rfl) ?_
                refine wl_guard_yes rfl ?_
                refine wl_y (y_lss rfl rfl) ?_
                refine wl_y (y_pick_true rfl (by conv => lhs; whnf)) ?_
                refine wl_nil ?_
                refine then_normal ?_
                refine wc_cond_dec rfl (fun h11 => ?_) (fun h11 => ?_)
                · skip
                  refine wc_region ?_
                  refine wl_y (y_move (by conv => lhs; whnf)) ?_
                  refine wl_y (y_add64 rfl rfl (by omega)) ?_
                  refine wl_y (y_move (by conv => lhs; whnf)) ?_
                  refine wl_y (y_rem rfl rfl (by omega)) ?_
                  refine wl_y (y_indexArr rfl rfl (by omega) Try.underlying27 ti3) ?_
                  have hmr := mod_lt hk5.1 ((v : Int) + 1)
                  refine wl_store1 (i := 1) (v := .int .i64 (((v : Int) + 1) % (k : Int))) hm rfl rfl rfl ti3 (by simp [pcells]) rfl rfl (fun W hm => ?_)
                  rw [pcells_set1] at hm
                  obtain ⟨r, hr, hjr, hm⟩ : ∃ r2, RwOk k r2 ∧ (j = true → RingR k v r2) ∧ Mem w [] [.own 27 2 vo v (prs qs), .blk b8 27 (pcells r2)] W := ⟨rset r 1 (((v : Int) + 1) % (k : Int)), hr.set (by omega), fun _ => ring_set1 r, hm⟩
                  refine wl_nil ?_
                  refine then_normal ?_
                  refine wc_region ?_
                  refine wl_y (y_move (by conv => lhs; whnf)) ?_
                  refine wl_y (y_loadBlk rfl (hm.at (i := 1) rfl) Try.underlying27 rfl ti27) ?_
                  refine wl_lit1 hm rfl Try.underlying22 ti27 rfl (by decide) (fun W v85 hm hu => ?_)
                  have hm : Mem w [] ([.own 27 2 vo v (prs qs), .blk b8 27 (pcells r)] ++ [.own 27 2 v85 1 [.int .i64 r.1, .int .i64 r.2]]) W := hm
                  refine wl_appendTo (i := 0) hm rfl rfl rfl (hm.slAt 2 rfl) (prs_snoc _ _ _) Try.underlying22 ti27 rfl (by decide) (by simp [Value.oneCell']) (by omega) (fun W v86 hm hv86 => ?_)
                  have hm : Mem w [] [.own 27 2 v86 (v + 1) (prs (qs ++ [r]))] W := hm.take 1
                  refine wl_y (y_assign (by conv => lhs; whnf)) ?_
                  refine wl_nil ?_
                  refine block_normal ?_
                  refine then_normal ?_
                  refine wc_region ?_
                  refine wl_y (y_move (by conv => lhs; whnf)) ?_
                  refine wl_y (y_add64 rfl rfl (by omega)) ?_
                  refine wl_y (y_assign (by conv => lhs; whnf)) ?_
                  refine wl_nil ?_
                  refine next_round (σ := Nat × List (Int × Int) × Value) (v + 1, qs ++ [r], v86) rfl (by repeat first | exact out_hav | refine out_look rfl ?_ | refine out_havIn rfl ?_) ⟨rfl, rfl, trivial⟩ ⟨hm, by omega, by rw [List.length_append, hq]; rfl, hrows.snoc hr (by rw [hq]; exact hjr)⟩ (by (try dsimp only); omega)
                · skip
                  refine wc_skip ?_
                  refine then_normal ?_
                  refine wc_region ?_
                  refine wl_y (y_move (by conv => lhs; whnf)) ?_
                  refine wl_y (y_loadBlk rfl (hm.at (i := 1) rfl) Try.underlying27 rfl ti27) ?_
                  refine wl_lit1 hm rfl Try.underlying22 ti27 rfl (by decide) (fun W v85 hm hu => ?_)
                  have hm : Mem w [] ([.own 27 2 vo v (prs qs), .blk b8 27 (pcells r)] ++ [.own 27 2 v85 1 [.int .i64 r.1, .int .i64 r.2]]) W := hm
                  refine wl_appendTo (i := 0) hm rfl rfl rfl (hm.slAt 2 rfl) (prs_snoc _ _ _) Try.underlying22 ti27 rfl (by decide) (by simp [Value.oneCell']) (by omega) (fun W v86 hm hv86 => ?_)
                  have hm : Mem w [] [.own 27 2 v86 (v + 1) (prs (qs ++ [r]))] W := hm.take 1
                  refine wl_y (y_assign (by conv => lhs; whnf)) ?_
                  refine wl_nil ?_
                  refine block_normal ?_
                  refine then_normal ?_
                  refine wc_region ?_
                  refine wl_y (y_move (by conv => lhs; whnf)) ?_
                  refine wl_y (y_add64 rfl rfl (by omega)) ?_
                  refine wl_y (y_assign (by conv => lhs; whnf)) ?_
                  refine wl_nil ?_
                  refine next_round (σ := Nat × List (Int × Int) × Value) (v + 1, qs ++ [r], v86) rfl (by repeat first | exact out_hav | refine out_look rfl ?_ | refine out_havIn rfl ?_) ⟨rfl, rfl, trivial⟩ ⟨hm, by omega, by rw [List.length_append, hq]; rfl, hrows.snoc hr (by rw [hq]; exact hjr)⟩ (by (try dsimp only); omega)
              · skip
                refine wl_guard_no rfl ?_
                refine wl_guard_no rfl ?_
                refine wl_guard_no rfl ?_
                refine wl_y (y_pick_false rfl (by conv => lhs; whnf)) ?_
                refine wl_nil ?_
                refine then_normal ?_
                refine wc_cond_false rfl ?_
                refine wc_skip ?_
                refine then_normal ?_
                refine wc_region ?_
                refine wl_y (y_move (by conv => lhs; whnf)) ?_
                refine wl_y (y_loadBlk rfl (hm.at (i := 1) rfl) Try.underlying27 rfl ti27) ?_
                refine wl_lit1 hm rfl Try.underlying22 ti27 rfl (by decide) (fun W v85 hm hu => ?_)
                have hm : Mem w [] ([.own 27 2 vo v (prs qs), .blk b8 27 (pcells r)] ++ [.own 27 2 v85 1 [.int .i64 r.1, .int .i64 r.2]]) W := hm
                refine wl_appendTo (i := 0) hm rfl rfl rfl (hm.slAt 2 rfl) (prs_snoc _ _ _) Try.underlying22 ti27 rfl (by decide) (by simp [Value.oneCell']) (by omega) (fun W v86 hm hv86 => ?_)
                have hm : Mem w [] [.own 27 2 v86 (v + 1) (prs (qs ++ [r]))] W := hm.take 1
                refine wl_y (y_assign (by conv => lhs; whnf)) ?_
                refine wl_nil ?_
                refine block_normal ?_
                refine then_normal ?_
                refine wc_region ?_
                refine wl_y (y_move (by conv => lhs; whnf)) ?_
                refine wl_y (y_add64 rfl rfl (by omega)) ?_
                refine wl_y (y_assign (by conv => lhs; whnf)) ?_
                refine wl_nil ?_
                refine next_round (σ := Nat × List (Int × Int) × Value) (v + 1, qs ++ [r], v86) rfl (by repeat first | exact out_hav | refine out_look rfl ?_ | refine out_havIn rfl ?_) ⟨rfl, rfl, trivial⟩ ⟨hm, by omega, by rw [List.length_append, hq]; rfl, hrows.snoc hr (by rw [hq]; exact hjr)⟩ (by (try dsimp only); omega)
        · skip
          refine wl_guard_no rfl ?_
          refine wl_guard_no rfl ?_
          refine wl_guard_no rfl ?_
          refine wl_guard_no rfl ?_
          refine wl_y (y_pick_false rfl (by conv => lhs; whnf)) ?_
          refine wl_nil ?_
          refine then_normal ?_
          refine wc_cond_false rfl ?_
          refine wc_exit ?_
          refine then_exit ?_
          refine then_exit ?_
          refine block_exit ?_
          refine then_normal ?_
          refine wc_seq ?_
          refine wc_seq ?_
          refine wc_region ?_
          refine wl_y (y_move (by conv => lhs; whnf)) ?_
          refine wl_nil ?_
          refine then_normal ?_
          refine wc_cond rfl (fun h12 => ?_) (fun h12 => ?_)
          · have hjt : j = true := h12
            refine wc_seq ?_
            refine wc_region ?_
            refine wl_y (y_assign (by conv => lhs; whnf)) ?_
            refine wl_nil ?_
            refine then_normal ?_
            refine wc_seq ?_
            refine wc_seq ?_
            refine wc_region ?_
            refine wl_y (y_move (by conv => lhs; whnf)) ?_
            refine wl_y (y_move (by conv => lhs; whnf)) ?_
            refine wl_y (y_lenSl (by conv => lhs; whnf) (hl.step hm.upd) Try.underlying22) ?_
            refine wl_y (y_lss rfl rfl) ?_
            refine wl_nil ?_
            refine then_normal ?_
            refine wc_cond_dec rfl (fun h13 => ?_) (fun h13 => ?_)
            · skip
              refine wc_region ?_
              refine wl_y (y_move (by conv => lhs; whnf)) ?_
              refine wl_y (y_move (by conv => lhs; whnf)) ?_
              refine wl_y (y_indexAddr (by conv => lhs; whnf) rfl (hl.step hm.upd) (by omega) Try.underlying22 ti27 (by decide)) ?_
              refine wl_y (y_indexArrSl rfl rfl (hl.step hm.upd) (by simp; omega) (by omega) Try.underlying27 ti3) ?_
              refine wl_y (y_loadSl rfl (hl.step hm.upd) (by first | exact tabR_at0 (by omega) | exact tabR_aI (by omega) (by omega)) Try.underlying3 rfl) ?_
              refine wl_y (y_convW rfl Try.underlying3 Try.underlying39) ?_
              have hur := u64_range (tabR ps (v : Int).toNat 0)
              refine wl_y (y_quoU64 rfl rfl (by omega)) ?_
              refine wl_y (y_rem rfl rfl (by omega)) ?_
              refine wl_y (y_conv rfl Try.underlying39 Try.underlying3 (IntWalk.i64_in _ (by omega))) ?_
              refine wl_y (y_assign (by conv => lhs; whnf)) ?_
              refine wl_nil ?_
              refine then_normal ?_
              refine wc_region ?_
              obtain ⟨xj, hxj, hxj2⟩ : ∃ xj : Nat, IntKind.u64.wrap (tabR ps (v : Int).toNat 0) / 8 % 2 = xj ∧ xj < 2 := ⟨(IntKind.u64.wrap (tabR ps (v : Int).toNat 0) / 8 % 2).toNat, by omega, by omega⟩
              rw [hxj]
              have hmr := mod_lt hk5.1 ((v : Int) + 1)
              refine wl_y (y_move (by conv => lhs; whnf)) ?_
              refine wl_y (y_move (by conv => lhs; whnf)) ?_
              refine wl_y (y_add64 rfl rfl (by omega)) ?_
              refine wl_y (y_move (by conv => lhs; whnf)) ?_
              refine wl_y (y_rem rfl rfl (by omega)) ?_
              refine wl_y (y_indexArr rfl rfl (by omega) Try.underlying27 ti3) ?_
              refine wl_store1 (i := 1) (v := .int .i64 (((v : Int) + 1) % (k : Int))) hm rfl rfl rfl ti3 (by simp [pcells] <;> omega) rfl rfl (fun W hm => ?_)
              rw [pcells_set hxj2] at hm
              obtain ⟨r, hr, hjr, hm⟩ : ∃ r2, RwOk k r2 ∧ (j = true → RingR k v r2) ∧ Mem w [] [.own 27 2 vo v (prs qs), .blk b8 27 (pcells r2)] W := ⟨rset r xj (((v : Int) + 1) % (k : Int)), hr.set (by omega), fun _ => ring_set hxj2, hm⟩
              refine wl_nil ?_
              refine then_normal ?_
              refine wc_seq ?_
              refine wc_seq ?_
              refine wc_region ?_
              refine wl_y (y_indexArr rfl rfl (by omega) Try.underlying27 ti3) ?_
              refine wl_y (y_load rfl (hm.blk_cell 1 rfl rfl) Try.underlying3 rfl) ?_
              refine wl_y (y_lss rfl rfl) ?_
              refine wl_split rfl (fun h14 => ?_) (fun h14 => ?_)
              · skip
                refine wl_guard_yes rfl ?_
                refine wl_y (y_indexArr rfl rfl (by omega) Try.underlying27 ti3) ?_
                refine wl_guard_yes rfl ?_
                refine wl_y (y_load rfl (hm.blk_cell 1 rfl rfl) Try.underlying3 rfl) ?_
                refine wl_guard_yes rfl ?_
                refine wl_y (y_lss rfl rfl) ?_
                refine wl_y (y_pick_true rfl (by conv => lhs; whnf)) ?_
                refine wl_nil ?_
                refine then_normal ?_
                refine wc_cond_dec rfl (fun h15 => ?_) (fun h15 => ?_)
                · skip
                  refine wc_region ?_
                  refine wl_y (y_move (by conv => lhs; whnf)) ?_
                  refine wl_y (y_add64 rfl rfl (by omega)) ?_
                  refine wl_y (y_move (by conv => lhs; whnf)) ?_
                  refine wl_y (y_rem rfl rfl (by omega)) ?_
                  refine wl_y (y_indexArr rfl rfl (by omega) Try.underlying27 ti3) ?_
                  have hmr := mod_lt hk5.1 ((v : Int) + 1)
                  refine wl_store1 (i := 1) (v := .int .i64 (((v : Int) + 1) % (k : Int))) hm rfl rfl rfl ti3 (by simp [pcells]) rfl rfl (fun W hm => ?_)
                  rw [pcells_set1] at hm
                  obtain ⟨r, hr, hjr, hm⟩ : ∃ r2, RwOk k r2 ∧ (j = true → RingR k v r2) ∧ Mem w [] [.own 27 2 vo v (prs qs), .blk b8 27 (pcells r2)] W := ⟨rset r 1 (((v : Int) + 1) % (k : Int)), hr.set (by omega), fun _ => ring_set1 r, hm⟩
                  refine wl_nil ?_
                  refine then_normal ?_
                  refine wc_region ?_
                  refine wl_y (y_move (by conv => lhs; whnf)) ?_
                  refine wl_y (y_loadBlk rfl (hm.at (i := 1) rfl) Try.underlying27 rfl ti27) ?_
                  refine wl_lit1 hm rfl Try.underlying22 ti27 rfl (by decide) (fun W v85 hm hu => ?_)
                  have hm : Mem w [] ([.own 27 2 vo v (prs qs), .blk b8 27 (pcells r)] ++ [.own 27 2 v85 1 [.int .i64 r.1, .int .i64 r.2]]) W := hm
                  refine wl_appendTo (i := 0) hm rfl rfl rfl (hm.slAt 2 rfl) (prs_snoc _ _ _) Try.underlying22 ti27 rfl (by decide) (by simp [Value.oneCell']) (by omega) (fun W v86 hm hv86 => ?_)
                  have hm : Mem w [] [.own 27 2 v86 (v + 1) (prs (qs ++ [r]))] W := hm.take 1
                  refine wl_y (y_assign (by conv => lhs; whnf)) ?_
                  refine wl_nil ?_
                  refine block_normal ?_
                  refine then_normal ?_
                  refine wc_region ?_
                  refine wl_y (y_move (by conv => lhs; whnf)) ?_
                  refine wl_y (y_add64 rfl rfl (by omega)) ?_
                  refine wl_y (y_assign (by conv => lhs; whnf)) ?_
                  refine wl_nil ?_
                  refine next_round (σ := Nat × List (Int × Int) × Value) (v + 1, qs ++ [r], v86) rfl (by repeat first | exact out_hav | refine out_look rfl ?_ | refine out_havIn rfl ?_) ⟨rfl, rfl, trivial⟩ ⟨hm, by omega, by rw [List.length_append, hq]; rfl, hrows.snoc hr (by rw [hq]; exact hjr)⟩ (by (try dsimp only); omega)
                · skip
                  refine wc_skip ?_
                  refine then_normal ?_
                  refine wc_region ?_
                  refine wl_y (y_move (by conv => lhs; whnf)) ?_
                  refine wl_y (y_loadBlk rfl (hm.at (i := 1) rfl) Try.underlying27 rfl ti27) ?_
                  refine wl_lit1 hm rfl Try.underlying22 ti27 rfl (by decide) (fun W v85 hm hu => ?_)
                  have hm : Mem w [] ([.own 27 2 vo v (prs qs), .blk b8 27 (pcells r)] ++ [.own 27 2 v85 1 [.int .i64 r.1, .int .i64 r.2]]) W := hm
                  refine wl_appendTo (i := 0) hm rfl rfl rfl (hm.slAt 2 rfl) (prs_snoc _ _ _) Try.underlying22 ti27 rfl (by decide) (by simp [Value.oneCell']) (by omega) (fun W v86 hm hv86 => ?_)
                  have hm : Mem w [] [.own 27 2 v86 (v + 1) (prs (qs ++ [r]))] W := hm.take 1
                  refine wl_y (y_assign (by conv => lhs; whnf)) ?_
                  refine wl_nil ?_
                  refine block_normal ?_
                  refine then_normal ?_
                  refine wc_region ?_
                  refine wl_y (y_move (by conv => lhs; whnf)) ?_
                  refine wl_y (y_add64 rfl rfl (by omega)) ?_
                  refine wl_y (y_assign (by conv => lhs; whnf)) ?_
                  refine wl_nil ?_
                  refine next_round (σ := Nat × List (Int × Int) × Value) (v + 1, qs ++ [r], v86) rfl (by repeat first | exact out_hav | refine out_look rfl ?_ | refine out_havIn rfl ?_) ⟨rfl, rfl, trivial⟩ ⟨hm, by omega, by rw [List.length_append, hq]; rfl, hrows.snoc hr (by rw [hq]; exact hjr)⟩ (by (try dsimp only); omega)
              · skip
                refine wl_guard_no rfl ?_
                refine wl_guard_no rfl ?_
                refine wl_guard_no rfl ?_
                refine wl_y (y_pick_false rfl (by conv => lhs; whnf)) ?_
                refine wl_nil ?_
                refine then_normal ?_
                refine wc_cond_false rfl ?_
                refine wc_skip ?_
                refine then_normal ?_
                refine wc_region ?_
                refine wl_y (y_move (by conv => lhs; whnf)) ?_
                refine wl_y (y_loadBlk rfl (hm.at (i := 1) rfl) Try.underlying27 rfl ti27) ?_
                refine wl_lit1 hm rfl Try.underlying22 ti27 rfl (by decide) (fun W v85 hm hu => ?_)
                have hm : Mem w [] ([.own 27 2 vo v (prs qs), .blk b8 27 (pcells r)] ++ [.own 27 2 v85 1 [.int .i64 r.1, .int .i64 r.2]]) W := hm
                refine wl_appendTo (i := 0) hm rfl rfl rfl (hm.slAt 2 rfl) (prs_snoc _ _ _) Try.underlying22 ti27 rfl (by decide) (by simp [Value.oneCell']) (by omega) (fun W v86 hm hv86 => ?_)
                have hm : Mem w [] [.own 27 2 v86 (v + 1) (prs (qs ++ [r]))] W := hm.take 1
                refine wl_y (y_assign (by conv => lhs; whnf)) ?_
                refine wl_nil ?_
                refine block_normal ?_
                refine then_normal ?_
                refine wc_region ?_
                refine wl_y (y_move (by conv => lhs; whnf)) ?_
                refine wl_y (y_add64 rfl rfl (by omega)) ?_
                refine wl_y (y_assign (by conv => lhs; whnf)) ?_
                refine wl_nil ?_
                refine next_round (σ := Nat × List (Int × Int) × Value) (v + 1, qs ++ [r], v86) rfl (by repeat first | exact out_hav | refine out_look rfl ?_ | refine out_havIn rfl ?_) ⟨rfl, rfl, trivial⟩ ⟨hm, by omega, by rw [List.length_append, hq]; rfl, hrows.snoc hr (by rw [hq]; exact hjr)⟩ (by (try dsimp only); omega)
            · skip
              refine wc_skip ?_
              refine then_normal ?_
              refine wc_region ?_
              have hxj2 : (0 : Nat) < 2 := by decide
              skip
              have hmr := mod_lt hk5.1 ((v : Int) + 1)
              refine wl_y (y_move (by conv => lhs; whnf)) ?_
              refine wl_y (y_move (by conv => lhs; whnf)) ?_
              refine wl_y (y_add64 rfl rfl (by omega)) ?_
              refine wl_y (y_move (by conv => lhs; whnf)) ?_
              refine wl_y (y_rem rfl rfl (by omega)) ?_
              refine wl_y (y_indexArr rfl rfl (by omega) Try.underlying27 ti3) ?_
              refine wl_store1 (i := 1) (v := .int .i64 (((v : Int) + 1) % (k : Int))) hm rfl rfl rfl ti3 (by simp [pcells] <;> omega) rfl rfl (fun W hm => ?_)
              rw [pcells_set0] at hm
              obtain ⟨r, hr, hjr, hm⟩ : ∃ r2, RwOk k r2 ∧ (j = true → RingR k v r2) ∧ Mem w [] [.own 27 2 vo v (prs qs), .blk b8 27 (pcells r2)] W := ⟨rset r 0 (((v : Int) + 1) % (k : Int)), hr.set (by omega), fun _ => ring_set hxj2, hm⟩
              refine wl_nil ?_
              refine then_normal ?_
              refine wc_seq ?_
              refine wc_seq ?_
              refine wc_region ?_
              refine wl_y (y_indexArr rfl rfl (by omega) Try.underlying27 ti3) ?_
              refine wl_y (y_load rfl (hm.blk_cell 1 rfl rfl) Try.underlying3 rfl) ?_
              refine wl_y (y_lss rfl rfl) ?_
              refine wl_split rfl (fun h16 => ?_) (fun h16 => ?_)
              · skip
                refine wl_guard_yes rfl ?_
                refine wl_y (y_indexArr rfl rfl (by omega) Try.underlying27 ti3) ?_
                refine wl_guard_yes rfl ?_
                refine wl_y (y_load rfl (hm.blk_cell 1 rfl rfl) Try.underlying3 rfl) ?_
                refine wl_guard_yes rfl ?_
                refine wl_y (y_lss rfl rfl) ?_
                refine wl_y (y_pick_true rfl (by conv => lhs; whnf)) ?_
                refine wl_nil ?_
                refine then_normal ?_
                refine wc_cond_dec rfl (fun h17 => ?_) (fun h17 => ?_)
                · skip
                  refine wc_region ?_
                  refine wl_y (y_move (by conv => lhs; whnf)) ?_
                  refine wl_y (y_add64 rfl rfl (by omega)) ?_
                  refine wl_y (y_move (by conv => lhs; whnf)) ?_
                  refine wl_y (y_rem rfl rfl (by omega)) ?_
                  refine wl_y (y_indexArr rfl rfl (by omega) Try.underlying27 ti3) ?_
                  have hmr := mod_lt hk5.1 ((v : Int) + 1)
                  refine wl_store1 (i := 1) (v := .int .i64 (((v : Int) + 1) % (k : Int))) hm rfl rfl rfl ti3 (by simp [pcells]) rfl rfl (fun W hm => ?_)
                  rw [pcells_set1] at hm
                  obtain ⟨r, hr, hjr, hm⟩ : ∃ r2, RwOk k r2 ∧ (j = true → RingR k v r2) ∧ Mem w [] [.own 27 2 vo v (prs qs), .blk b8 27 (pcells r2)] W := ⟨rset r 1 (((v : Int) + 1) % (k : Int)), hr.set (by omega), fun _ => ring_set1 r, hm⟩
                  refine wl_nil ?_
                  refine then_normal ?_
                  refine wc_region ?_
                  refine wl_y (y_move (by conv => lhs; whnf)) ?_
                  refine wl_y (y_loadBlk rfl (hm.at (i := 1) rfl) Try.underlying27 rfl ti27) ?_
                  refine wl_lit1 hm rfl Try.underlying22 ti27 rfl (by decide) (fun W v85 hm hu => ?_)
                  have hm : Mem w [] ([.own 27 2 vo v (prs qs), .blk b8 27 (pcells r)] ++ [.own 27 2 v85 1 [.int .i64 r.1, .int .i64 r.2]]) W := hm
                  refine wl_appendTo (i := 0) hm rfl rfl rfl (hm.slAt 2 rfl) (prs_snoc _ _ _) Try.underlying22 ti27 rfl (by decide) (by simp [Value.oneCell']) (by omega) (fun W v86 hm hv86 => ?_)
                  have hm : Mem w [] [.own 27 2 v86 (v + 1) (prs (qs ++ [r]))] W := hm.take 1
                  refine wl_y (y_assign (by conv => lhs; whnf)) ?_
                  refine wl_nil ?_
                  refine block_normal ?_
                  refine then_normal ?_
                  refine wc_region ?_
                  refine wl_y (y_move (by conv => lhs; whnf)) ?_
                  refine wl_y (y_add64 rfl rfl (by omega)) ?_
                  refine wl_y (y_assign (by conv => lhs; whnf)) ?_
                  refine wl_nil ?_
                  refine next_round (σ := Nat × List (Int × Int) × Value) (v + 1, qs ++ [r], v86) rfl (by repeat first | exact out_hav | refine out_look rfl ?_ | refine out_havIn rfl ?_) ⟨rfl, rfl, trivial⟩ ⟨hm, by omega, by rw [List.length_append, hq]; rfl, hrows.snoc hr (by rw [hq]; exact hjr)⟩ (by (try dsimp only); omega)
                · skip
                  refine wc_skip ?_
                  refine then_normal ?_
                  refine wc_region ?_
                  refine wl_y (y_move (by conv => lhs; whnf)) ?_
                  refine wl_y (y_loadBlk rfl (hm.at (i := 1) rfl) Try.underlying27 rfl ti27) ?_
                  refine wl_lit1 hm rfl Try.underlying22 ti27 rfl (by decide) (fun W v85 hm hu => ?_)
                  have hm : Mem w [] ([.own 27 2 vo v (prs qs), .blk b8 27 (pcells r)] ++ [.own 27 2 v85 1 [.int .i64 r.1, .int .i64 r.2]]) W := hm
                  refine wl_appendTo (i := 0) hm rfl rfl rfl (hm.slAt 2 rfl) (prs_snoc _ _ _) Try.underlying22 ti27 rfl (by decide) (by simp [Value.oneCell']) (by omega) (fun W v86 hm hv86 => ?_)
                  have hm : Mem w [] [.own 27 2 v86 (v + 1) (prs (qs ++ [r]))] W := hm.take 1
                  refine wl_y (y_assign (by conv => lhs; whnf)) ?_
                  refine wl_nil ?_
                  refine block_normal ?_
                  refine then_normal ?_
                  refine wc_region ?_
                  refine wl_y (y_move (by conv => lhs; whnf)) ?_
                  refine wl_y (y_add64 rfl rfl (by omega)) ?_
                  refine wl_y (y_assign (by conv => lhs; whnf)) ?_
                  refine wl_nil ?_
                  refine next_round (σ := Nat × List (Int × Int) × Value) (v + 1, qs ++ [r], v86) rfl (by repeat first | exact out_hav | refine out_look rfl ?_ | refine out_havIn rfl ?_) ⟨rfl, rfl, trivial⟩ ⟨hm, by omega, by rw [List.length_append, hq]; rfl, hrows.snoc hr (by rw [hq]; exact hjr)⟩ (by (try dsimp only); omega)
              · skip
                refine wl_guard_no rfl ?_
                refine wl_guard_no rfl ?_
                refine wl_guard_no rfl ?_
                refine wl_y (y_pick_false rfl (by conv => lhs; whnf)) ?_
                refine wl_nil ?_
                refine then_normal ?_
                refine wc_cond_false rfl ?_
                refine wc_skip ?_
                refine then_normal ?_
                refine wc_region ?_
                refine wl_y (y_move (by conv => lhs; whnf)) ?_
                refine wl_y (y_loadBlk rfl (hm.at (i := 1) rfl) Try.underlying27 rfl ti27) ?_
                refine wl_lit1 hm rfl Try.underlying22 ti27 rfl (by decide) (fun W v85 hm hu => ?_)
                have hm : Mem w [] ([.own 27 2 vo v (prs qs), .blk b8 27 (pcells r)] ++ [.own 27 2 v85 1 [.int .i64 r.1, .int .i64 r.2]]) W := hm
                refine wl_appendTo (i := 0) hm rfl rfl rfl (hm.slAt 2 rfl) (prs_snoc _ _ _) Try.underlying22 ti27 rfl (by decide) (by simp [Value.oneCell']) (by omega) (fun W v86 hm hv86 => ?_)
                have hm : Mem w [] [.own 27 2 v86 (v + 1) (prs (qs ++ [r]))] W := hm.take 1
                refine wl_y (y_assign (by conv => lhs; whnf)) ?_
                refine wl_nil ?_
                refine block_normal ?_
                refine then_normal ?_
                refine wc_region ?_
                refine wl_y (y_move (by conv => lhs; whnf)) ?_
                refine wl_y (y_add64 rfl rfl (by omega)) ?_
                refine wl_y (y_assign (by conv => lhs; whnf)) ?_
                refine wl_nil ?_
                refine next_round (σ := Nat × List (Int × Int) × Value) (v + 1, qs ++ [r], v86) rfl (by repeat first | exact out_hav | refine out_look rfl ?_ | refine out_havIn rfl ?_) ⟨rfl, rfl, trivial⟩ ⟨hm, by omega, by rw [List.length_append, hq]; rfl, hrows.snoc hr (by rw [hq]; exact hjr)⟩ (by (try dsimp only); omega)
          · have hjf : j = false := h12
            obtain ⟨r, hr, hjr, hm⟩ : ∃ r2, RwOk k r2 ∧ (j = true → RingR k v r2) ∧ Mem w [] [.own 27 2 vo v (prs qs), .blk b8 27 (pcells r2)] W := ⟨r, hr, (fun h => absurd h (by rw [hjf]; decide)), hm⟩
            refine wc_skip ?_
            refine then_normal ?_
            refine wc_seq ?_
            refine wc_seq ?_
            refine wc_region ?_
            refine wl_y (y_indexArr rfl rfl (by omega) Try.underlying27 ti3) ?_
            refine wl_y (y_load rfl (hm.blk_cell 1 rfl rfl) Try.underlying3 rfl) ?_
            refine wl_y (y_lss rfl rfl) ?_
            refine wl_split rfl (fun h18 => ?_) (fun h18 => ?_)
            · skip
              refine wl_guard_yes rfl ?_
              refine wl_y (y_indexArr rfl rfl (by omega) Try.underlying27 ti3) ?_
              refine wl_guard_yes rfl ?_
              refine wl_y (y_load rfl (hm.blk_cell 1 rfl rfl) Try.underlying3 rfl) ?_
              refine wl_guard_yes rfl ?_
              refine wl_y (y_lss rfl rfl) ?_
              refine wl_y (y_pick_true rfl (by conv => lhs; whnf)) ?_
              refine wl_nil ?_
              refine then_normal ?_
              refine wc_cond_dec rfl (fun h19 => ?_) (fun h19 => ?_)
              · skip
                refine wc_region ?_
                refine wl_y (y_move (by conv => lhs; whnf)) ?_
                refine wl_y (y_add64 rfl rfl (by omega)) ?_
                refine wl_y (y_move (by conv => lhs; whnf)) ?_
                refine wl_y (y_rem rfl rfl (by omega)) ?_
                refine wl_y (y_indexArr rfl rfl (by omega) Try.underlying27 ti3) ?_
                have hmr := mod_lt hk5.1 ((v : Int) + 1)
                refine wl_store1 (i := 1) (v := .int .i64 (((v : Int) + 1) % (k : Int))) hm rfl rfl rfl ti3 (by simp [pcells]) rfl rfl (fun W hm => ?_)
                rw [pcells_set1] at hm
                obtain ⟨r, hr, hjr, hm⟩ : ∃ r2, RwOk k r2 ∧ (j = true → RingR k v r2) ∧ Mem w [] [.own 27 2 vo v (prs qs), .blk b8 27 (pcells r2)] W := ⟨rset r 1 (((v : Int) + 1) % (k : Int)), hr.set (by omega), fun _ => ring_set1 r, hm⟩
                refine wl_nil ?_
                refine then_normal ?_
                refine wc_region ?_
                refine wl_y (y_move (by conv => lhs; whnf)) ?_
                refine wl_y (y_loadBlk rfl (hm.at (i := 1) rfl) Try.underlying27 rfl ti27) ?_
                refine wl_lit1 hm rfl Try.underlying22 ti27 rfl (by decide) (fun W v85 hm hu => ?_)
                have hm : Mem w [] ([.own 27 2 vo v (prs qs), .blk b8 27 (pcells r)] ++ [.own 27 2 v85 1 [.int .i64 r.1, .int .i64 r.2]]) W := hm
                refine wl_appendTo (i := 0) hm rfl rfl rfl (hm.slAt 2 rfl) (prs_snoc _ _ _) Try.underlying22 ti27 rfl (by decide) (by simp [Value.oneCell']) (by omega) (fun W v86 hm hv86 => ?_)
                have hm : Mem w [] [.own 27 2 v86 (v + 1) (prs (qs ++ [r]))] W := hm.take 1
                refine wl_y (y_assign (by conv => lhs; whnf)) ?_
                refine wl_nil ?_
                refine block_normal ?_
                refine then_normal ?_
                refine wc_region ?_
                refine wl_y (y_move (by conv => lhs; whnf)) ?_
                refine wl_y (y_add64 rfl rfl (by omega)) ?_
                refine wl_y (y_assign (by conv => lhs; whnf)) ?_
                refine wl_nil ?_
                refine next_round (σ := Nat × List (Int × Int) × Value) (v + 1, qs ++ [r], v86) rfl (by repeat first | exact out_hav | refine out_look rfl ?_ | refine out_havIn rfl ?_) ⟨rfl, rfl, trivial⟩ ⟨hm, by omega, by rw [List.length_append, hq]; rfl, hrows.snoc hr (by rw [hq]; exact hjr)⟩ (by (try dsimp only); omega)
              · skip
                refine wc_skip ?_
                refine then_normal ?_
                refine wc_region ?_
                refine wl_y (y_move (by conv => lhs; whnf)) ?_
                refine wl_y (y_loadBlk rfl (hm.at (i := 1) rfl) Try.underlying27 rfl ti27) ?_
                refine wl_lit1 hm rfl Try.underlying22 ti27 rfl (by decide) (fun W v85 hm hu => ?_)
                have hm : Mem w [] ([.own 27 2 vo v (prs qs), .blk b8 27 (pcells r)] ++ [.own 27 2 v85 1 [.int .i64 r.1, .int .i64 r.2]]) W := hm
                refine wl_appendTo (i := 0) hm rfl rfl rfl (hm.slAt 2 rfl) (prs_snoc _ _ _) Try.underlying22 ti27 rfl (by decide) (by simp [Value.oneCell']) (by omega) (fun W v86 hm hv86 => ?_)
                have hm : Mem w [] [.own 27 2 v86 (v + 1) (prs (qs ++ [r]))] W := hm.take 1
                refine wl_y (y_assign (by conv => lhs; whnf)) ?_
                refine wl_nil ?_
                refine block_normal ?_
                refine then_normal ?_
                refine wc_region ?_
                refine wl_y (y_move (by conv => lhs; whnf)) ?_
                refine wl_y (y_add64 rfl rfl (by omega)) ?_
                refine wl_y (y_assign (by conv => lhs; whnf)) ?_
                refine wl_nil ?_
                refine next_round (σ := Nat × List (Int × Int) × Value) (v + 1, qs ++ [r], v86) rfl (by repeat first | exact out_hav | refine out_look rfl ?_ | refine out_havIn rfl ?_) ⟨rfl, rfl, trivial⟩ ⟨hm, by omega, by rw [List.length_append, hq]; rfl, hrows.snoc hr (by rw [hq]; exact hjr)⟩ (by (try dsimp only); omega)
            · skip
              refine wl_guard_no rfl ?_
              refine wl_guard_no rfl ?_
              refine wl_guard_no rfl ?_
              refine wl_y (y_pick_false rfl (by conv => lhs; whnf)) ?_
              refine wl_nil ?_
              refine then_normal ?_
              refine wc_cond_false rfl ?_
              refine wc_skip ?_
              refine then_normal ?_
              refine wc_region ?_
              refine wl_y (y_move (by conv => lhs; whnf)) ?_
              refine wl_y (y_loadBlk rfl (hm.at (i := 1) rfl) Try.underlying27 rfl ti27) ?_
              refine wl_lit1 hm rfl Try.underlying22 ti27 rfl (by decide) (fun W v85 hm hu => ?_)
              have hm : Mem w [] ([.own 27 2 vo v (prs qs), .blk b8 27 (pcells r)] ++ [.own 27 2 v85 1 [.int .i64 r.1, .int .i64 r.2]]) W := hm
              refine wl_appendTo (i := 0) hm rfl rfl rfl (hm.slAt 2 rfl) (prs_snoc _ _ _) Try.underlying22 ti27 rfl (by decide) (by simp [Value.oneCell']) (by omega) (fun W v86 hm hv86 => ?_)
              have hm : Mem w [] [.own 27 2 v86 (v + 1) (prs (qs ++ [r]))] W := hm.take 1
              refine wl_y (y_assign (by conv => lhs; whnf)) ?_
              refine wl_nil ?_
              refine block_normal ?_
              refine then_normal ?_
              refine wc_region ?_
              refine wl_y (y_move (by conv => lhs; whnf)) ?_
              refine wl_y (y_add64 rfl rfl (by omega)) ?_
              refine wl_y (y_assign (by conv => lhs; whnf)) ?_
              refine wl_nil ?_
              refine next_round (σ := Nat × List (Int × Int) × Value) (v + 1, qs ++ [r], v86) rfl (by repeat first | exact out_hav | refine out_look rfl ?_ | refine out_havIn rfl ?_) ⟨rfl, rfl, trivial⟩ ⟨hm, by omega, by rw [List.length_append, hq]; rfl, hrows.snoc hr (by rw [hq]; exact hjr)⟩ (by (try dsimp only); omega)
    · obtain rfl : k = v := by omega
      refine wc_exit ?_
      refine then_exit ?_
      refine then_exit ?_
      refine block_exit ?_
      refine then_normal ?_
      refine wc_seq ?_
      refine wc_seq ?_
      refine wc_region ?_
      refine wl_y (y_assign (by conv => lhs; whnf)) ?_
      refine wl_nil ?_
      refine then_normal ?_
      refine wc_block ?_
      refine wc_loop [11, 12, 13, 87, 88, 89, 90, 91, 92, 93, 94, 95, 96, 97, 98, 99, 100, 101, 102, 103, 104, 105, 106, 107, 108, 109, 110, 111, 112, 113, 114, 115, 116, 117, 118, 119, 120, 121, 122, 123, 124, 125, 126, 127] (fun ((v, qs) : Nat × List (Int × Int)) => [(11, .int .i64 (v : Int))]) (fun ((v, qs) : Nat × List (Int × Int)) W => Mem w [] [.own 27 2 vo k (prs qs)] W ∧ v ≤ k ∧ qs.length = k ∧ RowsOk k j qs) (fun ((v, qs) : Nat × List (Int × Int)) => k - v) ((0, qs) : Nat × List (Int × Int)) ?_ ?_ ?_
      · exact ⟨rfl, trivial⟩
      · exact ⟨hm, Nat.zero_le _, hq, hrows⟩
      · rintro ⟨v, qs⟩ u W ⟨hm, hv, hq, hrows⟩
        refine wc_seq ?_
        refine wc_seq ?_
        refine wc_region ?_
        refine wl_y (y_move (by conv => lhs; whnf)) ?_
        refine wl_y (y_move (by conv => lhs; whnf)) ?_
        refine wl_y (y_lss rfl rfl) ?_
        refine wl_nil ?_
        refine then_normal ?_
        refine wc_cond_dec rfl (fun h20 => ?_) (fun h20 => ?_)
        · skip
          refine wc_skip ?_
          refine then_normal ?_
          refine wc_seq ?_
          refine wc_block ?_
          refine wc_seq ?_
          refine wc_region ?_
          refine wl_y (y_assign (by conv => lhs; whnf)) ?_
          refine wl_nil ?_
          refine then_normal ?_
          refine wc_seq ?_
          refine wc_seq ?_
          refine wc_region ?_
          refine wl_y (y_assign (by conv => lhs; whnf)) ?_
          refine wl_nil ?_
          refine then_normal ?_
          refine wc_block ?_
          refine wc_loop [12, 13, 92, 93, 94, 95, 96, 97, 98, 99, 100, 101, 102, 103, 104, 105, 106, 107, 108, 109, 110, 111, 112, 113, 114, 115] (fun ((s, m) : Nat × Bool) => [(13, .int .i64 (s : Int)), (12, .bool m)]) (fun ((s, m) : Nat × Bool) W => Mem w [] [.own 27 2 vo k (prs qs)] W ∧ s ≤ k) (fun ((s, m) : Nat × Bool) => k - s) ((0, false) : Nat × Bool) ?_ ?_ ?_
          · exact ⟨rfl, rfl, trivial⟩
          · exact ⟨hm, Nat.zero_le _⟩
          · rintro ⟨s, m⟩ u W ⟨hm, hs⟩
            refine wc_seq ?_
            refine wc_seq ?_
            refine wc_region ?_
            refine wl_y (y_move (by conv => lhs; whnf)) ?_
            refine wl_y (y_move (by conv => lhs; whnf)) ?_
            refine wl_y (y_lss rfl rfl) ?_
            refine wl_nil ?_
            refine then_normal ?_
            refine wc_cond_dec rfl (fun h21 => ?_) (fun h21 => ?_)
            · skip
              refine wc_skip ?_
              refine then_normal ?_
              refine wc_seq ?_
              refine wc_block ?_
              refine wc_region ?_
              refine wl_y (y_move (by conv => lhs; whnf)) ?_
              refine wl_splitB rfl (fun h22 => ?_) (fun h22 => ?_)
              · skip
                refine wl_guard_no rfl ?_
                refine wl_guard_no rfl ?_
                refine wl_guard_no rfl ?_
                refine wl_guard_no rfl ?_
                refine wl_guard_no rfl ?_
                refine wl_guard_no rfl ?_
                refine wl_guard_no rfl ?_
                refine wl_y (y_pick_true rfl (by conv => lhs; whnf)) ?_
                refine wl_y (y_move (by conv => lhs; whnf)) ?_
                refine wl_guard_no rfl ?_
                refine wl_guard_no rfl ?_
                refine wl_guard_no rfl ?_
                refine wl_guard_no rfl ?_
                refine wl_guard_no rfl ?_
                refine wl_guard_no rfl ?_
                refine wl_guard_no rfl ?_
                refine wl_y (y_pick_true rfl (by conv => lhs; whnf)) ?_
                refine wl_y (y_assign (by conv => lhs; whnf)) ?_
                refine wl_nil ?_
                refine block_normal ?_
                refine then_normal ?_
                refine wc_region ?_
                refine wl_y (y_move (by conv => lhs; whnf)) ?_
                refine wl_y (y_add64 rfl rfl (by omega)) ?_
                refine wl_y (y_assign (by conv => lhs; whnf)) ?_
                refine wl_nil ?_
                refine next_round (σ := Nat × Bool) (s + 1, _) rfl (by repeat first | exact out_hav | refine out_look rfl ?_ | refine out_havIn rfl ?_) ⟨rfl, rfl, trivial⟩ ⟨hm, by omega⟩ (by (try dsimp only); omega)
              · skip
                refine wl_guard_yes rfl ?_
                refine wl_y (y_move (by conv => lhs; whnf)) ?_
                refine wl_guard_yes rfl ?_
                refine wl_y (y_move (by conv => lhs; whnf)) ?_
                refine wl_guard_yes rfl ?_
                refine wl_y (y_indexAddr (by conv => lhs; whnf) rfl (hm.slAt 0 rfl) (by omega) Try.underlying22 ti27 (by decide)) ?_
                refine wl_guard_yes rfl ?_
                refine wl_y (y_indexArrSl rfl rfl (hm.slAt 0 rfl) (by simp; omega) (by omega) Try.underlying27 ti3) ?_
                refine wl_guard_yes rfl ?_
                refine wl_y (y_loadSl rfl (hm.slAt 0 rfl) (by first | exact tabR_at0 (by omega) | exact tabR_at1 (by omega)) Try.underlying3 rfl) ?_
                refine wl_guard_yes rfl ?_
                refine wl_y (y_move (by conv => lhs; whnf)) ?_
                refine wl_guard_yes rfl ?_
                refine wl_y (y_eql rfl rfl) ?_
                refine wl_y (y_pick_false rfl (by conv => lhs; whnf)) ?_
                refine wl_split rfl (fun h23 => ?_) (fun h23 => ?_)
                · skip
                  refine wl_guard_no rfl ?_
                  refine wl_guard_no rfl ?_
                  refine wl_guard_no rfl ?_
                  refine wl_guard_no rfl ?_
                  refine wl_guard_no rfl ?_
                  refine wl_guard_no rfl ?_
                  refine wl_guard_no rfl ?_
                  refine wl_y (y_pick_true rfl (by conv => lhs; whnf)) ?_
                  refine wl_y (y_assign (by conv => lhs; whnf)) ?_
                  refine wl_nil ?_
                  refine block_normal ?_
                  refine then_normal ?_
                  refine wc_region ?_
                  refine wl_y (y_move (by conv => lhs; whnf)) ?_
                  refine wl_y (y_add64 rfl rfl (by omega)) ?_
                  refine wl_y (y_assign (by conv => lhs; whnf)) ?_
                  refine wl_nil ?_
                  refine next_round (σ := Nat × Bool) (s + 1, _) rfl (by repeat first | exact out_hav | refine out_look rfl ?_ | refine out_havIn rfl ?_) ⟨rfl, rfl, trivial⟩ ⟨hm, by omega⟩ (by (try dsimp only); omega)
                · skip
                  refine wl_guard_yes rfl ?_
                  refine wl_y (y_move (by conv => lhs; whnf)) ?_
                  refine wl_guard_yes rfl ?_
                  refine wl_y (y_move (by conv => lhs; whnf)) ?_
                  refine wl_guard_yes rfl ?_
                  refine wl_y (y_indexAddr (by conv => lhs; whnf) rfl (hm.slAt 0 rfl) (by omega) Try.underlying22 ti27 (by decide)) ?_
                  refine wl_guard_yes rfl ?_
                  refine wl_y (y_indexArrSl rfl rfl (hm.slAt 0 rfl) (by simp; omega) (by omega) Try.underlying27 ti3) ?_
                  refine wl_guard_yes rfl ?_
                  refine wl_y (y_loadSl rfl (hm.slAt 0 rfl) (by first | exact tabR_at0 (by omega) | exact tabR_at1 (by omega)) Try.underlying3 rfl) ?_
                  refine wl_guard_yes rfl ?_
                  refine wl_y (y_move (by conv => lhs; whnf)) ?_
                  refine wl_guard_yes rfl ?_
                  refine wl_y (y_eql rfl rfl) ?_
                  refine wl_y (y_pick_false rfl (by conv => lhs; whnf)) ?_
                  refine wl_y (y_assign (by conv => lhs; whnf)) ?_
                  refine wl_nil ?_
                  refine block_normal ?_
                  refine then_normal ?_
                  refine wc_region ?_
                  refine wl_y (y_move (by conv => lhs; whnf)) ?_
                  refine wl_y (y_add64 rfl rfl (by omega)) ?_
                  refine wl_y (y_assign (by conv => lhs; whnf)) ?_
                  refine wl_nil ?_
                  refine next_round (σ := Nat × Bool) (s + 1, _) rfl (by repeat first | exact out_hav | refine out_look rfl ?_ | refine out_havIn rfl ?_) ⟨rfl, rfl, trivial⟩ ⟨hm, by omega⟩ (by (try dsimp only); omega)
            · obtain rfl : k = s := by omega
              refine wc_exit ?_
              refine then_exit ?_
              refine then_exit ?_
              refine block_exit ?_
              refine then_normal ?_
              refine wc_seq ?_
              refine wc_region ?_
              refine wl_y (y_move (by conv => lhs; whnf)) ?_
              refine wl_y (y_not rfl) ?_
              refine wl_nil ?_
              refine then_normal ?_
              refine wc_cond rfl (fun h24 => ?_) (fun h24 => ?_)
              · skip
                refine wc_region ?_
                obtain ⟨pu, hpu, hpu1, hpu2⟩ := ring_prev (k := k) (v := v) (by omega)
                have hmr := mod_lt hk5.1 ((v : Int) + k - 1)
                refine wl_y (y_move (by conv => lhs; whnf)) ?_
                refine wl_y (y_move (by conv => lhs; whnf)) ?_
                refine wl_y (y_move (by conv => lhs; whnf)) ?_
                refine wl_y (y_add64 rfl rfl (by omega)) ?_
                refine wl_y (y_sub64 rfl rfl (by omega)) ?_
                refine wl_y (y_move (by conv => lhs; whnf)) ?_
                refine wl_y (y_rem rfl rfl (by omega)) ?_
                rw [hpu1]
                refine wl_y (y_move (by conv => lhs; whnf)) ?_
                refine wl_y (y_indexAddr (by conv => lhs; whnf) rfl (hm.slAt 0 rfl) (by omega) Try.underlying22 ti27 (by decide)) ?_
                refine wl_y (y_indexArrSl rfl rfl (hm.slAt 0 rfl) (by simp; omega) (by omega) Try.underlying27 ti3) ?_
                refine wl_storeOwn1 (i := 0) (v := .int .i64 (v : Int)) hm rfl rfl rfl ti3 (by simp; omega) rfl rfl (fun W hm => ?_)
                rw [hpu2, prs_put0 (by omega)] at hm
                refine wl_nil ?_
                refine block_normal ?_
                refine then_normal ?_
                refine wc_region ?_
                refine wl_y (y_move (by conv => lhs; whnf)) ?_
                refine wl_y (y_add64 rfl rfl (by omega)) ?_
                refine wl_y (y_assign (by conv => lhs; whnf)) ?_
                refine wl_nil ?_
                refine next_round (σ := Nat × List (Int × Int)) (v + 1, put0 k qs pu) rfl (by repeat first | exact out_hav | refine out_look rfl ?_ | refine out_havIn rfl ?_) ⟨rfl, trivial⟩ ⟨hm, by omega, by rw [put0_len]; exact hq, hrows.put hk5.1 (by omega)⟩ (by (try dsimp only); omega)
              · skip
                refine wc_skip ?_
                refine block_normal ?_
                refine then_normal ?_
                refine wc_region ?_
                refine wl_y (y_move (by conv => lhs; whnf)) ?_
                refine wl_y (y_add64 rfl rfl (by omega)) ?_
                refine wl_y (y_assign (by conv => lhs; whnf)) ?_
                refine wl_nil ?_
                refine next_round (σ := Nat × List (Int × Int)) (v + 1, qs) rfl (by repeat first | exact out_hav | refine out_look rfl ?_ | refine out_havIn rfl ?_) ⟨rfl, trivial⟩ ⟨hm, by omega, hq, hrows⟩ (by (try dsimp only); omega)
        · obtain rfl : k = v := by omega
          refine wc_exit ?_
          refine then_exit ?_
          refine then_exit ?_
          refine block_exit ?_
          refine then_normal ?_
          refine wc_seq ?_
          refine wc_seq ?_
          refine wc_region ?_
          refine wl_y (y_move (by conv => lhs; whnf)) ?_
          refine wl_callR hm hb49 (rCheck_calls _ _ qs (by rw [hq]; exact hm.slAt 0 rfl)) rfl rfl (fun W hm hu => ?_)
          refine wl_y (y_not rfl) ?_
          refine wl_nil ?_
          refine then_normal ?_
          refine wc_cond rfl (fun h25 => ?_) (fun h25 => ?_)
          · skip
            refine wc_seq ?_
            refine wc_region ?_
            refine wl_y (y_assign (by conv => lhs; whnf)) ?_
            refine wl_nil ?_
            refine then_normal ?_
            refine wc_block ?_
            refine wc_loop [14, 131, 132, 133, 134, 135, 136, 137, 138, 139, 140, 141, 142, 143] (fun ((v, qs) : Nat × List (Int × Int)) => [(14, .int .i64 (v : Int))]) (fun ((v, qs) : Nat × List (Int × Int)) W => Mem w [] [.own 27 2 vo k (prs qs)] W ∧ v ≤ k ∧ qs.length = k ∧ RowsOk k j qs ∧ (∀ i, i < v → (qs.getD i (0, 0)).1 = ((i : Int) + 1) % k)) (fun ((v, qs) : Nat × List (Int × Int)) => k - v) ((0, qs) : Nat × List (Int × Int)) ?_ ?_ ?_
            · exact ⟨rfl, trivial⟩
            · exact ⟨hm, Nat.zero_le _, hq, hrows, fun i hi => absurd hi (Nat.not_lt_zero i)⟩
            · rintro ⟨v, qs⟩ u W ⟨hm, hv, hq, hrows, hset⟩
              refine wc_seq ?_
              refine wc_seq ?_
              refine wc_region ?_
              refine wl_y (y_move (by conv => lhs; whnf)) ?_
              refine wl_y (y_move (by conv => lhs; whnf)) ?_
              refine wl_y (y_lss rfl rfl) ?_
              refine wl_nil ?_
              refine then_normal ?_
              refine wc_cond_dec rfl (fun h26 => ?_) (fun h26 => ?_)
              · skip
                refine wc_skip ?_
                refine then_normal ?_
                refine wc_seq ?_
                refine wc_block ?_
                have hmr := mod_lt hk5.1 ((v : Int) + 1)
                refine wc_draw (C := fun W => Mem w [] [.own 27 2 vo k (prs qs)] W) (some 8) mix (by kernel_rfl) (by kernel_rfl) (Mem.stable _ _ _) (hm.step (upd_drew _)) ?_
                refine al_y (by kernel_rfl) (fun W hm => y_move (by conv => lhs; whnf)) ?_
                refine al_y (by kernel_rfl) (fun W hm => y_move (by conv => lhs; whnf)) ?_
                refine al_y (by kernel_rfl) (fun W hm => y_move (by conv => lhs; whnf)) ?_
                refine al_y (by kernel_rfl) (fun W hm => y_add64 rfl rfl (by omega)) ?_
                refine al_y (by kernel_rfl) (fun W hm => y_move (by conv => lhs; whnf)) ?_
                refine al_y (by kernel_rfl) (fun W hm => y_rem rfl rfl (by omega)) ?_
                refine al_y (by kernel_rfl) (fun W hm => y_indexAddr (by conv => lhs; whnf) rfl (hm.slAt 0 rfl) (by omega) Try.underlying22 ti27 (by decide)) ?_
                refine al_y (by kernel_rfl) (fun W hm => y_indexArrSl rfl rfl (hm.slAt 0 rfl) (by simp; omega) (by omega) Try.underlying27 ti3) ?_
                refine al_loud (by kernel_rfl) (fun W hm => ?_)
                refine wl_storeOwn1 (i := 0) (v := .int .i64 (((v : Int) + 1) % (k : Int))) hm rfl rfl rfl ti3 (by simp; omega) rfl rfl (fun W hm => ?_)
                rw [prs_put0 (by omega)] at hm
                refine nx_store none hm rfl ?_
                refine al_nil (by kernel_rfl) (fun W hm => ?_)
                refine block_normal ?_
                refine then_normal ?_
                refine wc_region ?_
                refine wl_y (y_move (by conv => lhs; whnf)) ?_
                refine wl_y (y_add64 rfl rfl (by omega)) ?_
                refine wl_y (y_assign (by conv => lhs; whnf)) ?_
                refine wl_nil ?_
                refine next_round (σ := Nat × List (Int × Int)) (v + 1, put0 k qs v) rfl (by repeat first | exact out_hav | refine out_look rfl ?_ | refine out_havIn rfl ?_) ⟨rfl, trivial⟩ ⟨hm, by omega, by rw [put0_len]; exact hq, hrows.put hk5.1 (by omega), fun i hi => by
        rw [put0_get (by omega)]
        by_cases he : v = i
        · subst he; rw [if_pos rfl]
        · rw [if_neg he]; exact hset i (by omega)⟩ (by (try dsimp only); omega)
              · obtain rfl : k = v := by omega
                refine wc_exit ?_
                refine then_exit ?_
                refine then_exit ?_
                refine block_exit ?_
                refine then_normal ?_
                refine wc_seq ?_
                refine wc_region ?_
                refine wl_y (y_move (by conv => lhs; whnf)) ?_
                refine wl_y (y_assign (by conv => lhs; whnf)) ?_
                refine wl_nil ?_
                refine then_normal ?_
                refine wc_ret ?_
                refine post_ret (results_fr rfl) ?_
                have hrows2 : RowsOk qs.length j qs := by rw [hq]; exact hrows
                have hring : ∀ v, v < qs.length → RingR qs.length v (qs.getD v (0, 0)) := fun v hv => by rw [hq]; exact .inl (hset v (by omega))
                exact ⟨vo, _, rfl, hm, qs, ⟨netOk_ring (by omega) hrows2 hring, fun _ => hring⟩, by rw [hq]⟩
          · have hnok : NetOk qs := of_decide_eq_true (by simpa [netB] using h25)
            refine wc_skip ?_
            refine then_normal ?_
            refine wc_seq ?_
            refine wc_region ?_
            refine wl_y (y_move (by conv => lhs; whnf)) ?_
            refine wl_y (y_assign (by conv => lhs; whnf)) ?_
            refine wl_nil ?_
            refine then_normal ?_
            refine wc_ret ?_
            refine post_ret (results_fr rfl) ?_
            have hring : j = true → ∀ v, v < qs.length → RingR qs.length v (qs.getD v (0, 0)) := fun hj v hv => by rw [hq]; exact (hrows v hv).2 hj
            exact ⟨vo, _, rfl, hm, qs, ⟨hnok, hring⟩, by rw [hq]⟩
end Go.Proofs.Ytofpdjpenmhbnaa
namespace Go.Proofs.Ytofpdjpenmhbnaa
open Go Go.Kx
theorem ti5 : TI Try.prog 5 (.int .u8 0) 1 1 := by show _ = _; kernel_rfl
theorem hb14 : HasBody Try.prog 14 := hasBody Try.func14 (by kernel_rfl) (by kernel_rfl)
theorem hb18 : HasBody Try.prog 18 := hasBody Try.func18 (by kernel_rfl) (by kernel_rfl)
theorem hb30 : HasBody Try.prog 30 := hasBody Try.func30 (by kernel_rfl) (by kernel_rfl)
theorem hb33 : HasBody Try.prog 33 := hasBody Try.func33 (by kernel_rfl) (by kernel_rfl)
theorem hb35 : HasBody Try.prog 35 := hasBody Try.func35 (by kernel_rfl) (by kernel_rfl)
set_option maxHeartbeats 4000000 in
theorem word_calls (w : World) (s : ByteArray) :
    Cl Try.prog 35 [.string s, .int .i64 100].toArray w (fun e w' => ∃ t, e = .returned (.string t) ∧ Lets t ∧ t.size ≤ 100 ∧ Upd [] w w') := by
  have hm : Mem w [] [] w := Mem.init w
  refine cl_enter Try.func35 rfl Try.ntmps35 rfl ?_
  refine wc_seq ?_
  refine wc_region ?_
  refine wl_y (y_assign (by conv => lhs; whnf)) ?_
  refine wl_nil ?_
  refine then_normal ?_
  refine wc_seq ?_
  refine wc_region ?_
  refine wl_y (y_assign (by conv => lhs; whnf)) ?_
  have hm := hm.ownNil 5 1
  refine wl_nil ?_
  refine then_normal ?_
  refine wc_seq ?_
  refine wc_seq ?_
  refine wc_region ?_
  refine wl_y (y_assign (by conv => lhs; whnf)) ?_
  refine wl_nil ?_
  refine then_normal ?_
  refine wc_block ?_
  refine wc_loop [5, 6, 7, 8, 9, 10, 11, 12, 13, 14, 15, 16, 17, 18, 19, 20, 21, 22, 23, 24, 25] (fun ((i, bs, vb) : Nat × List UInt8 × Value) => [(6, .int .i64 (i : Int)), (5, vb)]) (fun ((i, bs, vb) : Nat × List UInt8 × Value) W => Mem w [] [.own 5 1 vb (bs).length (byts (bs))] W ∧ i ≤ 100 ∧ bs.length = i ∧ AbB bs) (fun ((i, bs, vb) : Nat × List UInt8 × Value) => 100 - i) ((0, [], .slice none 0 0) : Nat × List UInt8 × Value) ?_ ?_ ?_
  · exact ⟨rfl, rfl, trivial⟩
  · exact ⟨hm, Nat.zero_le _, rfl, fun c hc => by cases hc⟩
  · rintro ⟨i, bs, vb⟩ u W ⟨hm, hi, hbl, hab⟩
    refine wc_seq ?_
    refine wc_seq ?_
    refine wc_region ?_
    refine wl_y (y_move (by conv => lhs; whnf)) ?_
    refine wl_y (y_move (by conv => lhs; whnf)) ?_
    refine wl_y (y_lenStr (by conv => lhs; whnf) Try.underlying9) ?_
    refine wl_y (y_lss rfl rfl) ?_
    refine wl_split rfl (fun h1 => ?_) (fun h1 => ?_)
    · skip
      refine wl_guard_yes rfl ?_
      refine wl_y (y_move (by conv => lhs; whnf)) ?_
      refine wl_guard_yes rfl ?_
      refine wl_y (y_move (by conv => lhs; whnf)) ?_
      refine wl_guard_yes rfl ?_
      refine wl_y (y_lss rfl rfl) ?_
      refine wl_y (y_pick_true rfl (by conv => lhs; whnf)) ?_
      refine wl_nil ?_
      refine then_normal ?_
      refine wc_cond_dec rfl (fun h2 => ?_) (fun h2 => ?_)
      · skip
        refine wc_skip ?_
        refine then_normal ?_
        refine wc_seq ?_
        refine wc_block ?_
        refine wc_region ?_
        refine wl_y (y_move (by conv => lhs; whnf)) ?_
        refine wl_y (y_move (by conv => lhs; whnf)) ?_
        refine wl_y (y_move (by conv => lhs; whnf)) ?_
        refine wl_y (y_indexStr (i := i) rfl rfl (by omega) Try.underlying9) ?_
        refine wl_y (y_rem2 rfl rfl) ?_
        refine wl_y (y_indexStr (s := ⟨#[97, 98]⟩) (i := byt s i % 2) rfl rfl (by show _ < 2; omega) Try.underlying9) ?_
        refine wl_lit1 hm (by conv => lhs; whnf) Try.underlying106 ti5 rfl (by decide) (fun W v24 hm hu => ?_)
        refine wl_appendTo (i := 0) hm rfl rfl rfl (hm.slAt 1 rfl) (byts_snoc _ ((⟨#[97, 98]⟩ : ByteArray).data.toList.getD (byt s i % 2) 0)) Try.underlying106 ti5 rfl (by decide) (by simp [Value.cells, Value.oneCell']) (by omega) (fun W v25 hm hv25 => ?_)
        have hm := hm.take 1
        refine wl_y (y_assign (by conv => lhs; whnf)) ?_
        refine wl_nil ?_
        refine block_normal ?_
        refine then_normal ?_
        refine wc_region ?_
        refine wl_y (y_move (by conv => lhs; whnf)) ?_
        refine wl_y (y_add64 rfl rfl (by omega)) ?_
        refine wl_y (y_assign (by conv => lhs; whnf)) ?_
        refine wl_nil ?_
        refine next_round (σ := Nat × List UInt8 × Value) (i + 1, bs ++ [((⟨#[97, 98]⟩ : ByteArray).data.toList.getD (byt s i % 2) 0)], v25) rfl (by repeat first | exact out_hav | refine out_look rfl ?_ | refine out_havIn rfl ?_) ⟨rfl, rfl, trivial⟩ ⟨by rw [List.length_append]; exact hm, by omega, by rw [List.length_append, hbl]; rfl, abB_snoc hab (by omega)⟩ (by (try dsimp only); omega)
      · skip
        refine wc_exit ?_
        refine then_exit ?_
        refine then_exit ?_
        refine block_exit ?_
        refine then_normal ?_
        refine wc_seq ?_
        refine wc_region ?_
        refine wl_y (y_move (by conv => lhs; whnf)) ?_
        refine wl_y (y_convBytes rfl (hm.slAt 0 rfl) Try.underlying106 Try.underlying5 Try.underlying9) ?_
        refine wl_y (y_assign (by conv => lhs; whnf)) ?_
        refine wl_nil ?_
        refine then_normal ?_
        refine wc_ret ?_
        refine post_ret (results_fr rfl) ?_
        exact ⟨_, rfl, abB_lets hab, by show bs.length ≤ 100; omega, hm.upd⟩
    · skip
      refine wl_guard_no rfl ?_
      refine wl_guard_no rfl ?_
      refine wl_guard_no rfl ?_
      refine wl_y (y_pick_false rfl (by conv => lhs; whnf)) ?_
      refine wl_nil ?_
      refine then_normal ?_
      refine wc_cond_false rfl ?_
      refine wc_exit ?_
      refine then_exit ?_
      refine then_exit ?_
      refine block_exit ?_
      refine then_normal ?_
      refine wc_seq ?_
      refine wc_region ?_
      refine wl_y (y_move (by conv => lhs; whnf)) ?_
      refine wl_y (y_convBytes rfl (hm.slAt 0 rfl) Try.underlying106 Try.underlying5 Try.underlying9) ?_
      refine wl_y (y_assign (by conv => lhs; whnf)) ?_
      refine wl_nil ?_
      refine then_normal ?_
      refine wc_ret ?_
      refine post_ret (results_fr rfl) ?_
      exact ⟨_, rfl, abB_lets hab, by show bs.length ≤ 100; omega, hm.upd⟩

set_option maxHeartbeats 4000000 in
theorem soficWords_calls (w : World) (vl : Value) (ps : List (Int × Int)) (s : ByteArray) (hl : SlAt w 2 vl ps.length (prs ps)) :
    Cl Try.prog 7 [vl, .string s].toArray w (Ret w (.bool true)) := by
  have hm : Mem w [] [] w := Mem.init w
  refine cl_enter Try.func7 rfl Try.ntmps7 rfl ?_
  refine wc_seq ?_
  refine wc_region ?_
  refine wl_y (y_assign (by conv => lhs; whnf)) ?_
  refine wl_nil ?_
  refine then_normal ?_
  refine wc_seq ?_
  refine wc_region ?_
  refine wl_y (y_move (by conv => lhs; whnf)) ?_
  refine wl_y (y_move (by conv => lhs; whnf)) ?_
  refine wl_y (y_lenStr (by conv => lhs; whnf) Try.underlying9) ?_
  refine wl_y (y_rem2 rfl rfl) ?_
  refine wl_y (y_eql rfl rfl) ?_
  refine wl_callM hm hb14 (tame_calls _ _ ps (decide (((s.size % 2 : Nat) : Int) = 0)) (hl.step hm.upd)) rfl rfl (fun W v18 E hm hu hE => ?_)
  obtain ⟨qs, hTqs, rfl⟩ := hE
  have hokqs := hTqs.1
  have hl1qs := hokqs.1
  refine wl_y (y_assign (by conv => lhs; whnf)) ?_
  refine wl_nil ?_
  refine then_normal ?_
  refine wc_seq ?_
  refine wc_region ?_
  refine wl_y (y_move (by conv => lhs; whnf)) ?_
  refine wl_y (y_move (by conv => lhs; whnf)) ?_
  refine wl_y (y_lenStr (by conv => lhs; whnf) Try.underlying9) ?_
  refine wl_y (y_min rfl rfl) ?_
  refine wl_y (y_sliceStrH (h := min (s.size : Int) 102) rfl rfl (by omega) Try.underlying9) ?_
  refine wl_y (y_assign (by conv => lhs; whnf)) ?_
  refine wl_nil ?_
  refine then_normal ?_
  refine wc_seq ?_
  refine wc_seq ?_
  refine wc_region ?_
  refine wl_y (y_assign (by conv => lhs; whnf)) ?_
  refine wl_nil ?_
  refine then_normal ?_
  refine wc_block ?_
  refine wc_loop [4, 6, 7, 8, 9, 10, 11, 12, 24, 25, 26, 27, 28, 29, 30, 31, 32, 33, 34, 35, 36, 37, 38, 39, 40, 41, 42, 43, 44, 45, 46, 47, 48, 49, 50, 51, 52, 53, 54, 55, 56, 57, 58, 59, 60, 61, 62, 63, 64, 65, 66, 67, 68, 69, 70, 71, 72, 73, 74, 75, 76, 77] (fun ((r, t) : Nat × ByteArray) => [(7, .int .i64 (r : Int)), (6, .string t)]) (fun ((r, t) : Nat × ByteArray) W => Mem w [] [.own 27 2 v18 qs.length (prs qs)] W ∧ r ≤ 2 ∧ t.size ≤ 102) (fun ((r, t) : Nat × ByteArray) => 2 - r) ((0, s.extract 0 (min (s.size : Int) 102).toNat) : Nat × ByteArray) ?_ ?_ ?_
  · exact ⟨rfl, rfl, trivial⟩
  · exact ⟨hm, Nat.zero_le _, by rw [ByteArray.size_extract]; omega⟩
  · rintro ⟨r, t⟩ u W ⟨hm, hr, hts⟩
    refine wc_seq ?_
    refine wc_seq ?_
    refine wc_region ?_
    refine wl_y (y_move (by conv => lhs; whnf)) ?_
    refine wl_y (y_lss rfl rfl) ?_
    refine wl_nil ?_
    refine then_normal ?_
    refine wc_cond_dec rfl (fun h1 => ?_) (fun h1 => ?_)
    · skip
      refine wc_skip ?_
      refine then_normal ?_
      refine wc_seq ?_
      refine wc_block ?_
      refine wc_seq ?_
      refine wc_region ?_
      refine wl_y (y_move (by conv => lhs; whnf)) ?_
      refine wl_y (y_move (by conv => lhs; whnf)) ?_
      refine wl_callR hm hb33 (Is_calls _ _ qs t (hm.slAt 0 rfl)) rfl rfl (fun W hm hu => ?_)
      refine wl_y (y_move (by conv => lhs; whnf)) ?_
      refine wl_y (y_extract rfl rfl) ?_
      refine wl_y (y_extract rfl rfl) ?_
      refine wl_y (y_assign (by conv => lhs; whnf)) ?_
      refine wl_y (y_assign (by conv => lhs; whnf)) ?_
      refine wl_nil ?_
      refine then_normal ?_
      refine wc_seq ?_
      refine wc_region ?_
      refine wl_y (y_move (by conv => lhs; whnf)) ?_
      refine wl_y (y_move (by conv => lhs; whnf)) ?_
      refine wl_callR hm hb34 (Ends_calls _ _ qs t (hm.slAt 0 rfl)) rfl rfl (fun W hm hu => ?_)
      refine wl_y (y_move (by conv => lhs; whnf)) ?_
      refine wl_y (y_extract rfl rfl) ?_
      refine wl_y (y_extract rfl rfl) ?_
      refine wl_y (y_assign (by conv => lhs; whnf)) ?_
      refine wl_y (y_assign (by conv => lhs; whnf)) ?_
      refine wl_nil ?_
      refine then_normal ?_
      refine wc_seq ?_
      refine wc_seq ?_
      refine wc_region ?_
      refine wl_y (y_move (by conv => lhs; whnf)) ?_
      refine wl_callR hm hb30 (rWord_calls _ t (by omega)) rfl rfl (fun W hm hu => ?_)
      refine wl_y (y_not rfl) ?_
      refine wl_nil ?_
      refine then_normal ?_
      refine wc_cond rfl (fun h2 => ?_) (fun h2 => ?_)
      · have hwf : wordB t = false := by simpa using h2
        obtain ⟨he1, he2, hi1, hi2⟩ := ends_none hokqs hwf
        refine wc_seq ?_
        refine wc_region ?_
        refine wl_y (y_move (by conv => lhs; whnf)) ?_
        refine wl_y (y_neq rfl rfl) ?_
        refine wl_split rfl (fun h3 => ?_) (fun h3 => ?_)
        · exact absurd hi2 h3
        · skip
          refine wl_guard_yes rfl ?_
          refine wl_y (y_move (by conv => lhs; whnf)) ?_
          refine wl_guard_yes rfl ?_
          refine wl_y (y_neq rfl rfl) ?_
          refine wl_y (y_pick_false rfl (by conv => lhs; whnf)) ?_
          refine wl_split rfl (fun h4 => ?_) (fun h4 => ?_)
          · exact absurd he2 h4
          · skip
            refine wl_guard_yes rfl ?_
            refine wl_y (y_move (by conv => lhs; whnf)) ?_
            refine wl_y (y_pick_false rfl (by conv => lhs; whnf)) ?_
            refine wl_splitB rfl (fun h5 => ?_) (fun h5 => ?_)
            · exact absurd h5 (by rw [hi1]; decide)
            · skip
              refine wl_guard_yes rfl ?_
              refine wl_y (y_move (by conv => lhs; whnf)) ?_
              refine wl_guard_yes rfl ?_
              refine wl_y (y_neq rfl rfl) ?_
              refine wl_y (y_pick_false rfl (by conv => lhs; whnf)) ?_
              refine wl_nil ?_
              refine then_normal ?_
              refine wc_cond_dec rfl (fun h6 => ?_) (fun h6 => ?_)
              · exact absurd he1 h6
              · skip
                refine wc_skip ?_
                refine then_normal ?_
                refine wc_region ?_
                refine wl_y (y_move (by conv => lhs; whnf)) ?_
                refine wl_call hb35 (word_calls _ s) rfl rfl (fun e W h => ?_)
                obtain ⟨t2, rfl, ht2, hts2, hu⟩ := h
                refine ⟨_, rfl, ?_⟩
                have hm := hm.step hu
                refine wl_y (y_assign (by conv => lhs; whnf)) ?_
                refine wl_nil ?_
                refine block_normal ?_
                refine then_normal ?_
                refine wc_region ?_
                refine wl_y (y_move (by conv => lhs; whnf)) ?_
                refine wl_y (y_add64 rfl rfl (by omega)) ?_
                refine wl_y (y_assign (by conv => lhs; whnf)) ?_
                refine wl_nil ?_
                refine next_round (σ := Nat × ByteArray) (r + 1, t2) rfl (by repeat first | exact out_hav | refine out_look rfl ?_ | refine out_havIn rfl ?_) ⟨rfl, rfl, trivial⟩ ⟨hm, by omega, by omega⟩ (by (try dsimp only); omega)
      · have hwt : wordB t = true := by simpa using h2
        obtain ⟨he1, he2, hi1, hi2⟩ := ends_word hokqs hwt
        refine wc_seq ?_
        refine wc_region ?_
        refine wl_y (y_move (by conv => lhs; whnf)) ?_
        refine wl_y (y_move (by conv => lhs; whnf)) ?_
        refine wl_callR hm hb29 (rEnds_calls _ _ qs t (hm.slAt 0 rfl) hokqs.okf (wordB_lets hwt) (by omega)) rfl rfl (fun W hm hu => ?_)
        refine wl_y (y_assign (by conv => lhs; whnf)) ?_
        refine wl_nil ?_
        refine then_normal ?_
        refine wc_seq ?_
        refine wc_region ?_
        refine wl_y (y_move (by conv => lhs; whnf)) ?_
        refine wl_y (y_neq rfl rfl) ?_
        refine wl_split rfl (fun h7 => ?_) (fun h7 => ?_)
        · exact absurd hi2 h7
        · skip
          refine wl_guard_yes rfl ?_
          refine wl_y (y_move (by conv => lhs; whnf)) ?_
          refine wl_guard_yes rfl ?_
          refine wl_y (y_move (by conv => lhs; whnf)) ?_
          refine wl_guard_yes rfl ?_
          refine wl_y (y_neq rfl rfl) ?_
          refine wl_guard_yes rfl ?_
          refine wl_y (y_neqB rfl rfl Try.underlying4) ?_
          refine wl_y (y_pick_false rfl (by conv => lhs; whnf)) ?_
          refine wl_split rfl (fun h8 => ?_) (fun h8 => ?_)
          · exact absurd hi1 h8
          · skip
            refine wl_guard_yes rfl ?_
            refine wl_y (y_move (by conv => lhs; whnf)) ?_
            refine wl_guard_yes rfl ?_
            refine wl_y (y_neq rfl rfl) ?_
            refine wl_y (y_pick_false rfl (by conv => lhs; whnf)) ?_
            refine wl_split rfl (fun h9 => ?_) (fun h9 => ?_)
            · exact absurd he2 h9
            · skip
              refine wl_guard_yes rfl ?_
              refine wl_y (y_move (by conv => lhs; whnf)) ?_
              refine wl_guard_yes rfl ?_
              refine wl_y (y_move (by conv => lhs; whnf)) ?_
              refine wl_guard_yes rfl ?_
              refine wl_y (y_neq rfl rfl) ?_
              refine wl_y (y_pick_false rfl (by conv => lhs; whnf)) ?_
              refine wl_nil ?_
              refine then_normal ?_
              refine wc_cond_dec rfl (fun h10 => ?_) (fun h10 => ?_)
              · exact absurd he1 h10
              · skip
                refine wc_skip ?_
                refine then_normal ?_
                refine wc_region ?_
                refine wl_y (y_move (by conv => lhs; whnf)) ?_
                refine wl_call hb35 (word_calls _ s) rfl rfl (fun e W h => ?_)
                obtain ⟨t2, rfl, ht2, hts2, hu⟩ := h
                refine ⟨_, rfl, ?_⟩
                have hm := hm.step hu
                refine wl_y (y_assign (by conv => lhs; whnf)) ?_
                refine wl_nil ?_
                refine block_normal ?_
                refine then_normal ?_
                refine wc_region ?_
                refine wl_y (y_move (by conv => lhs; whnf)) ?_
                refine wl_y (y_add64 rfl rfl (by omega)) ?_
                refine wl_y (y_assign (by conv => lhs; whnf)) ?_
                refine wl_nil ?_
                refine next_round (σ := Nat × ByteArray) (r + 1, t2) rfl (by repeat first | exact out_hav | refine out_look rfl ?_ | refine out_havIn rfl ?_) ⟨rfl, rfl, trivial⟩ ⟨hm, by omega, by omega⟩ (by (try dsimp only); omega)
    · skip
      refine wc_exit ?_
      refine then_exit ?_
      refine then_exit ?_
      refine block_exit ?_
      refine then_normal ?_
      refine wc_seq ?_
      refine wc_region ?_
      refine wl_callR hm hb18 (awake_calls _) rfl rfl (fun W hm hu => ?_)
      refine wl_y (y_assign (by conv => lhs; whnf)) ?_
      refine wl_nil ?_
      refine then_normal ?_
      refine wc_ret ?_
      refine post_ret (results_fr rfl) ?_
      exact ⟨rfl, hm.upd⟩
end Go.Proofs.Ytofpdjpenmhbnaa
namespace Go.Proofs.Ytofpdjpenmhbnaa
open Go Go.Kx
theorem hb72 : HasBody Try.prog 72 := hasBody Try.func72 (by kernel_rfl) (by kernel_rfl)
set_option maxHeartbeats 4000000 in
theorem Clone_calls (w : World) (a : Addr) (m cap : Nat) (ps : List (Int × Int)) (hl : SlAt w 2 (.slice (some a) m cap) m (prs ps)) (hmx : m ≤ 1000000) :
    Cl Try.prog 72 [.slice (some a) m cap].toArray w (fun e w' => ∃ v E, e = .returned v ∧ Mem w [] E w' ∧ E = [.own 27 2 v m (prs ps)]) := by
  have hm : Mem w [] [] w := Mem.init w
  refine cl_enter Try.func72 rfl Try.ntmps72 rfl ?_
  refine wc_seq ?_
  refine wc_region ?_
  refine wl_y (y_assign (by conv => lhs; whnf)) ?_
  refine wl_nil ?_
  refine then_normal ?_
  refine wc_seq ?_
  refine wc_seq ?_
  refine wc_region ?_
  refine wl_y (y_move (by conv => lhs; whnf)) ?_
  refine wl_y (v := .bool (some a).isNone) (y_eqlNil (ad := some a) rfl rfl Try.underlying22) ?_
  refine wl_nil ?_
  refine then_normal ?_
  refine wc_cond_false rfl ?_
  refine wc_skip ?_
  refine then_normal ?_
  refine wc_seq ?_
  refine wc_region ?_
  refine wl_buildSlice [] hm Try.underlying22 ti27 (by simp [numbered]) rfl (by simp) (by decide) (by decide) (fun W v5 hm hu => ?_)
  have hm : Mem w [] [.own 27 2 v5 0 []] W := hm
  refine wl_y (y_move (by conv => lhs; whnf)) ?_
  refine wl_appendTo (i := 0) hm rfl rfl rfl (hl.step hm.upd) (List.nil_append _) Try.underlying22 ti27 rfl (by decide) (prs_one _) (by omega) (fun W v7 hm hv7 => ?_)
  rw [Nat.zero_add] at hm
  refine wl_y (y_assign (by conv => lhs; whnf)) ?_
  refine wl_nil ?_
  refine then_normal ?_
  refine wc_ret ?_
  refine post_ret (results_fr rfl) ?_
  exact ⟨_, _, rfl, hm, rfl⟩

set_option maxHeartbeats 4000000 in
theorem Equal_yes (w : World) (vl : Value) (ps : List (Int × Int)) (hl : SlAt w 2 vl ps.length (prs ps)) (hok : NetOk ps) :
    Cl Try.prog 36 [vl].toArray w (fun e w' => ∃ v E, e = .returned v ∧ Mem w [] E w' ∧ ∃ vs, v = .tuple #[vs, .int .i64 ((eqV (tabR ps) ps.length, (0 : Int))).2] ∧ E = [.own 3 1 vs ((eqV (tabR ps) ps.length, (0 : Int))).1.length (ints ((eqV (tabR ps) ps.length, (0 : Int))).1)]) := by
  have hm : Mem w [] [] w := Mem.init w
  refine cl_enter Try.func36 rfl Try.ntmps36 rfl ?_
  refine wc_seq ?_
  refine wc_region ?_
  refine wl_y (y_assign (by conv => lhs; whnf)) ?_
  refine wl_y (y_assign (by conv => lhs; whnf)) ?_
  refine wl_nil ?_
  refine then_normal ?_
  refine wc_seq ?_
  refine wc_region ?_
  refine wl_y (y_move (by conv => lhs; whnf)) ?_
  refine wl_callM hm hb54 (open_yes _ _ ps (hl.step hm.upd) hok) rfl rfl (fun W v8 E hm hu hE => ?_)
  obtain ⟨bn, nx, rfl, rfl, hnet⟩ := hE
  have ho := hnet.okf
  have hk5 := ho.k5
  have hk1 := hok.1.1
  refine wl_y (y_move (by conv => lhs; whnf)) ?_
  refine wl_y (y_extract rfl rfl) ?_
  refine wl_y (y_extract rfl rfl) ?_
  refine wl_y (y_assign (by conv => lhs; whnf)) ?_
  refine wl_y (y_assign (by conv => lhs; whnf)) ?_
  refine wl_nil ?_
  refine then_normal ?_
  refine wc_seq ?_
  refine wc_seq ?_
  refine wc_region ?_
  refine wl_y (y_move (by conv => lhs; whnf)) ?_
  refine wl_y (y_neq rfl rfl) ?_
  refine wl_nil ?_
  refine then_normal ?_
  refine wc_cond_dec rfl (fun h1 => ?_) (fun h1 => ?_)
  · exact absurd rfl h1
  · skip
    refine wc_skip ?_
    refine then_normal ?_
    refine wc_seq ?_
    refine wc_region ?_
    refine wl_y (y_move (by conv => lhs; whnf)) ?_
    refine wl_call hb76 (equal_calls _ _ _ _ (⟨hm.at (i := 0) rfl, hnet.nx.1⟩ : NetAt _ _ _ _) ho hk1) rfl rfl (fun e W h => ?_)
    obtain ⟨v15, rfl, h15⟩ := h
    refine ⟨_, rfl, ?_⟩
    have hm := hm.call h15
    refine wl_y (y_assign (by conv => lhs; whnf)) ?_
    refine wl_y (y_assign (by conv => lhs; whnf)) ?_
    refine wl_nil ?_
    refine then_normal ?_
    refine wc_ret ?_
    refine post_ret (results_fr2 rfl) ?_
    refine ⟨_, _, rfl, hm.drop 1, v15, rfl, ?_⟩
    rw [show (eqV (tabR ps) ps.length).length = ps.length from eqIter_len _ _ _, ← hnet.eqv]; rfl

set_option maxHeartbeats 4000000 in
theorem Equal_no (w : World) (vl : Value) (ps : List (Int × Int)) (hl : SlAt w 2 vl ps.length (prs ps)) (hok : ¬ NetOk ps) :
    Cl Try.prog 36 [vl].toArray w (fun e w' => ∃ v E, e = .returned v ∧ Mem w [] E w' ∧ ∃ vs, v = .tuple #[vs, .int .i64 ((([] : List Int), (70 : Int))).2] ∧ E = [.own 3 1 vs ((([] : List Int), (70 : Int))).1.length (ints ((([] : List Int), (70 : Int))).1)]) := by
  have hm : Mem w [] [] w := Mem.init w
  refine cl_enter Try.func36 rfl Try.ntmps36 rfl ?_
  refine wc_seq ?_
  refine wc_region ?_
  refine wl_y (y_assign (by conv => lhs; whnf)) ?_
  refine wl_y (y_assign (by conv => lhs; whnf)) ?_
  refine wl_nil ?_
  refine then_normal ?_
  refine wc_seq ?_
  refine wc_region ?_
  refine wl_y (y_move (by conv => lhs; whnf)) ?_
  refine wl_callR hm hb54 (open_no _ _ _ (hl.step hm.upd) hok) rfl rfl (fun W hm hu => ?_)
  refine wl_y (y_move (by conv => lhs; whnf)) ?_
  refine wl_y (y_extract rfl rfl) ?_
  refine wl_y (y_extract rfl rfl) ?_
  refine wl_y (y_assign (by conv => lhs; whnf)) ?_
  refine wl_y (y_assign (by conv => lhs; whnf)) ?_
  refine wl_nil ?_
  refine then_normal ?_
  refine wc_seq ?_
  refine wc_seq ?_
  refine wc_region ?_
  refine wl_y (y_move (by conv => lhs; whnf)) ?_
  refine wl_y (y_neq rfl rfl) ?_
  refine wl_nil ?_
  refine then_normal ?_
  refine wc_cond_dec rfl (fun h1 => ?_) (fun h1 => ?_)
  · skip
    refine wc_seq ?_
    refine wc_region ?_
    refine wl_y (y_move (by conv => lhs; whnf)) ?_
    refine wl_y (y_assign (by conv => lhs; whnf)) ?_
    refine wl_y (y_assign (by conv => lhs; whnf)) ?_
    refine wl_nil ?_
    refine then_normal ?_
    refine wc_ret ?_
    refine then_ret ?_
    refine post_ret (results_fr2 rfl) ?_
    exact ⟨_, _, rfl, hm.ownNil 3 1, _, rfl, rfl⟩
  · exfalso
    omega

theorem Equal_calls (w : World) (vl : Value) (ps : List (Int × Int)) (hl : SlAt w 2 vl ps.length (prs ps)) :
    Cl Try.prog 36 [vl].toArray w (fun e w' => ∃ v E, e = .returned v ∧ Mem w [] E w' ∧ ∃ vs, v = .tuple #[vs, .int .i64 (equalV ps).2] ∧ E = [.own 3 1 vs (equalV ps).1.length (ints (equalV ps).1)]) := by
  by_cases hok : NetOk ps
  · rw [show equalV ps = _ from if_pos hok]; exact Equal_yes w vl ps hl hok
  · rw [show equalV ps = _ from if_neg hok]; exact Equal_no w vl ps hl hok

set_option maxHeartbeats 4000000 in
theorem Form_yes (w : World) (vl : Value) (ps : List (Int × Int)) (hl : SlAt w 2 vl ps.length (prs ps)) (hok : NetOk ps) :
    Cl Try.prog 31 [vl].toArray w (fun e w' => ∃ v E, e = .returned v ∧ Mem w [] E w' ∧ ∃ vs, v = .tuple #[vs, .int .i64 ((formLV ps, (0 : Int))).2] ∧ E = [.own 27 2 vs ((formLV ps, (0 : Int))).1.length (prs ((formLV ps, (0 : Int))).1)]) := by
  have hm : Mem w [] [] w := Mem.init w
  refine cl_enter Try.func31 rfl Try.ntmps31 rfl ?_
  refine wc_seq ?_
  refine wc_region ?_
  refine wl_y (y_assign (by conv => lhs; whnf)) ?_
  refine wl_y (y_assign (by conv => lhs; whnf)) ?_
  refine wl_nil ?_
  refine then_normal ?_
  refine wc_seq ?_
  refine wc_region ?_
  refine wl_y (y_move (by conv => lhs; whnf)) ?_
  refine wl_callM hm hb54 (open_yes _ _ ps (hl.step hm.upd) hok) rfl rfl (fun W v9 E hm hu hE => ?_)
  obtain ⟨bn, nx, rfl, rfl, hnet⟩ := hE
  have ho := hnet.okf
  have hk5 := ho.k5
  have hk1 := hok.1.1
  refine wl_y (y_move (by conv => lhs; whnf)) ?_
  refine wl_y (y_extract rfl rfl) ?_
  refine wl_y (y_extract rfl rfl) ?_
  refine wl_y (y_assign (by conv => lhs; whnf)) ?_
  refine wl_y (y_assign (by conv => lhs; whnf)) ?_
  refine wl_nil ?_
  refine then_normal ?_
  refine wc_seq ?_
  refine wc_seq ?_
  refine wc_region ?_
  refine wl_y (y_move (by conv => lhs; whnf)) ?_
  refine wl_y (y_neq rfl rfl) ?_
  refine wl_nil ?_
  refine then_normal ?_
  refine wc_cond_dec rfl (fun h1 => ?_) (fun h1 => ?_)
  · exact absurd rfl h1
  · skip
    refine wc_skip ?_
    refine then_normal ?_
    refine wc_seq ?_
    refine wc_region ?_
    refine wl_y (y_move (by conv => lhs; whnf)) ?_
    refine wl_call hb56 (form_calls _ _ _ _ (⟨hm.at (i := 0) rfl, hnet.nx.1⟩ : NetAt _ _ _ _) ho hk1) rfl rfl (fun e W h => ?_)
    obtain ⟨bf, rfl, hff⟩ := h
    refine ⟨_, rfl, ?_⟩
    have hm := hm.call hff
    have hof := form_okf (eqIter_canon (tabN nx) ps.length ps.length) ho hk1
    refine wl_y (y_assign (by conv => lhs; whnf)) ?_
    refine wl_nil ?_
    refine then_normal ?_
    refine wc_seq ?_
    have hk5f : rk (eqV (tabN nx) ps.length) ps.length ≤ 5 := hof.k5
    have hfk : formK (tabR ps) ps.length = rk (eqV (tabN nx) ps.length) ps.length := by rw [← hnet.formK]; rfl
    have hfl := formLV_len ps
    refine wc_draw (C := fun W => Mem w [] [.blk bn 94 (netCells ps.length nx), .blk bf 94 (netCells (rk (eqV (tabN nx) ps.length) ps.length) (fmTo (tabN nx) (eqV (tabN nx) ps.length) ps.length))] W) none mix (by kernel_rfl) (by kernel_rfl) (Mem.stable _ _ _) (hm.step (upd_drew _)) ?_
    refine al_y (by kernel_rfl) (fun W hm => y_move (by conv => lhs; whnf)) ?_
    refine al_y (by kernel_rfl) (fun W hm => y_nilCheck rfl) ?_
    refine al_y (by kernel_rfl) (fun W hm => y_fieldAddr (off := 1) (ft := 92) rfl Try.underlying94 rfl ti92) ?_
    refine al_y (by kernel_rfl) (fun W hm => y_move (by conv => lhs; whnf)) ?_
    refine al_y (by kernel_rfl) (fun W hm => y_nilCheck rfl) ?_
    refine al_y (by kernel_rfl) (fun W hm => y_fieldAddr (off := 0) (ft := 3) rfl Try.underlying94 rfl ti3) ?_
    refine al_y (by kernel_rfl) (fun W hm => y_load (v := .int .i64 (rk (eqV (tabN nx) ps.length) ps.length : Nat)) rfl (hm.blk_cell 1 rfl rfl) Try.underlying3 rfl) ?_
    refine al_y (by kernel_rfl) (fun W hm => y_sliceArrH (len := 5) rfl rfl (by omega) Try.underlying92 ti27) ?_
    refine al_loud (by kernel_rfl) (fun W hm => ?_)
    refine wl_callM hm hb72 (Clone_calls W ⟨bf, 0 + 1, none⟩ (rk (eqV (tabN nx) ps.length) ps.length) 5 (formLV ps) (slAt_prs (hm.at (i := 1) rfl) (by omega) hk5f rfl (by rw [fmTo_len]; omega) (fun i x hi hx => by rw [← hnet.formLV]; exact formL_tab _ _ _ hk5 i x hi hx)) (by omega)) rfl rfl (fun W v25 E hm hu hE => ?_)
    obtain rfl := hE
    refine nx_keep hm (fun W h => h.take 2) ?_
    refine al_y (by kernel_rfl) (fun W hm => y_assign (by conv => lhs; whnf)) ?_
    refine al_y (by kernel_rfl) (fun W hm => y_assign (by conv => lhs; whnf)) ?_
    refine al_nil (by kernel_rfl) (fun W hm => ?_)
    refine then_normal ?_
    refine wc_ret ?_
    refine post_ret (results_fr2 rfl) ?_
    refine ⟨_, _, rfl, hm.drop 2, v25, rfl, ?_⟩
    show _ = [En.own 27 2 v25 (formLV ps).length (prs (formLV ps))]
    rw [hfl, hfk]; rfl

set_option maxHeartbeats 4000000 in
theorem Form_no (w : World) (vl : Value) (ps : List (Int × Int)) (hl : SlAt w 2 vl ps.length (prs ps)) (hok : ¬ NetOk ps) :
    Cl Try.prog 31 [vl].toArray w (fun e w' => ∃ v E, e = .returned v ∧ Mem w [] E w' ∧ ∃ vs, v = .tuple #[vs, .int .i64 ((([] : List (Int × Int)), (70 : Int))).2] ∧ E = [.own 27 2 vs ((([] : List (Int × Int)), (70 : Int))).1.length (prs ((([] : List (Int × Int)), (70 : Int))).1)]) := by
  have hm : Mem w [] [] w := Mem.init w
  refine cl_enter Try.func31 rfl Try.ntmps31 rfl ?_
  refine wc_seq ?_
  refine wc_region ?_
  refine wl_y (y_assign (by conv => lhs; whnf)) ?_
  refine wl_y (y_assign (by conv => lhs; whnf)) ?_
  refine wl_nil ?_
  refine then_normal ?_
  refine wc_seq ?_
  refine wc_region ?_
  refine wl_y (y_move (by conv => lhs; whnf)) ?_
  refine wl_callR hm hb54 (open_no _ _ _ (hl.step hm.upd) hok) rfl rfl (fun W hm hu => ?_)
  refine wl_y (y_move (by conv => lhs; whnf)) ?_
  refine wl_y (y_extract rfl rfl) ?_
  refine wl_y (y_extract rfl rfl) ?_
  refine wl_y (y_assign (by conv => lhs; whnf)) ?_
  refine wl_y (y_assign (by conv => lhs; whnf)) ?_
  refine wl_nil ?_
  refine then_normal ?_
  refine wc_seq ?_
  refine wc_seq ?_
  refine wc_region ?_
  refine wl_y (y_move (by conv => lhs; whnf)) ?_
  refine wl_y (y_neq rfl rfl) ?_
  refine wl_nil ?_
  refine then_normal ?_
  refine wc_cond_dec rfl (fun h1 => ?_) (fun h1 => ?_)
  · skip
    refine wc_seq ?_
    refine wc_region ?_
    refine wl_y (y_move (by conv => lhs; whnf)) ?_
    refine wl_y (y_assign (by conv => lhs; whnf)) ?_
    refine wl_y (y_assign (by conv => lhs; whnf)) ?_
    refine wl_nil ?_
    refine then_normal ?_
    refine wc_ret ?_
    refine then_ret ?_
    refine post_ret (results_fr2 rfl) ?_
    exact ⟨_, _, rfl, hm.ownNil 27 2, _, rfl, rfl⟩
  · exfalso
    omega

theorem Form_calls (w : World) (vl : Value) (ps : List (Int × Int)) (hl : SlAt w 2 vl ps.length (prs ps)) :
    Cl Try.prog 31 [vl].toArray w (fun e w' => ∃ v E, e = .returned v ∧ Mem w [] E w' ∧ ∃ vs, v = .tuple #[vs, .int .i64 (formV ps).2] ∧ E = [.own 27 2 vs (formV ps).1.length (prs (formV ps).1)]) := by
  by_cases hok : NetOk ps
  · rw [show formV ps = _ from if_pos hok]; exact Form_yes w vl ps hl hok
  · rw [show formV ps = _ from if_neg hok]; exact Form_no w vl ps hl hok
end Go.Proofs.Ytofpdjpenmhbnaa
namespace Go.Proofs.Ytofpdjpenmhbnaa
open Go Go.Kx
theorem hb31 : HasBody Try.prog 31 := hasBody Try.func31 (by kernel_rfl) (by kernel_rfl)
theorem hb36 : HasBody Try.prog 36 := hasBody Try.func36 (by kernel_rfl) (by kernel_rfl)
theorem hb37 : HasBody Try.prog 37 := hasBody Try.func37 (by kernel_rfl) (by kernel_rfl)
theorem hb39 : HasBody Try.prog 39 := hasBody Try.func39 (by kernel_rfl) (by kernel_rfl)
theorem intsT_calls (w : World) (v1 v2 : Value) (a : List Int) (hl1 : SlAt w 1 v1 a.length (ints a)) (hl2 : SlAt w 1 v2 a.length (ints a)) (ha : a.length ≤ 1000000) : Cl Try.prog 37 [v1, v2].toArray w (Ret w (.bool true)) := by
  have h := intsEq_calls w v1 v2 a a hl1 hl2 ha
  rw [decide_eq_true rfl] at h; exact h
theorem sameT_calls (w : World) (v1 v2 : Value) (a : List (Int × Int)) (hl1 : SlAt w 2 v1 a.length (prs a)) (hl2 : SlAt w 2 v2 a.length (prs a)) (ha : a.length ≤ 1000000) : Cl Try.prog 39 [v1, v2].toArray w (Ret w (.bool true)) := by
  have h := same_calls w v1 v2 a a hl1 hl2 ha
  rw [decide_eq_true rfl] at h; exact h

set_option maxHeartbeats 4000000 in
theorem soficForms_calls (w : World) (vl : Value) (ps : List (Int × Int)) (j : Bool) (hl : SlAt w 2 vl ps.length (prs ps)) :
    Cl Try.prog 8 [vl, .bool j].toArray w (Ret w (.bool true)) := by
  have hm : Mem w [] [] w := Mem.init w
  refine cl_enter Try.func8 rfl Try.ntmps8 rfl ?_
  refine wc_seq ?_
  refine wc_region ?_
  refine wl_y (y_assign (by conv => lhs; whnf)) ?_
  refine wl_nil ?_
  refine then_normal ?_
  refine wc_seq ?_
  refine wc_region ?_
  refine wl_y (y_move (by conv => lhs; whnf)) ?_
  refine wl_y (y_move (by conv => lhs; whnf)) ?_
  refine wl_callM hm hb14 (tame_calls _ _ ps j (hl.step hm.upd)) rfl rfl (fun W v12 E hm hu hE => ?_)
  obtain ⟨qs, hTqs, rfl⟩ := hE
  have hokqs := hTqs.1
  have hl1qs := hokqs.1
  refine wl_y (y_assign (by conv => lhs; whnf)) ?_
  refine wl_nil ?_
  refine then_normal ?_
  refine wc_seq ?_
  refine wc_region ?_
  refine wl_y (y_move (by conv => lhs; whnf)) ?_
  refine wl_callM hm hb36 (Equal_yes _ _ qs (hm.slAt 0 rfl) hokqs) rfl rfl (fun W v15 E hm hu hE => ?_)
  obtain ⟨vs15, rfl, rfl⟩ := hE
  refine wl_y (y_move (by conv => lhs; whnf)) ?_
  refine wl_y (y_extract rfl rfl) ?_
  refine wl_y (y_extract rfl rfl) ?_
  refine wl_y (y_assign (by conv => lhs; whnf)) ?_
  refine wl_y (y_assign (by conv => lhs; whnf)) ?_
  refine wl_nil ?_
  refine then_normal ?_
  refine wc_seq ?_
  refine wc_region ?_
  refine wl_y (y_move (by conv => lhs; whnf)) ?_
  refine wl_callM hm hb31 (Form_yes _ _ qs (hm.slAt 0 rfl) hokqs) rfl rfl (fun W v20 E hm hu hE => ?_)
  obtain ⟨vs20, rfl, rfl⟩ := hE
  refine wl_y (y_move (by conv => lhs; whnf)) ?_
  refine wl_y (y_extract rfl rfl) ?_
  refine wl_y (y_extract rfl rfl) ?_
  refine wl_y (y_assign (by conv => lhs; whnf)) ?_
  refine wl_y (y_assign (by conv => lhs; whnf)) ?_
  refine wl_nil ?_
  refine then_normal ?_
  refine wc_seq ?_
  refine wc_region ?_
  refine wl_y (y_move (by conv => lhs; whnf)) ?_
  refine wl_y (v := .bool true) (y_eqT rfl rfl) ?_
  refine wl_y (y_move (by conv => lhs; whnf)) ?_
  refine wl_guard_yes rfl ?_
  refine wl_y (y_move (by conv => lhs; whnf)) ?_
  refine wl_guard_yes rfl ?_
  refine wl_y (y_move (by conv => lhs; whnf)) ?_
  refine wl_guard_yes rfl ?_
  have hqe : (eqV (tabR qs) qs.length).length = qs.length := eqIter_len _ _ _
  refine wl_call hb38 (rEqual_calls _ _ qs (hm.slAt 0 rfl) hokqs.okf) rfl rfl (fun e W h => ?_)
  obtain ⟨v28, rfl, hv28⟩ := h
  refine ⟨_, rfl, ?_⟩
  have hm := hm.call hv28
  refine wl_guard_yes rfl ?_
  refine wl_callR (v := .bool true) hm hb37 (intsT_calls W _ _ (eqV (tabR qs) qs.length) (hm.slAt 1 rfl) (by rw [hqe]; exact hm.slAt 3 rfl) (by omega)) rfl rfl (fun W hm hu => ?_)
  refine wl_y (y_pick_true rfl (by conv => lhs; whnf)) ?_
  refine wl_y (y_move (by conv => lhs; whnf)) ?_
  refine wl_guard_yes rfl ?_
  refine wl_y (y_move (by conv => lhs; whnf)) ?_
  refine wl_guard_yes rfl ?_
  refine wl_y (v := .bool true) (y_eqT rfl rfl) ?_
  refine wl_y (y_pick_true rfl (by conv => lhs; whnf)) ?_
  refine wl_y (y_move (by conv => lhs; whnf)) ?_
  refine wl_guard_yes rfl ?_
  refine wl_y (y_move (by conv => lhs; whnf)) ?_
  refine wl_guard_yes rfl ?_
  refine wl_y (y_move (by conv => lhs; whnf)) ?_
  refine wl_guard_yes rfl ?_
  refine wl_call hb19 (rForm_calls _ _ qs (hm.slAt 0 rfl) hokqs.okf) rfl rfl (fun e W h => ?_)
  obtain ⟨v38, rfl, hv38⟩ := h
  refine ⟨_, rfl, ?_⟩
  have hm := hm.call hv38
  refine wl_guard_yes rfl ?_
  have hfl := formLV_len qs
  have hfk : formK (tabR qs) qs.length ≤ qs.length := rk_le _ _
  refine wl_callR (v := .bool true) hm hb39 (sameT_calls W _ _ (formLV qs) (hm.slAt 2 rfl) (hm.slAt 4 rfl) (by omega)) rfl rfl (fun W hm hu => ?_)
  refine wl_y (y_pick_true rfl (by conv => lhs; whnf)) ?_
  refine wl_y (y_move (by conv => lhs; whnf)) ?_
  refine wl_guard_yes rfl ?_
  refine wl_callR (v := .bool true) hm hb18 (awake_calls W) rfl rfl (fun W hm hu => ?_)
  refine wl_y (y_pick_true rfl (by conv => lhs; whnf)) ?_
  refine wl_y (y_assign (by conv => lhs; whnf)) ?_
  refine wl_nil ?_
  refine then_normal ?_
  refine wc_ret ?_
  refine post_ret (results_fr rfl) ?_
  exact ⟨rfl, hm.upd⟩
end Go.Proofs.Ytofpdjpenmhbnaa
namespace Go.Proofs.Ytofpdjpenmhbnaa
open Go Go.Kx
theorem hb44 : HasBody Try.prog 44 := hasBody Try.func44 (by kernel_rfl) (by kernel_rfl)
theorem hb45 : HasBody Try.prog 45 := hasBody Try.func45 (by kernel_rfl) (by kernel_rfl)
theorem hb46 : HasBody Try.prog 46 := hasBody Try.func46 (by kernel_rfl) (by kernel_rfl)
theorem hb48 : HasBody Try.prog 48 := hasBody Try.func48 (by kernel_rfl) (by kernel_rfl)
theorem rWordsI_calls (w : World) (vl : Value) (ps : List (Int × Int)) (m : Int) (hl0 : SlAt w 2 vl ps.length (prs ps)) (ho : Okf ps.length (tabR ps)) (hm : 0 ≤ m ∧ m ≤ 12) :
    Cl Try.prog 46 [vl, .int .i64 m].toArray w (fun e w' => ∃ v, e = .returned v ∧ Mem w [] [.own 9 1 v (rWordsF (tabR ps) ps.length m.toNat).length (strs (rWordsF (tabR ps) ps.length m.toNat))] w') := by
  obtain ⟨n, rfl⟩ : ∃ n : Nat, m = n := ⟨m.toNat, by omega⟩
  rw [Int.toNat_natCast]
  exact rWords_calls w vl ps n hl0 ho (by omega)
theorem rForbI_calls (w : World) (vl : Value) (ps : List (Int × Int)) (m : Int) (hl0 : SlAt w 2 vl ps.length (prs ps)) (ho : Okf ps.length (tabR ps)) (hm : 1 ≤ m ∧ m ≤ 12) :
    Cl Try.prog 48 [vl, .int .i64 m].toArray w (fun e w' => ∃ v, e = .returned v ∧ Mem w [] [.own 9 1 v (rForbF (tabR ps) ps.length m.toNat).length (strs (rForbF (tabR ps) ps.length m.toNat))] w') := by
  obtain ⟨n, rfl⟩ : ∃ n : Nat, m = n := ⟨m.toNat, by omega⟩
  rw [Int.toNat_natCast]
  exact rForbidden_calls w vl ps n hl0 ho (by omega) (by omega)

theorem y_gtrT {P : Program} {ρ : Operand → Value} {T t t' : TypeId} {W : World} {x y : Operand} {k : IntKind} {a c : Int} (hx : ρ x = .int k a) (hy : ρ y = .int k c) (h : c < a) : Y P ρ (.binOp .gtr t x y t') T (.bool true) W := by
  have h2 := y_gtr (P := P) (T := T) (W := W) (t := t) (t' := t') hx hy
  rwa [decide_eq_true h] at h2
theorem y_gtrF {P : Program} {ρ : Operand → Value} {T t t' : TypeId} {W : World} {x y : Operand} {k : IntKind} {a c : Int} (hx : ρ x = .int k a) (hy : ρ y = .int k c) (h : ¬ c < a) : Y P ρ (.binOp .gtr t x y t') T (.bool false) W := by
  have h2 := y_gtr (P := P) (T := T) (W := W) (t := t) (t' := t') hx hy
  rwa [decide_eq_false h] at h2

set_option maxHeartbeats 4000000 in
theorem soficCounts_calls (w : World) (vl : Value) (ps : List (Int × Int)) (m : Int) (hl : SlAt w 2 vl ps.length (prs ps)) (hwf : (Lit.int .i64 m).wf = true) :
    Cl Try.prog 10 [vl, .int .i64 m].toArray w (Ret w (.bool true)) := by
  have hm : Mem w [] [] w := Mem.init w
  refine cl_enter Try.func10 rfl Try.ntmps10 rfl ?_
  refine wc_seq ?_
  refine wc_region ?_
  refine wl_y (y_assign (by conv => lhs; whnf)) ?_
  refine wl_nil ?_
  refine then_normal ?_
  refine wc_seq ?_
  refine wc_region ?_
  refine wl_y (y_move (by conv => lhs; whnf)) ?_
  refine wl_y (y_move (by conv => lhs; whnf)) ?_
  refine wl_y (y_remT rfl rfl (by decide)) ?_
  refine wl_y (y_eql rfl rfl) ?_
  refine wl_callM hm hb14 (tame_calls _ _ ps (decide (m.tmod 2 = 0)) (hl.step hm.upd)) rfl rfl (fun W v17 E hm hu hE => ?_)
  obtain ⟨qs, hTqs, rfl⟩ := hE
  have hokqs := hTqs.1
  have hl1qs := hokqs.1
  refine wl_y (y_assign (by conv => lhs; whnf)) ?_
  refine wl_nil ?_
  refine then_normal ?_
  refine wc_seq ?_
  refine wc_seq ?_
  refine wc_region ?_
  refine wl_y (y_assign (by conv => lhs; whnf)) ?_
  refine wl_nil ?_
  refine then_normal ?_
  refine wc_block ?_
  refine wc_loop [1, 4, 6, 7, 8, 9, 10, 11, 12, 18, 19, 20, 21, 22, 23, 24, 25, 26, 27, 28, 29, 30, 31, 32, 33, 34, 35, 36, 37, 38, 39, 40, 41, 42, 43, 44, 45, 46, 47, 48, 49, 50, 51, 52, 53, 54, 55, 56, 57, 58, 59, 60, 61, 62, 63, 64, 65, 66, 67, 68, 69, 70, 71, 72, 73, 74, 75, 76, 77, 78, 79, 80, 81, 82, 83, 84, 85, 86, 87, 88, 89, 90, 91, 92, 93, 94, 95, 96, 97, 98, 99, 100, 101, 102, 103, 104, 105, 106, 107, 108, 109, 110, 111, 112, 113, 114, 115, 116, 117, 118, 119, 120, 121, 122, 123, 124, 125, 126] (fun ((r, m) : Nat × Int) => [(6, .int .i64 (r : Int)), (1, .int .i64 m)]) (fun ((r, m) : Nat × Int) W => Mem w [] [.own 27 2 v17 qs.length (prs qs)] W ∧ r ≤ 2) (fun ((r, m) : Nat × Int) => 2 - r) ((0, m) : Nat × Int) ?_ ?_ ?_
  · exact ⟨rfl, rfl, trivial⟩
  · exact ⟨hm, Nat.zero_le _⟩
  · rintro ⟨r, m⟩ u W ⟨hm, hr⟩
    refine wc_seq ?_
    refine wc_seq ?_
    refine wc_region ?_
    refine wl_y (y_move (by conv => lhs; whnf)) ?_
    refine wl_y (y_lss rfl rfl) ?_
    refine wl_nil ?_
    refine then_normal ?_
    refine wc_cond_dec rfl (fun h1 => ?_) (fun h1 => ?_)
    · skip
      refine wc_skip ?_
      refine then_normal ?_
      refine wc_seq ?_
      refine wc_block ?_
      refine wc_seq ?_
      refine wc_region ?_
      refine wl_y (y_move (by conv => lhs; whnf)) ?_
      refine wl_y (y_move (by conv => lhs; whnf)) ?_
      refine wl_callR hm hb44 (Count_calls _ _ qs m (hm.slAt 0 rfl)) rfl rfl (fun W hm hu => ?_)
      refine wl_y (y_move (by conv => lhs; whnf)) ?_
      refine wl_y (y_extract rfl rfl) ?_
      refine wl_y (y_extract rfl rfl) ?_
      refine wl_y (y_assign (by conv => lhs; whnf)) ?_
      refine wl_y (y_assign (by conv => lhs; whnf)) ?_
      refine wl_nil ?_
      refine then_normal ?_
      refine wc_seq ?_
      refine wc_region ?_
      refine wl_y (y_move (by conv => lhs; whnf)) ?_
      refine wl_y (y_move (by conv => lhs; whnf)) ?_
      refine wl_call hb45 (Words_calls _ _ qs m (hm.slAt 0 rfl)) rfl rfl (fun e W h => ?_)
      obtain ⟨v31, rfl, hv31⟩ := h
      refine ⟨_, rfl, ?_⟩
      have hm := hm.call hv31
      refine wl_y (y_move (by conv => lhs; whnf)) ?_
      refine wl_y (y_extract rfl rfl) ?_
      refine wl_y (y_extract rfl rfl) ?_
      refine wl_y (y_assign (by conv => lhs; whnf)) ?_
      refine wl_y (y_assign (by conv => lhs; whnf)) ?_
      refine wl_nil ?_
      refine then_normal ?_
      refine wc_seq ?_
      refine wc_region ?_
      refine wl_y (y_move (by conv => lhs; whnf)) ?_
      refine wl_y (y_move (by conv => lhs; whnf)) ?_
      refine wl_call hb32 (Forbidden_calls _ _ qs m (hm.slAt 0 rfl)) rfl rfl (fun e W h => ?_)
      obtain ⟨v37, rfl, hv37⟩ := h
      refine ⟨_, rfl, ?_⟩
      have hm := hm.call hv37
      refine wl_y (y_move (by conv => lhs; whnf)) ?_
      refine wl_y (y_extract rfl rfl) ?_
      refine wl_y (y_extract rfl rfl) ?_
      refine wl_y (y_assign (by conv => lhs; whnf)) ?_
      refine wl_y (y_assign (by conv => lhs; whnf)) ?_
      refine wl_nil ?_
      refine then_normal ?_
      refine wc_seq ?_
      refine wc_seq ?_
      refine wc_region ?_
      refine wl_y (y_move (by conv => lhs; whnf)) ?_
      refine wl_y (y_lss rfl rfl) ?_
      refine wl_split rfl (fun h2 => ?_) (fun h2 => ?_)
      · have hcv := count_out hokqs (m := m) (by omega)
        refine wl_guard_no rfl ?_
        refine wl_guard_no rfl ?_
        refine wl_y (y_pick_true rfl (by conv => lhs; whnf)) ?_
        refine wl_nil ?_
        refine then_normal ?_
        refine wc_cond_true rfl ?_
        refine wc_seq ?_
        refine wc_region ?_
        refine wl_y (y_move (by conv => lhs; whnf)) ?_
        refine wl_y (y_neq rfl rfl) ?_
        refine wl_split rfl (fun h3 => ?_) (fun h3 => ?_)
        · exact absurd (by rw [hcv]) h3
        · skip
          refine wl_guard_yes rfl ?_
          refine wl_y (y_move (by conv => lhs; whnf)) ?_
          refine wl_guard_yes rfl ?_
          refine wl_y (y_neq rfl rfl) ?_
          refine wl_y (y_pick_false rfl (by conv => lhs; whnf)) ?_
          refine wl_nil ?_
          refine then_normal ?_
          refine wc_cond_dec rfl (fun h4 => ?_) (fun h4 => ?_)
          · exact absurd (by rw [hcv]) h4
          · skip
            refine wc_skip ?_
            refine then_normal ?_
            refine wc_seq ?_
            refine wc_seq ?_
            refine wc_region ?_
            have hm := hm.take 3
            refine wl_y (y_move (by conv => lhs; whnf)) ?_
            refine wl_y (y_lss rfl rfl) ?_
            refine wl_split rfl (fun h5 => ?_) (fun h5 => ?_)
            · have hwv := words_out hokqs (m := m) (by omega)
              have hfv := forb_out hokqs (m := m) (by omega)
              have hl1w : (wordsV qs m).1.length = 0 := by rw [hwv]; rfl
              have hl1f : (forbV qs m).1.length = 0 := by rw [hfv]; rfl
              refine wl_guard_no rfl ?_
              refine wl_guard_no rfl ?_
              refine wl_y (y_pick_true rfl (by conv => lhs; whnf)) ?_
              refine wl_nil ?_
              refine then_normal ?_
              refine wc_cond_true rfl ?_
              refine wc_seq ?_
              refine wc_region ?_
              refine wl_y (y_move (by conv => lhs; whnf)) ?_
              refine wl_y (y_neq rfl rfl) ?_
              refine wl_split rfl (fun h6 => ?_) (fun h6 => ?_)
              · exact absurd (by rw [hwv]) h6
              · skip
                refine wl_guard_yes rfl ?_
                refine wl_y (y_move (by conv => lhs; whnf)) ?_
                refine wl_guard_yes rfl ?_
                refine wl_y (y_neq rfl rfl) ?_
                refine wl_y (y_pick_false rfl (by conv => lhs; whnf)) ?_
                refine wl_split rfl (fun h7 => ?_) (fun h7 => ?_)
                · exact absurd (by rw [hfv]) h7
                · skip
                  refine wl_guard_yes rfl ?_
                  refine wl_y (y_move (by conv => lhs; whnf)) ?_
                  refine wl_guard_yes rfl ?_
                  refine wl_y (y_lenSl rfl (hm.slAt 1 rfl) Try.underlying47) ?_
                  refine wl_guard_yes rfl ?_
                  refine wl_y (y_move (by conv => lhs; whnf)) ?_
                  refine wl_guard_yes rfl ?_
                  refine wl_y (y_lenSl rfl (hm.slAt 2 rfl) Try.underlying47) ?_
                  refine wl_guard_yes rfl ?_
                  refine wl_y (y_add64 rfl rfl (by omega)) ?_
                  refine wl_guard_yes rfl ?_
                  refine wl_y (y_neq rfl rfl) ?_
                  refine wl_y (y_pick_false rfl (by conv => lhs; whnf)) ?_
                  refine wl_nil ?_
                  refine then_normal ?_
                  refine wc_cond_dec rfl (fun h8 => ?_) (fun h8 => ?_)
                  · exact absurd (by omega) h8
                  · skip
                    refine wc_skip ?_
                    refine then_normal ?_
                    refine wc_region ?_
                    refine wl_y (y_move (by conv => lhs; whnf)) ?_
                    refine wl_y (y_convW rfl Try.underlying3 Try.underlying39) ?_
                    have hur := u64_range m
                    refine wl_y (y_rem rfl rfl (by omega)) ?_
                    refine wl_y (y_conv rfl Try.underlying39 Try.underlying3 (IntWalk.i64_in _ (by omega))) ?_
                    refine wl_y (y_assign (by conv => lhs; whnf)) ?_
                    refine wl_nil ?_
                    refine block_normal ?_
                    refine then_normal ?_
                    refine wc_region ?_
                    refine wl_y (y_move (by conv => lhs; whnf)) ?_
                    refine wl_y (y_add64 rfl rfl (by omega)) ?_
                    refine wl_y (y_assign (by conv => lhs; whnf)) ?_
                    refine wl_nil ?_
                    refine next_round (σ := Nat × Int) (r + 1, _) rfl (by repeat first | exact out_hav | refine out_look rfl ?_ | refine out_havIn rfl ?_) ⟨rfl, rfl, trivial⟩ ⟨hm.take 1, by omega⟩ (by (try dsimp only); omega)
            · skip
              refine wl_guard_yes rfl ?_
              refine wl_y (y_move (by conv => lhs; whnf)) ?_
              refine wl_guard_yes rfl ?_
              refine wl_y (y_gtr rfl rfl) ?_
              refine wl_y (y_pick_false rfl (by conv => lhs; whnf)) ?_
              refine wl_nil ?_
              refine then_normal ?_
              refine wc_cond_dec rfl (fun h9 => ?_) (fun h9 => ?_)
              · have hwv := words_out hokqs (m := m) (by omega)
                have hfv := forb_out hokqs (m := m) (by omega)
                have hl1w : (wordsV qs m).1.length = 0 := by rw [hwv]; rfl
                have hl1f : (forbV qs m).1.length = 0 := by rw [hfv]; rfl
                refine wc_seq ?_
                refine wc_region ?_
                refine wl_y (y_move (by conv => lhs; whnf)) ?_
                refine wl_y (y_neq rfl rfl) ?_
                refine wl_split rfl (fun h10 => ?_) (fun h10 => ?_)
                · exact absurd (by rw [hwv]) h10
                · skip
                  refine wl_guard_yes rfl ?_
                  refine wl_y (y_move (by conv => lhs; whnf)) ?_
                  refine wl_guard_yes rfl ?_
                  refine wl_y (y_neq rfl rfl) ?_
                  refine wl_y (y_pick_false rfl (by conv => lhs; whnf)) ?_
                  refine wl_split rfl (fun h11 => ?_) (fun h11 => ?_)
                  · exact absurd (by rw [hfv]) h11
                  · skip
                    refine wl_guard_yes rfl ?_
                    refine wl_y (y_move (by conv => lhs; whnf)) ?_
                    refine wl_guard_yes rfl ?_
                    refine wl_y (y_lenSl rfl (hm.slAt 1 rfl) Try.underlying47) ?_
                    refine wl_guard_yes rfl ?_
                    refine wl_y (y_move (by conv => lhs; whnf)) ?_
                    refine wl_guard_yes rfl ?_
                    refine wl_y (y_lenSl rfl (hm.slAt 2 rfl) Try.underlying47) ?_
                    refine wl_guard_yes rfl ?_
                    refine wl_y (y_add64 rfl rfl (by omega)) ?_
                    refine wl_guard_yes rfl ?_
                    refine wl_y (y_neq rfl rfl) ?_
                    refine wl_y (y_pick_false rfl (by conv => lhs; whnf)) ?_
                    refine wl_nil ?_
                    refine then_normal ?_
                    refine wc_cond_dec rfl (fun h12 => ?_) (fun h12 => ?_)
                    · exact absurd (by omega) h12
                    · skip
                      refine wc_skip ?_
                      refine then_normal ?_
                      refine wc_region ?_
                      refine wl_y (y_move (by conv => lhs; whnf)) ?_
                      refine wl_y (y_convW rfl Try.underlying3 Try.underlying39) ?_
                      have hur := u64_range m
                      refine wl_y (y_rem rfl rfl (by omega)) ?_
                      refine wl_y (y_conv rfl Try.underlying39 Try.underlying3 (IntWalk.i64_in _ (by omega))) ?_
                      refine wl_y (y_assign (by conv => lhs; whnf)) ?_
                      refine wl_nil ?_
                      refine block_normal ?_
                      refine then_normal ?_
                      refine wc_region ?_
                      refine wl_y (y_move (by conv => lhs; whnf)) ?_
                      refine wl_y (y_add64 rfl rfl (by omega)) ?_
                      refine wl_y (y_assign (by conv => lhs; whnf)) ?_
                      refine wl_nil ?_
                      refine next_round (σ := Nat × Int) (r + 1, _) rfl (by repeat first | exact out_hav | refine out_look rfl ?_ | refine out_havIn rfl ?_) ⟨rfl, rfl, trivial⟩ ⟨hm.take 1, by omega⟩ (by (try dsimp only); omega)
              · have hwv := words_in hokqs (m := m) (by omega)
                have hl2w := rWordsF_len (tabR qs) qs.length m.toNat
                have hp12a := pow12 (n := m.toNat) (by omega)
                refine wc_seq ?_
                refine wc_seq ?_
                refine wc_region ?_
                refine wl_y (y_move (by conv => lhs; whnf)) ?_
                refine wl_y (y_neq rfl rfl) ?_
                refine wl_split rfl (fun h13 => ?_) (fun h13 => ?_)
                · exact absurd (by rw [hwv]) h13
                · skip
                  refine wl_guard_yes rfl ?_
                  refine wl_y (y_move (by conv => lhs; whnf)) ?_
                  refine wl_guard_yes rfl ?_
                  refine wl_y (y_move (by conv => lhs; whnf)) ?_
                  refine wl_guard_yes rfl ?_
                  refine wl_y (y_move (by conv => lhs; whnf)) ?_
                  refine wl_guard_yes rfl ?_
                  refine wl_call hb46 (rWordsI_calls _ _ qs m (hm.slAt 0 rfl) hokqs.okf (by omega)) rfl rfl (fun e W h => ?_)
                  obtain ⟨v92, rfl, hv92⟩ := h
                  refine ⟨_, rfl, ?_⟩
                  have hm := hm.call hv92
                  refine wl_guard_yes rfl ?_
                  refine wl_callR (v := .bool true) hm hb47 (textsEq_calls W _ _ (rWordsF (tabR qs) qs.length m.toNat) (by have h := hm.slAt 1 rfl; rw [hwv] at h; exact h) (hm.slAt 3 rfl) (by omega)) rfl rfl (fun W hm hu => ?_)
                  refine wl_guard_yes rfl ?_
                  refine wl_y (y_not rfl) ?_
                  refine wl_y (y_pick_false rfl (by conv => lhs; whnf)) ?_
                  refine wl_nil ?_
                  refine then_normal ?_
                  refine wc_cond_false rfl ?_
                  refine wc_skip ?_
                  refine then_normal ?_
                  refine wc_seq ?_
                  refine wc_region ?_
                  have hm := hm.take 3
                  refine wl_y (y_move (by conv => lhs; whnf)) ?_
                  refine wl_y (y_eql rfl rfl) ?_
                  refine wl_split rfl (fun h14 => ?_) (fun h14 => ?_)
                  · have hm0 : m = 0 := h14
                    have hfv := forb_out hokqs (m := m) (by omega)
                    have hl1f : (forbV qs m).1.length = 0 := by rw [hfv]; rfl
                    refine wl_guard_yes rfl ?_
                    refine wl_y (y_move (by conv => lhs; whnf)) ?_
                    refine wl_guard_yes rfl ?_
                    refine wl_y (y_neq rfl rfl) ?_
                    refine wl_guard_yes rfl ?_
                    refine wl_split rfl (fun h15 => ?_) (fun h15 => ?_)
                    · exact absurd (by rw [hfv]) h15
                    · skip
                      refine wl_guard_yes rfl ?_
                      refine wl_y (y_move (by conv => lhs; whnf)) ?_
                      refine wl_guard_yes rfl ?_
                      refine wl_y (y_lenSl rfl (hm.slAt 2 rfl) Try.underlying47) ?_
                      refine wl_guard_yes rfl ?_
                      refine wl_y (y_neq rfl rfl) ?_
                      refine wl_guard_yes rfl ?_
                      refine wl_y (y_pick_false rfl (by conv => lhs; whnf)) ?_
                      refine wl_y (y_pick_true rfl (by conv => lhs; whnf)) ?_
                      refine wl_split rfl (fun h16 => ?_) (fun h16 => ?_)
                      · exact absurd (by rw [hl1f]; rfl) h16
                      · skip
                        refine wl_guard_yes rfl ?_
                        refine wl_y (y_move (by conv => lhs; whnf)) ?_
                        refine wl_guard_yes rfl ?_
                        refine wl_y (v := .bool false) (y_gtrF rfl rfl (by omega)) ?_
                        refine wl_guard_yes rfl ?_
                        refine wl_y (y_move (by conv => lhs; whnf)) ?_
                        refine wl_guard_no rfl ?_
                        refine wl_guard_no rfl ?_
                        refine wl_guard_no rfl ?_
                        refine wl_guard_no rfl ?_
                        refine wl_guard_no rfl ?_
                        refine wl_guard_no rfl ?_
                        refine wl_guard_no rfl ?_
                        refine wl_guard_no rfl ?_
                        refine wl_guard_no rfl ?_
                        refine wl_guard_no rfl ?_
                        refine wl_guard_yes rfl ?_
                        refine wl_y (y_pick_false rfl (by conv => lhs; whnf)) ?_
                        refine wl_y (y_pick_false rfl (by conv => lhs; whnf)) ?_
                        refine wl_nil ?_
                        refine then_normal ?_
                        refine wc_cond_false rfl ?_
                        refine wc_skip ?_
                        refine then_normal ?_
                        refine wc_region ?_
                        refine wl_y (y_move (by conv => lhs; whnf)) ?_
                        refine wl_y (y_convW rfl Try.underlying3 Try.underlying39) ?_
                        have hur := u64_range m
                        refine wl_y (y_rem rfl rfl (by omega)) ?_
                        refine wl_y (y_conv rfl Try.underlying39 Try.underlying3 (IntWalk.i64_in _ (by omega))) ?_
                        refine wl_y (y_assign (by conv => lhs; whnf)) ?_
                        refine wl_nil ?_
                        refine block_normal ?_
                        refine then_normal ?_
                        refine wc_region ?_
                        refine wl_y (y_move (by conv => lhs; whnf)) ?_
                        refine wl_y (y_add64 rfl rfl (by omega)) ?_
                        refine wl_y (y_assign (by conv => lhs; whnf)) ?_
                        refine wl_nil ?_
                        refine next_round (σ := Nat × Int) (r + 1, _) rfl (by repeat first | exact out_hav | refine out_look rfl ?_ | refine out_havIn rfl ?_) ⟨rfl, rfl, trivial⟩ ⟨hm.take 1, by omega⟩ (by (try dsimp only); omega)
                  · have hm0 : ¬ m = 0 := h14
                    have hfv := forb_in hokqs (m := m) (by omega)
                    have hl2f := rForbF_len (tabR qs) qs.length m.toNat
                    have hp12b := pow12 (n := m.toNat) (by omega)
                    refine wl_guard_no rfl ?_
                    refine wl_guard_no rfl ?_
                    refine wl_guard_no rfl ?_
                    refine wl_guard_no rfl ?_
                    refine wl_guard_no rfl ?_
                    refine wl_guard_no rfl ?_
                    refine wl_guard_no rfl ?_
                    refine wl_y (y_pick_false rfl (by conv => lhs; whnf)) ?_
                    refine wl_y (y_move (by conv => lhs; whnf)) ?_
                    refine wl_guard_yes rfl ?_
                    refine wl_y (y_move (by conv => lhs; whnf)) ?_
                    refine wl_guard_yes rfl ?_
                    refine wl_y (v := .bool true) (y_gtrT rfl rfl (by omega)) ?_
                    refine wl_guard_yes rfl ?_
                    refine wl_y (y_move (by conv => lhs; whnf)) ?_
                    refine wl_guard_yes rfl ?_
                    refine wl_y (y_move (by conv => lhs; whnf)) ?_
                    refine wl_guard_yes rfl ?_
                    refine wl_y (y_neq rfl rfl) ?_
                    refine wl_guard_yes rfl ?_
                    refine wl_split rfl (fun h17 => ?_) (fun h17 => ?_)
                    · exact absurd (by rw [hfv]) h17
                    · skip
                      refine wl_guard_yes rfl ?_
                      refine wl_y (y_move (by conv => lhs; whnf)) ?_
                      refine wl_guard_yes rfl ?_
                      refine wl_y (y_move (by conv => lhs; whnf)) ?_
                      refine wl_guard_yes rfl ?_
                      refine wl_y (y_move (by conv => lhs; whnf)) ?_
                      refine wl_guard_yes rfl ?_
                      refine wl_call hb48 (rForbI_calls _ _ qs m (hm.slAt 0 rfl) hokqs.okf (by omega)) rfl rfl (fun e W h => ?_)
                      obtain ⟨v117, rfl, hv117⟩ := h
                      refine ⟨_, rfl, ?_⟩
                      have hm := hm.call hv117
                      refine wl_guard_yes rfl ?_
                      refine wl_callR (v := .bool true) hm hb47 (textsEq_calls W _ _ (rForbF (tabR qs) qs.length m.toNat) (by have h := hm.slAt 2 rfl; rw [hfv] at h; exact h) (hm.slAt 3 rfl) (by omega)) rfl rfl (fun W hm hu => ?_)
                      refine wl_guard_yes rfl ?_
                      refine wl_y (y_not rfl) ?_
                      refine wl_guard_yes rfl ?_
                      refine wl_y (y_pick_false rfl (by conv => lhs; whnf)) ?_
                      refine wl_guard_yes rfl ?_
                      refine wl_y (y_pick_true rfl (by conv => lhs; whnf)) ?_
                      refine wl_y (y_pick_false rfl (by conv => lhs; whnf)) ?_
                      refine wl_nil ?_
                      refine then_normal ?_
                      refine wc_cond_false rfl ?_
                      refine wc_skip ?_
                      refine then_normal ?_
                      refine wc_region ?_
                      refine wl_y (y_move (by conv => lhs; whnf)) ?_
                      refine wl_y (y_convW rfl Try.underlying3 Try.underlying39) ?_
                      have hur := u64_range m
                      refine wl_y (y_rem rfl rfl (by omega)) ?_
                      refine wl_y (y_conv rfl Try.underlying39 Try.underlying3 (IntWalk.i64_in _ (by omega))) ?_
                      refine wl_y (y_assign (by conv => lhs; whnf)) ?_
                      refine wl_nil ?_
                      refine block_normal ?_
                      refine then_normal ?_
                      refine wc_region ?_
                      refine wl_y (y_move (by conv => lhs; whnf)) ?_
                      refine wl_y (y_add64 rfl rfl (by omega)) ?_
                      refine wl_y (y_assign (by conv => lhs; whnf)) ?_
                      refine wl_nil ?_
                      refine next_round (σ := Nat × Int) (r + 1, _) rfl (by repeat first | exact out_hav | refine out_look rfl ?_ | refine out_havIn rfl ?_) ⟨rfl, rfl, trivial⟩ ⟨hm.take 1, by omega⟩ (by (try dsimp only); omega)
      · skip
        refine wl_guard_yes rfl ?_
        refine wl_y (y_move (by conv => lhs; whnf)) ?_
        refine wl_guard_yes rfl ?_
        refine wl_y (y_gtr rfl rfl) ?_
        refine wl_y (y_pick_false rfl (by conv => lhs; whnf)) ?_
        refine wl_nil ?_
        refine then_normal ?_
        refine wc_cond_dec rfl (fun h18 => ?_) (fun h18 => ?_)
        · have hcv := count_out hokqs (m := m) (by omega)
          refine wc_seq ?_
          refine wc_region ?_
          refine wl_y (y_move (by conv => lhs; whnf)) ?_
          refine wl_y (y_neq rfl rfl) ?_
          refine wl_split rfl (fun h19 => ?_) (fun h19 => ?_)
          · exact absurd (by rw [hcv]) h19
          · skip
            refine wl_guard_yes rfl ?_
            refine wl_y (y_move (by conv => lhs; whnf)) ?_
            refine wl_guard_yes rfl ?_
            refine wl_y (y_neq rfl rfl) ?_
            refine wl_y (y_pick_false rfl (by conv => lhs; whnf)) ?_
            refine wl_nil ?_
            refine then_normal ?_
            refine wc_cond_dec rfl (fun h20 => ?_) (fun h20 => ?_)
            · exact absurd (by rw [hcv]) h20
            · skip
              refine wc_skip ?_
              refine then_normal ?_
              refine wc_seq ?_
              refine wc_seq ?_
              refine wc_region ?_
              have hm := hm.take 3
              refine wl_y (y_move (by conv => lhs; whnf)) ?_
              refine wl_y (y_lss rfl rfl) ?_
              refine wl_split rfl (fun h21 => ?_) (fun h21 => ?_)
              · have hwv := words_out hokqs (m := m) (by omega)
                have hfv := forb_out hokqs (m := m) (by omega)
                have hl1w : (wordsV qs m).1.length = 0 := by rw [hwv]; rfl
                have hl1f : (forbV qs m).1.length = 0 := by rw [hfv]; rfl
                refine wl_guard_no rfl ?_
                refine wl_guard_no rfl ?_
                refine wl_y (y_pick_true rfl (by conv => lhs; whnf)) ?_
                refine wl_nil ?_
                refine then_normal ?_
                refine wc_cond_true rfl ?_
                refine wc_seq ?_
                refine wc_region ?_
                refine wl_y (y_move (by conv => lhs; whnf)) ?_
                refine wl_y (y_neq rfl rfl) ?_
                refine wl_split rfl (fun h22 => ?_) (fun h22 => ?_)
                · exact absurd (by rw [hwv]) h22
                · skip
                  refine wl_guard_yes rfl ?_
                  refine wl_y (y_move (by conv => lhs; whnf)) ?_
                  refine wl_guard_yes rfl ?_
                  refine wl_y (y_neq rfl rfl) ?_
                  refine wl_y (y_pick_false rfl (by conv => lhs; whnf)) ?_
                  refine wl_split rfl (fun h23 => ?_) (fun h23 => ?_)
                  · exact absurd (by rw [hfv]) h23
                  · skip
                    refine wl_guard_yes rfl ?_
                    refine wl_y (y_move (by conv => lhs; whnf)) ?_
                    refine wl_guard_yes rfl ?_
                    refine wl_y (y_lenSl rfl (hm.slAt 1 rfl) Try.underlying47) ?_
                    refine wl_guard_yes rfl ?_
                    refine wl_y (y_move (by conv => lhs; whnf)) ?_
                    refine wl_guard_yes rfl ?_
                    refine wl_y (y_lenSl rfl (hm.slAt 2 rfl) Try.underlying47) ?_
                    refine wl_guard_yes rfl ?_
                    refine wl_y (y_add64 rfl rfl (by omega)) ?_
                    refine wl_guard_yes rfl ?_
                    refine wl_y (y_neq rfl rfl) ?_
                    refine wl_y (y_pick_false rfl (by conv => lhs; whnf)) ?_
                    refine wl_nil ?_
                    refine then_normal ?_
                    refine wc_cond_dec rfl (fun h24 => ?_) (fun h24 => ?_)
                    · exact absurd (by omega) h24
                    · skip
                      refine wc_skip ?_
                      refine then_normal ?_
                      refine wc_region ?_
                      refine wl_y (y_move (by conv => lhs; whnf)) ?_
                      refine wl_y (y_convW rfl Try.underlying3 Try.underlying39) ?_
                      have hur := u64_range m
                      refine wl_y (y_rem rfl rfl (by omega)) ?_
                      refine wl_y (y_conv rfl Try.underlying39 Try.underlying3 (IntWalk.i64_in _ (by omega))) ?_
                      refine wl_y (y_assign (by conv => lhs; whnf)) ?_
                      refine wl_nil ?_
                      refine block_normal ?_
                      refine then_normal ?_
                      refine wc_region ?_
                      refine wl_y (y_move (by conv => lhs; whnf)) ?_
                      refine wl_y (y_add64 rfl rfl (by omega)) ?_
                      refine wl_y (y_assign (by conv => lhs; whnf)) ?_
                      refine wl_nil ?_
                      refine next_round (σ := Nat × Int) (r + 1, _) rfl (by repeat first | exact out_hav | refine out_look rfl ?_ | refine out_havIn rfl ?_) ⟨rfl, rfl, trivial⟩ ⟨hm.take 1, by omega⟩ (by (try dsimp only); omega)
              · skip
                refine wl_guard_yes rfl ?_
                refine wl_y (y_move (by conv => lhs; whnf)) ?_
                refine wl_guard_yes rfl ?_
                refine wl_y (y_gtr rfl rfl) ?_
                refine wl_y (y_pick_false rfl (by conv => lhs; whnf)) ?_
                refine wl_nil ?_
                refine then_normal ?_
                refine wc_cond_dec rfl (fun h25 => ?_) (fun h25 => ?_)
                · have hwv := words_out hokqs (m := m) (by omega)
                  have hfv := forb_out hokqs (m := m) (by omega)
                  have hl1w : (wordsV qs m).1.length = 0 := by rw [hwv]; rfl
                  have hl1f : (forbV qs m).1.length = 0 := by rw [hfv]; rfl
                  refine wc_seq ?_
                  refine wc_region ?_
                  refine wl_y (y_move (by conv => lhs; whnf)) ?_
                  refine wl_y (y_neq rfl rfl) ?_
                  refine wl_split rfl (fun h26 => ?_) (fun h26 => ?_)
                  · exact absurd (by rw [hwv]) h26
                  · skip
                    refine wl_guard_yes rfl ?_
                    refine wl_y (y_move (by conv => lhs; whnf)) ?_
                    refine wl_guard_yes rfl ?_
                    refine wl_y (y_neq rfl rfl) ?_
                    refine wl_y (y_pick_false rfl (by conv => lhs; whnf)) ?_
                    refine wl_split rfl (fun h27 => ?_) (fun h27 => ?_)
                    · exact absurd (by rw [hfv]) h27
                    · skip
                      refine wl_guard_yes rfl ?_
                      refine wl_y (y_move (by conv => lhs; whnf)) ?_
                      refine wl_guard_yes rfl ?_
                      refine wl_y (y_lenSl rfl (hm.slAt 1 rfl) Try.underlying47) ?_
                      refine wl_guard_yes rfl ?_
                      refine wl_y (y_move (by conv => lhs; whnf)) ?_
                      refine wl_guard_yes rfl ?_
                      refine wl_y (y_lenSl rfl (hm.slAt 2 rfl) Try.underlying47) ?_
                      refine wl_guard_yes rfl ?_
                      refine wl_y (y_add64 rfl rfl (by omega)) ?_
                      refine wl_guard_yes rfl ?_
                      refine wl_y (y_neq rfl rfl) ?_
                      refine wl_y (y_pick_false rfl (by conv => lhs; whnf)) ?_
                      refine wl_nil ?_
                      refine then_normal ?_
                      refine wc_cond_dec rfl (fun h28 => ?_) (fun h28 => ?_)
                      · exact absurd (by omega) h28
                      · skip
                        refine wc_skip ?_
                        refine then_normal ?_
                        refine wc_region ?_
                        refine wl_y (y_move (by conv => lhs; whnf)) ?_
                        refine wl_y (y_convW rfl Try.underlying3 Try.underlying39) ?_
                        have hur := u64_range m
                        refine wl_y (y_rem rfl rfl (by omega)) ?_
                        refine wl_y (y_conv rfl Try.underlying39 Try.underlying3 (IntWalk.i64_in _ (by omega))) ?_
                        refine wl_y (y_assign (by conv => lhs; whnf)) ?_
                        refine wl_nil ?_
                        refine block_normal ?_
                        refine then_normal ?_
                        refine wc_region ?_
                        refine wl_y (y_move (by conv => lhs; whnf)) ?_
                        refine wl_y (y_add64 rfl rfl (by omega)) ?_
                        refine wl_y (y_assign (by conv => lhs; whnf)) ?_
                        refine wl_nil ?_
                        refine next_round (σ := Nat × Int) (r + 1, _) rfl (by repeat first | exact out_hav | refine out_look rfl ?_ | refine out_havIn rfl ?_) ⟨rfl, rfl, trivial⟩ ⟨hm.take 1, by omega⟩ (by (try dsimp only); omega)
                · have hwv := words_in hokqs (m := m) (by omega)
                  have hl2w := rWordsF_len (tabR qs) qs.length m.toNat
                  have hp12a := pow12 (n := m.toNat) (by omega)
                  refine wc_seq ?_
                  refine wc_seq ?_
                  refine wc_region ?_
                  refine wl_y (y_move (by conv => lhs; whnf)) ?_
                  refine wl_y (y_neq rfl rfl) ?_
                  refine wl_split rfl (fun h29 => ?_) (fun h29 => ?_)
                  · exact absurd (by rw [hwv]) h29
                  · skip
                    refine wl_guard_yes rfl ?_
                    refine wl_y (y_move (by conv => lhs; whnf)) ?_
                    refine wl_guard_yes rfl ?_
                    refine wl_y (y_move (by conv => lhs; whnf)) ?_
                    refine wl_guard_yes rfl ?_
                    refine wl_y (y_move (by conv => lhs; whnf)) ?_
                    refine wl_guard_yes rfl ?_
                    refine wl_call hb46 (rWordsI_calls _ _ qs m (hm.slAt 0 rfl) hokqs.okf (by omega)) rfl rfl (fun e W h => ?_)
                    obtain ⟨v92, rfl, hv92⟩ := h
                    refine ⟨_, rfl, ?_⟩
                    have hm := hm.call hv92
                    refine wl_guard_yes rfl ?_
                    refine wl_callR (v := .bool true) hm hb47 (textsEq_calls W _ _ (rWordsF (tabR qs) qs.length m.toNat) (by have h := hm.slAt 1 rfl; rw [hwv] at h; exact h) (hm.slAt 3 rfl) (by omega)) rfl rfl (fun W hm hu => ?_)
                    refine wl_guard_yes rfl ?_
                    refine wl_y (y_not rfl) ?_
                    refine wl_y (y_pick_false rfl (by conv => lhs; whnf)) ?_
                    refine wl_nil ?_
                    refine then_normal ?_
                    refine wc_cond_false rfl ?_
                    refine wc_skip ?_
                    refine then_normal ?_
                    refine wc_seq ?_
                    refine wc_region ?_
                    have hm := hm.take 3
                    refine wl_y (y_move (by conv => lhs; whnf)) ?_
                    refine wl_y (y_eql rfl rfl) ?_
                    refine wl_split rfl (fun h30 => ?_) (fun h30 => ?_)
                    · have hm0 : m = 0 := h30
                      have hfv := forb_out hokqs (m := m) (by omega)
                      have hl1f : (forbV qs m).1.length = 0 := by rw [hfv]; rfl
                      refine wl_guard_yes rfl ?_
                      refine wl_y (y_move (by conv => lhs; whnf)) ?_
                      refine wl_guard_yes rfl ?_
                      refine wl_y (y_neq rfl rfl) ?_
                      refine wl_guard_yes rfl ?_
                      refine wl_split rfl (fun h31 => ?_) (fun h31 => ?_)
                      · exact absurd (by rw [hfv]) h31
                      · skip
                        refine wl_guard_yes rfl ?_
                        refine wl_y (y_move (by conv => lhs; whnf)) ?_
                        refine wl_guard_yes rfl ?_
                        refine wl_y (y_lenSl rfl (hm.slAt 2 rfl) Try.underlying47) ?_
                        refine wl_guard_yes rfl ?_
                        refine wl_y (y_neq rfl rfl) ?_
                        refine wl_guard_yes rfl ?_
                        refine wl_y (y_pick_false rfl (by conv => lhs; whnf)) ?_
                        refine wl_y (y_pick_true rfl (by conv => lhs; whnf)) ?_
                        refine wl_split rfl (fun h32 => ?_) (fun h32 => ?_)
                        · exact absurd (by rw [hl1f]; rfl) h32
                        · skip
                          refine wl_guard_yes rfl ?_
                          refine wl_y (y_move (by conv => lhs; whnf)) ?_
                          refine wl_guard_yes rfl ?_
                          refine wl_y (v := .bool false) (y_gtrF rfl rfl (by omega)) ?_
                          refine wl_guard_yes rfl ?_
                          refine wl_y (y_move (by conv => lhs; whnf)) ?_
                          refine wl_guard_no rfl ?_
                          refine wl_guard_no rfl ?_
                          refine wl_guard_no rfl ?_
                          refine wl_guard_no rfl ?_
                          refine wl_guard_no rfl ?_
                          refine wl_guard_no rfl ?_
                          refine wl_guard_no rfl ?_
                          refine wl_guard_no rfl ?_
                          refine wl_guard_no rfl ?_
                          refine wl_guard_no rfl ?_
                          refine wl_guard_yes rfl ?_
                          refine wl_y (y_pick_false rfl (by conv => lhs; whnf)) ?_
                          refine wl_y (y_pick_false rfl (by conv => lhs; whnf)) ?_
                          refine wl_nil ?_
                          refine then_normal ?_
                          refine wc_cond_false rfl ?_
                          refine wc_skip ?_
                          refine then_normal ?_
                          refine wc_region ?_
                          refine wl_y (y_move (by conv => lhs; whnf)) ?_
                          refine wl_y (y_convW rfl Try.underlying3 Try.underlying39) ?_
                          have hur := u64_range m
                          refine wl_y (y_rem rfl rfl (by omega)) ?_
                          refine wl_y (y_conv rfl Try.underlying39 Try.underlying3 (IntWalk.i64_in _ (by omega))) ?_
                          refine wl_y (y_assign (by conv => lhs; whnf)) ?_
                          refine wl_nil ?_
                          refine block_normal ?_
                          refine then_normal ?_
                          refine wc_region ?_
                          refine wl_y (y_move (by conv => lhs; whnf)) ?_
                          refine wl_y (y_add64 rfl rfl (by omega)) ?_
                          refine wl_y (y_assign (by conv => lhs; whnf)) ?_
                          refine wl_nil ?_
                          refine next_round (σ := Nat × Int) (r + 1, _) rfl (by repeat first | exact out_hav | refine out_look rfl ?_ | refine out_havIn rfl ?_) ⟨rfl, rfl, trivial⟩ ⟨hm.take 1, by omega⟩ (by (try dsimp only); omega)
                    · have hm0 : ¬ m = 0 := h30
                      have hfv := forb_in hokqs (m := m) (by omega)
                      have hl2f := rForbF_len (tabR qs) qs.length m.toNat
                      have hp12b := pow12 (n := m.toNat) (by omega)
                      refine wl_guard_no rfl ?_
                      refine wl_guard_no rfl ?_
                      refine wl_guard_no rfl ?_
                      refine wl_guard_no rfl ?_
                      refine wl_guard_no rfl ?_
                      refine wl_guard_no rfl ?_
                      refine wl_guard_no rfl ?_
                      refine wl_y (y_pick_false rfl (by conv => lhs; whnf)) ?_
                      refine wl_y (y_move (by conv => lhs; whnf)) ?_
                      refine wl_guard_yes rfl ?_
                      refine wl_y (y_move (by conv => lhs; whnf)) ?_
                      refine wl_guard_yes rfl ?_
                      refine wl_y (v := .bool true) (y_gtrT rfl rfl (by omega)) ?_
                      refine wl_guard_yes rfl ?_
                      refine wl_y (y_move (by conv => lhs; whnf)) ?_
                      refine wl_guard_yes rfl ?_
                      refine wl_y (y_move (by conv => lhs; whnf)) ?_
                      refine wl_guard_yes rfl ?_
                      refine wl_y (y_neq rfl rfl) ?_
                      refine wl_guard_yes rfl ?_
                      refine wl_split rfl (fun h33 => ?_) (fun h33 => ?_)
                      · exact absurd (by rw [hfv]) h33
                      · skip
                        refine wl_guard_yes rfl ?_
                        refine wl_y (y_move (by conv => lhs; whnf)) ?_
                        refine wl_guard_yes rfl ?_
                        refine wl_y (y_move (by conv => lhs; whnf)) ?_
                        refine wl_guard_yes rfl ?_
                        refine wl_y (y_move (by conv => lhs; whnf)) ?_
                        refine wl_guard_yes rfl ?_
                        refine wl_call hb48 (rForbI_calls _ _ qs m (hm.slAt 0 rfl) hokqs.okf (by omega)) rfl rfl (fun e W h => ?_)
                        obtain ⟨v117, rfl, hv117⟩ := h
                        refine ⟨_, rfl, ?_⟩
                        have hm := hm.call hv117
                        refine wl_guard_yes rfl ?_
                        refine wl_callR (v := .bool true) hm hb47 (textsEq_calls W _ _ (rForbF (tabR qs) qs.length m.toNat) (by have h := hm.slAt 2 rfl; rw [hfv] at h; exact h) (hm.slAt 3 rfl) (by omega)) rfl rfl (fun W hm hu => ?_)
                        refine wl_guard_yes rfl ?_
                        refine wl_y (y_not rfl) ?_
                        refine wl_guard_yes rfl ?_
                        refine wl_y (y_pick_false rfl (by conv => lhs; whnf)) ?_
                        refine wl_guard_yes rfl ?_
                        refine wl_y (y_pick_true rfl (by conv => lhs; whnf)) ?_
                        refine wl_y (y_pick_false rfl (by conv => lhs; whnf)) ?_
                        refine wl_nil ?_
                        refine then_normal ?_
                        refine wc_cond_false rfl ?_
                        refine wc_skip ?_
                        refine then_normal ?_
                        refine wc_region ?_
                        refine wl_y (y_move (by conv => lhs; whnf)) ?_
                        refine wl_y (y_convW rfl Try.underlying3 Try.underlying39) ?_
                        have hur := u64_range m
                        refine wl_y (y_rem rfl rfl (by omega)) ?_
                        refine wl_y (y_conv rfl Try.underlying39 Try.underlying3 (IntWalk.i64_in _ (by omega))) ?_
                        refine wl_y (y_assign (by conv => lhs; whnf)) ?_
                        refine wl_nil ?_
                        refine block_normal ?_
                        refine then_normal ?_
                        refine wc_region ?_
                        refine wl_y (y_move (by conv => lhs; whnf)) ?_
                        refine wl_y (y_add64 rfl rfl (by omega)) ?_
                        refine wl_y (y_assign (by conv => lhs; whnf)) ?_
                        refine wl_nil ?_
                        refine next_round (σ := Nat × Int) (r + 1, _) rfl (by repeat first | exact out_hav | refine out_look rfl ?_ | refine out_havIn rfl ?_) ⟨rfl, rfl, trivial⟩ ⟨hm.take 1, by omega⟩ (by (try dsimp only); omega)
        · have hcv := count_in hokqs (m := m) (by omega)
          refine wc_seq ?_
          refine wc_region ?_
          refine wl_y (y_move (by conv => lhs; whnf)) ?_
          refine wl_y (y_leq rfl rfl) ?_
          refine wl_split rfl (fun h34 => ?_) (fun h34 => ?_)
          · skip
            refine wl_guard_yes rfl ?_
            refine wl_y (y_move (by conv => lhs; whnf)) ?_
            refine wl_guard_yes rfl ?_
            refine wl_y (y_neq rfl rfl) ?_
            refine wl_guard_yes rfl ?_
            refine wl_split rfl (fun h35 => ?_) (fun h35 => ?_)
            · exact absurd (by rw [hcv]) h35
            · skip
              refine wl_guard_yes rfl ?_
              refine wl_y (y_move (by conv => lhs; whnf)) ?_
              refine wl_guard_yes rfl ?_
              refine wl_y (y_move (by conv => lhs; whnf)) ?_
              refine wl_guard_yes rfl ?_
              refine wl_y (y_move (by conv => lhs; whnf)) ?_
              refine wl_guard_yes rfl ?_
              refine wl_call hb46 (rWordsI_calls _ _ qs m (hm.slAt 0 rfl) hokqs.okf (by omega)) rfl rfl (fun e W h => ?_)
              obtain ⟨v61, rfl, hv61⟩ := h
              refine ⟨_, rfl, ?_⟩
              have hm := hm.call hv61
              refine wl_guard_yes rfl ?_
              refine wl_y (y_lenSl rfl (hm.slAt 3 rfl) Try.underlying47) ?_
              refine wl_guard_yes rfl ?_
              refine wl_y (y_neq rfl rfl) ?_
              refine wl_guard_yes rfl ?_
              refine wl_y (y_pick_false rfl (by conv => lhs; whnf)) ?_
              refine wl_y (y_pick_true rfl (by conv => lhs; whnf)) ?_
              refine wl_nil ?_
              refine then_normal ?_
              refine wc_cond_dec rfl (fun h36 => ?_) (fun h36 => ?_)
              · exact absurd (by rw [hcv]) h36
              · skip
                refine wc_skip ?_
                refine then_normal ?_
                refine wc_seq ?_
                refine wc_seq ?_
                refine wc_region ?_
                have hm := hm.take 3
                refine wl_y (y_move (by conv => lhs; whnf)) ?_
                refine wl_y (y_lss rfl rfl) ?_
                refine wl_split rfl (fun h37 => ?_) (fun h37 => ?_)
                · have hwv := words_out hokqs (m := m) (by omega)
                  have hfv := forb_out hokqs (m := m) (by omega)
                  have hl1w : (wordsV qs m).1.length = 0 := by rw [hwv]; rfl
                  have hl1f : (forbV qs m).1.length = 0 := by rw [hfv]; rfl
                  refine wl_guard_no rfl ?_
                  refine wl_guard_no rfl ?_
                  refine wl_y (y_pick_true rfl (by conv => lhs; whnf)) ?_
                  refine wl_nil ?_
                  refine then_normal ?_
                  refine wc_cond_true rfl ?_
                  refine wc_seq ?_
                  refine wc_region ?_
                  refine wl_y (y_move (by conv => lhs; whnf)) ?_
                  refine wl_y (y_neq rfl rfl) ?_
                  refine wl_split rfl (fun h38 => ?_) (fun h38 => ?_)
                  · exact absurd (by rw [hwv]) h38
                  · skip
                    refine wl_guard_yes rfl ?_
                    refine wl_y (y_move (by conv => lhs; whnf)) ?_
                    refine wl_guard_yes rfl ?_
                    refine wl_y (y_neq rfl rfl) ?_
                    refine wl_y (y_pick_false rfl (by conv => lhs; whnf)) ?_
                    refine wl_split rfl (fun h39 => ?_) (fun h39 => ?_)
                    · exact absurd (by rw [hfv]) h39
                    · skip
                      refine wl_guard_yes rfl ?_
                      refine wl_y (y_move (by conv => lhs; whnf)) ?_
                      refine wl_guard_yes rfl ?_
                      refine wl_y (y_lenSl rfl (hm.slAt 1 rfl) Try.underlying47) ?_
                      refine wl_guard_yes rfl ?_
                      refine wl_y (y_move (by conv => lhs; whnf)) ?_
                      refine wl_guard_yes rfl ?_
                      refine wl_y (y_lenSl rfl (hm.slAt 2 rfl) Try.underlying47) ?_
                      refine wl_guard_yes rfl ?_
                      refine wl_y (y_add64 rfl rfl (by omega)) ?_
                      refine wl_guard_yes rfl ?_
                      refine wl_y (y_neq rfl rfl) ?_
                      refine wl_y (y_pick_false rfl (by conv => lhs; whnf)) ?_
                      refine wl_nil ?_
                      refine then_normal ?_
                      refine wc_cond_dec rfl (fun h40 => ?_) (fun h40 => ?_)
                      · exact absurd (by omega) h40
                      · skip
                        refine wc_skip ?_
                        refine then_normal ?_
                        refine wc_region ?_
                        refine wl_y (y_move (by conv => lhs; whnf)) ?_
                        refine wl_y (y_convW rfl Try.underlying3 Try.underlying39) ?_
                        have hur := u64_range m
                        refine wl_y (y_rem rfl rfl (by omega)) ?_
                        refine wl_y (y_conv rfl Try.underlying39 Try.underlying3 (IntWalk.i64_in _ (by omega))) ?_
                        refine wl_y (y_assign (by conv => lhs; whnf)) ?_
                        refine wl_nil ?_
                        refine block_normal ?_
                        refine then_normal ?_
                        refine wc_region ?_
                        refine wl_y (y_move (by conv => lhs; whnf)) ?_
                        refine wl_y (y_add64 rfl rfl (by omega)) ?_
                        refine wl_y (y_assign (by conv => lhs; whnf)) ?_
                        refine wl_nil ?_
                        refine next_round (σ := Nat × Int) (r + 1, _) rfl (by repeat first | exact out_hav | refine out_look rfl ?_ | refine out_havIn rfl ?_) ⟨rfl, rfl, trivial⟩ ⟨hm.take 1, by omega⟩ (by (try dsimp only); omega)
                · skip
                  refine wl_guard_yes rfl ?_
                  refine wl_y (y_move (by conv => lhs; whnf)) ?_
                  refine wl_guard_yes rfl ?_
                  refine wl_y (y_gtr rfl rfl) ?_
                  refine wl_y (y_pick_false rfl (by conv => lhs; whnf)) ?_
                  refine wl_nil ?_
                  refine then_normal ?_
                  refine wc_cond_dec rfl (fun h41 => ?_) (fun h41 => ?_)
                  · have hwv := words_out hokqs (m := m) (by omega)
                    have hfv := forb_out hokqs (m := m) (by omega)
                    have hl1w : (wordsV qs m).1.length = 0 := by rw [hwv]; rfl
                    have hl1f : (forbV qs m).1.length = 0 := by rw [hfv]; rfl
                    refine wc_seq ?_
                    refine wc_region ?_
                    refine wl_y (y_move (by conv => lhs; whnf)) ?_
                    refine wl_y (y_neq rfl rfl) ?_
                    refine wl_split rfl (fun h42 => ?_) (fun h42 => ?_)
                    · exact absurd (by rw [hwv]) h42
                    · skip
                      refine wl_guard_yes rfl ?_
                      refine wl_y (y_move (by conv => lhs; whnf)) ?_
                      refine wl_guard_yes rfl ?_
                      refine wl_y (y_neq rfl rfl) ?_
                      refine wl_y (y_pick_false rfl (by conv => lhs; whnf)) ?_
                      refine wl_split rfl (fun h43 => ?_) (fun h43 => ?_)
                      · exact absurd (by rw [hfv]) h43
                      · skip
                        refine wl_guard_yes rfl ?_
                        refine wl_y (y_move (by conv => lhs; whnf)) ?_
                        refine wl_guard_yes rfl ?_
                        refine wl_y (y_lenSl rfl (hm.slAt 1 rfl) Try.underlying47) ?_
                        refine wl_guard_yes rfl ?_
                        refine wl_y (y_move (by conv => lhs; whnf)) ?_
                        refine wl_guard_yes rfl ?_
                        refine wl_y (y_lenSl rfl (hm.slAt 2 rfl) Try.underlying47) ?_
                        refine wl_guard_yes rfl ?_
                        refine wl_y (y_add64 rfl rfl (by omega)) ?_
                        refine wl_guard_yes rfl ?_
                        refine wl_y (y_neq rfl rfl) ?_
                        refine wl_y (y_pick_false rfl (by conv => lhs; whnf)) ?_
                        refine wl_nil ?_
                        refine then_normal ?_
                        refine wc_cond_dec rfl (fun h44 => ?_) (fun h44 => ?_)
                        · exact absurd (by omega) h44
                        · skip
                          refine wc_skip ?_
                          refine then_normal ?_
                          refine wc_region ?_
                          refine wl_y (y_move (by conv => lhs; whnf)) ?_
                          refine wl_y (y_convW rfl Try.underlying3 Try.underlying39) ?_
                          have hur := u64_range m
                          refine wl_y (y_rem rfl rfl (by omega)) ?_
                          refine wl_y (y_conv rfl Try.underlying39 Try.underlying3 (IntWalk.i64_in _ (by omega))) ?_
                          refine wl_y (y_assign (by conv => lhs; whnf)) ?_
                          refine wl_nil ?_
                          refine block_normal ?_
                          refine then_normal ?_
                          refine wc_region ?_
                          refine wl_y (y_move (by conv => lhs; whnf)) ?_
                          refine wl_y (y_add64 rfl rfl (by omega)) ?_
                          refine wl_y (y_assign (by conv => lhs; whnf)) ?_
                          refine wl_nil ?_
                          refine next_round (σ := Nat × Int) (r + 1, _) rfl (by repeat first | exact out_hav | refine out_look rfl ?_ | refine out_havIn rfl ?_) ⟨rfl, rfl, trivial⟩ ⟨hm.take 1, by omega⟩ (by (try dsimp only); omega)
                  · have hwv := words_in hokqs (m := m) (by omega)
                    have hl2w := rWordsF_len (tabR qs) qs.length m.toNat
                    have hp12a := pow12 (n := m.toNat) (by omega)
                    refine wc_seq ?_
                    refine wc_seq ?_
                    refine wc_region ?_
                    refine wl_y (y_move (by conv => lhs; whnf)) ?_
                    refine wl_y (y_neq rfl rfl) ?_
                    refine wl_split rfl (fun h45 => ?_) (fun h45 => ?_)
                    · exact absurd (by rw [hwv]) h45
                    · skip
                      refine wl_guard_yes rfl ?_
                      refine wl_y (y_move (by conv => lhs; whnf)) ?_
                      refine wl_guard_yes rfl ?_
                      refine wl_y (y_move (by conv => lhs; whnf)) ?_
                      refine wl_guard_yes rfl ?_
                      refine wl_y (y_move (by conv => lhs; whnf)) ?_
                      refine wl_guard_yes rfl ?_
                      refine wl_call hb46 (rWordsI_calls _ _ qs m (hm.slAt 0 rfl) hokqs.okf (by omega)) rfl rfl (fun e W h => ?_)
                      obtain ⟨v92, rfl, hv92⟩ := h
                      refine ⟨_, rfl, ?_⟩
                      have hm := hm.call hv92
                      refine wl_guard_yes rfl ?_
                      refine wl_callR (v := .bool true) hm hb47 (textsEq_calls W _ _ (rWordsF (tabR qs) qs.length m.toNat) (by have h := hm.slAt 1 rfl; rw [hwv] at h; exact h) (hm.slAt 3 rfl) (by omega)) rfl rfl (fun W hm hu => ?_)
                      refine wl_guard_yes rfl ?_
                      refine wl_y (y_not rfl) ?_
                      refine wl_y (y_pick_false rfl (by conv => lhs; whnf)) ?_
                      refine wl_nil ?_
                      refine then_normal ?_
                      refine wc_cond_false rfl ?_
                      refine wc_skip ?_
                      refine then_normal ?_
                      refine wc_seq ?_
                      refine wc_region ?_
                      have hm := hm.take 3
                      refine wl_y (y_move (by conv => lhs; whnf)) ?_
                      refine wl_y (y_eql rfl rfl) ?_
                      refine wl_split rfl (fun h46 => ?_) (fun h46 => ?_)
                      · have hm0 : m = 0 := h46
                        have hfv := forb_out hokqs (m := m) (by omega)
                        have hl1f : (forbV qs m).1.length = 0 := by rw [hfv]; rfl
                        refine wl_guard_yes rfl ?_
                        refine wl_y (y_move (by conv => lhs; whnf)) ?_
                        refine wl_guard_yes rfl ?_
                        refine wl_y (y_neq rfl rfl) ?_
                        refine wl_guard_yes rfl ?_
                        refine wl_split rfl (fun h47 => ?_) (fun h47 => ?_)
                        · exact absurd (by rw [hfv]) h47
                        · skip
                          refine wl_guard_yes rfl ?_
                          refine wl_y (y_move (by conv => lhs; whnf)) ?_
                          refine wl_guard_yes rfl ?_
                          refine wl_y (y_lenSl rfl (hm.slAt 2 rfl) Try.underlying47) ?_
                          refine wl_guard_yes rfl ?_
                          refine wl_y (y_neq rfl rfl) ?_
                          refine wl_guard_yes rfl ?_
                          refine wl_y (y_pick_false rfl (by conv => lhs; whnf)) ?_
                          refine wl_y (y_pick_true rfl (by conv => lhs; whnf)) ?_
                          refine wl_split rfl (fun h48 => ?_) (fun h48 => ?_)
                          · exact absurd (by rw [hl1f]; rfl) h48
                          · skip
                            refine wl_guard_yes rfl ?_
                            refine wl_y (y_move (by conv => lhs; whnf)) ?_
                            refine wl_guard_yes rfl ?_
                            refine wl_y (v := .bool false) (y_gtrF rfl rfl (by omega)) ?_
                            refine wl_guard_yes rfl ?_
                            refine wl_y (y_move (by conv => lhs; whnf)) ?_
                            refine wl_guard_no rfl ?_
                            refine wl_guard_no rfl ?_
                            refine wl_guard_no rfl ?_
                            refine wl_guard_no rfl ?_
                            refine wl_guard_no rfl ?_
                            refine wl_guard_no rfl ?_
                            refine wl_guard_no rfl ?_
                            refine wl_guard_no rfl ?_
                            refine wl_guard_no rfl ?_
                            refine wl_guard_no rfl ?_
                            refine wl_guard_yes rfl ?_
                            refine wl_y (y_pick_false rfl (by conv => lhs; whnf)) ?_
                            refine wl_y (y_pick_false rfl (by conv => lhs; whnf)) ?_
                            refine wl_nil ?_
                            refine then_normal ?_
                            refine wc_cond_false rfl ?_
                            refine wc_skip ?_
                            refine then_normal ?_
                            refine wc_region ?_
                            refine wl_y (y_move (by conv => lhs; whnf)) ?_
                            refine wl_y (y_convW rfl Try.underlying3 Try.underlying39) ?_
                            have hur := u64_range m
                            refine wl_y (y_rem rfl rfl (by omega)) ?_
                            refine wl_y (y_conv rfl Try.underlying39 Try.underlying3 (IntWalk.i64_in _ (by omega))) ?_
                            refine wl_y (y_assign (by conv => lhs; whnf)) ?_
                            refine wl_nil ?_
                            refine block_normal ?_
                            refine then_normal ?_
                            refine wc_region ?_
                            refine wl_y (y_move (by conv => lhs; whnf)) ?_
                            refine wl_y (y_add64 rfl rfl (by omega)) ?_
                            refine wl_y (y_assign (by conv => lhs; whnf)) ?_
                            refine wl_nil ?_
                            refine next_round (σ := Nat × Int) (r + 1, _) rfl (by repeat first | exact out_hav | refine out_look rfl ?_ | refine out_havIn rfl ?_) ⟨rfl, rfl, trivial⟩ ⟨hm.take 1, by omega⟩ (by (try dsimp only); omega)
                      · have hm0 : ¬ m = 0 := h46
                        have hfv := forb_in hokqs (m := m) (by omega)
                        have hl2f := rForbF_len (tabR qs) qs.length m.toNat
                        have hp12b := pow12 (n := m.toNat) (by omega)
                        refine wl_guard_no rfl ?_
                        refine wl_guard_no rfl ?_
                        refine wl_guard_no rfl ?_
                        refine wl_guard_no rfl ?_
                        refine wl_guard_no rfl ?_
                        refine wl_guard_no rfl ?_
                        refine wl_guard_no rfl ?_
                        refine wl_y (y_pick_false rfl (by conv => lhs; whnf)) ?_
                        refine wl_y (y_move (by conv => lhs; whnf)) ?_
                        refine wl_guard_yes rfl ?_
                        refine wl_y (y_move (by conv => lhs; whnf)) ?_
                        refine wl_guard_yes rfl ?_
                        refine wl_y (v := .bool true) (y_gtrT rfl rfl (by omega)) ?_
                        refine wl_guard_yes rfl ?_
                        refine wl_y (y_move (by conv => lhs; whnf)) ?_
                        refine wl_guard_yes rfl ?_
                        refine wl_y (y_move (by conv => lhs; whnf)) ?_
                        refine wl_guard_yes rfl ?_
                        refine wl_y (y_neq rfl rfl) ?_
                        refine wl_guard_yes rfl ?_
                        refine wl_split rfl (fun h49 => ?_) (fun h49 => ?_)
                        · exact absurd (by rw [hfv]) h49
                        · skip
                          refine wl_guard_yes rfl ?_
                          refine wl_y (y_move (by conv => lhs; whnf)) ?_
                          refine wl_guard_yes rfl ?_
                          refine wl_y (y_move (by conv => lhs; whnf)) ?_
                          refine wl_guard_yes rfl ?_
                          refine wl_y (y_move (by conv => lhs; whnf)) ?_
                          refine wl_guard_yes rfl ?_
                          refine wl_call hb48 (rForbI_calls _ _ qs m (hm.slAt 0 rfl) hokqs.okf (by omega)) rfl rfl (fun e W h => ?_)
                          obtain ⟨v117, rfl, hv117⟩ := h
                          refine ⟨_, rfl, ?_⟩
                          have hm := hm.call hv117
                          refine wl_guard_yes rfl ?_
                          refine wl_callR (v := .bool true) hm hb47 (textsEq_calls W _ _ (rForbF (tabR qs) qs.length m.toNat) (by have h := hm.slAt 2 rfl; rw [hfv] at h; exact h) (hm.slAt 3 rfl) (by omega)) rfl rfl (fun W hm hu => ?_)
                          refine wl_guard_yes rfl ?_
                          refine wl_y (y_not rfl) ?_
                          refine wl_guard_yes rfl ?_
                          refine wl_y (y_pick_false rfl (by conv => lhs; whnf)) ?_
                          refine wl_guard_yes rfl ?_
                          refine wl_y (y_pick_true rfl (by conv => lhs; whnf)) ?_
                          refine wl_y (y_pick_false rfl (by conv => lhs; whnf)) ?_
                          refine wl_nil ?_
                          refine then_normal ?_
                          refine wc_cond_false rfl ?_
                          refine wc_skip ?_
                          refine then_normal ?_
                          refine wc_region ?_
                          refine wl_y (y_move (by conv => lhs; whnf)) ?_
                          refine wl_y (y_convW rfl Try.underlying3 Try.underlying39) ?_
                          have hur := u64_range m
                          refine wl_y (y_rem rfl rfl (by omega)) ?_
                          refine wl_y (y_conv rfl Try.underlying39 Try.underlying3 (IntWalk.i64_in _ (by omega))) ?_
                          refine wl_y (y_assign (by conv => lhs; whnf)) ?_
                          refine wl_nil ?_
                          refine block_normal ?_
                          refine then_normal ?_
                          refine wc_region ?_
                          refine wl_y (y_move (by conv => lhs; whnf)) ?_
                          refine wl_y (y_add64 rfl rfl (by omega)) ?_
                          refine wl_y (y_assign (by conv => lhs; whnf)) ?_
                          refine wl_nil ?_
                          refine next_round (σ := Nat × Int) (r + 1, _) rfl (by repeat first | exact out_hav | refine out_look rfl ?_ | refine out_havIn rfl ?_) ⟨rfl, rfl, trivial⟩ ⟨hm.take 1, by omega⟩ (by (try dsimp only); omega)
          · skip
            refine wl_guard_no rfl ?_
            refine wl_guard_no rfl ?_
            refine wl_guard_no rfl ?_
            refine wl_guard_no rfl ?_
            refine wl_guard_no rfl ?_
            refine wl_guard_no rfl ?_
            refine wl_guard_no rfl ?_
            refine wl_guard_no rfl ?_
            refine wl_guard_no rfl ?_
            refine wl_guard_no rfl ?_
            refine wl_y (y_pick_false rfl (by conv => lhs; whnf)) ?_
            refine wl_nil ?_
            refine then_normal ?_
            refine wc_cond_false rfl ?_
            refine wc_skip ?_
            refine then_normal ?_
            refine wc_seq ?_
            refine wc_seq ?_
            refine wc_region ?_
            have hm := hm.take 3
            refine wl_y (y_move (by conv => lhs; whnf)) ?_
            refine wl_y (y_lss rfl rfl) ?_
            refine wl_split rfl (fun h50 => ?_) (fun h50 => ?_)
            · have hwv := words_out hokqs (m := m) (by omega)
              have hfv := forb_out hokqs (m := m) (by omega)
              have hl1w : (wordsV qs m).1.length = 0 := by rw [hwv]; rfl
              have hl1f : (forbV qs m).1.length = 0 := by rw [hfv]; rfl
              refine wl_guard_no rfl ?_
              refine wl_guard_no rfl ?_
              refine wl_y (y_pick_true rfl (by conv => lhs; whnf)) ?_
              refine wl_nil ?_
              refine then_normal ?_
              refine wc_cond_true rfl ?_
              refine wc_seq ?_
              refine wc_region ?_
              refine wl_y (y_move (by conv => lhs; whnf)) ?_
              refine wl_y (y_neq rfl rfl) ?_
              refine wl_split rfl (fun h51 => ?_) (fun h51 => ?_)
              · exact absurd (by rw [hwv]) h51
              · skip
                refine wl_guard_yes rfl ?_
                refine wl_y (y_move (by conv => lhs; whnf)) ?_
                refine wl_guard_yes rfl ?_
                refine wl_y (y_neq rfl rfl) ?_
                refine wl_y (y_pick_false rfl (by conv => lhs; whnf)) ?_
                refine wl_split rfl (fun h52 => ?_) (fun h52 => ?_)
                · exact absurd (by rw [hfv]) h52
                · skip
                  refine wl_guard_yes rfl ?_
                  refine wl_y (y_move (by conv => lhs; whnf)) ?_
                  refine wl_guard_yes rfl ?_
                  refine wl_y (y_lenSl rfl (hm.slAt 1 rfl) Try.underlying47) ?_
                  refine wl_guard_yes rfl ?_
                  refine wl_y (y_move (by conv => lhs; whnf)) ?_
                  refine wl_guard_yes rfl ?_
                  refine wl_y (y_lenSl rfl (hm.slAt 2 rfl) Try.underlying47) ?_
                  refine wl_guard_yes rfl ?_
                  refine wl_y (y_add64 rfl rfl (by omega)) ?_
                  refine wl_guard_yes rfl ?_
                  refine wl_y (y_neq rfl rfl) ?_
                  refine wl_y (y_pick_false rfl (by conv => lhs; whnf)) ?_
                  refine wl_nil ?_
                  refine then_normal ?_
                  refine wc_cond_dec rfl (fun h53 => ?_) (fun h53 => ?_)
                  · exact absurd (by omega) h53
                  · skip
                    refine wc_skip ?_
                    refine then_normal ?_
                    refine wc_region ?_
                    refine wl_y (y_move (by conv => lhs; whnf)) ?_
                    refine wl_y (y_convW rfl Try.underlying3 Try.underlying39) ?_
                    have hur := u64_range m
                    refine wl_y (y_rem rfl rfl (by omega)) ?_
                    refine wl_y (y_conv rfl Try.underlying39 Try.underlying3 (IntWalk.i64_in _ (by omega))) ?_
                    refine wl_y (y_assign (by conv => lhs; whnf)) ?_
                    refine wl_nil ?_
                    refine block_normal ?_
                    refine then_normal ?_
                    refine wc_region ?_
                    refine wl_y (y_move (by conv => lhs; whnf)) ?_
                    refine wl_y (y_add64 rfl rfl (by omega)) ?_
                    refine wl_y (y_assign (by conv => lhs; whnf)) ?_
                    refine wl_nil ?_
                    refine next_round (σ := Nat × Int) (r + 1, _) rfl (by repeat first | exact out_hav | refine out_look rfl ?_ | refine out_havIn rfl ?_) ⟨rfl, rfl, trivial⟩ ⟨hm.take 1, by omega⟩ (by (try dsimp only); omega)
            · skip
              refine wl_guard_yes rfl ?_
              refine wl_y (y_move (by conv => lhs; whnf)) ?_
              refine wl_guard_yes rfl ?_
              refine wl_y (y_gtr rfl rfl) ?_
              refine wl_y (y_pick_false rfl (by conv => lhs; whnf)) ?_
              refine wl_nil ?_
              refine then_normal ?_
              refine wc_cond_dec rfl (fun h54 => ?_) (fun h54 => ?_)
              · have hwv := words_out hokqs (m := m) (by omega)
                have hfv := forb_out hokqs (m := m) (by omega)
                have hl1w : (wordsV qs m).1.length = 0 := by rw [hwv]; rfl
                have hl1f : (forbV qs m).1.length = 0 := by rw [hfv]; rfl
                refine wc_seq ?_
                refine wc_region ?_
                refine wl_y (y_move (by conv => lhs; whnf)) ?_
                refine wl_y (y_neq rfl rfl) ?_
                refine wl_split rfl (fun h55 => ?_) (fun h55 => ?_)
                · exact absurd (by rw [hwv]) h55
                · skip
                  refine wl_guard_yes rfl ?_
                  refine wl_y (y_move (by conv => lhs; whnf)) ?_
                  refine wl_guard_yes rfl ?_
                  refine wl_y (y_neq rfl rfl) ?_
                  refine wl_y (y_pick_false rfl (by conv => lhs; whnf)) ?_
                  refine wl_split rfl (fun h56 => ?_) (fun h56 => ?_)
                  · exact absurd (by rw [hfv]) h56
                  · skip
                    refine wl_guard_yes rfl ?_
                    refine wl_y (y_move (by conv => lhs; whnf)) ?_
                    refine wl_guard_yes rfl ?_
                    refine wl_y (y_lenSl rfl (hm.slAt 1 rfl) Try.underlying47) ?_
                    refine wl_guard_yes rfl ?_
                    refine wl_y (y_move (by conv => lhs; whnf)) ?_
                    refine wl_guard_yes rfl ?_
                    refine wl_y (y_lenSl rfl (hm.slAt 2 rfl) Try.underlying47) ?_
                    refine wl_guard_yes rfl ?_
                    refine wl_y (y_add64 rfl rfl (by omega)) ?_
                    refine wl_guard_yes rfl ?_
                    refine wl_y (y_neq rfl rfl) ?_
                    refine wl_y (y_pick_false rfl (by conv => lhs; whnf)) ?_
                    refine wl_nil ?_
                    refine then_normal ?_
                    refine wc_cond_dec rfl (fun h57 => ?_) (fun h57 => ?_)
                    · exact absurd (by omega) h57
                    · skip
                      refine wc_skip ?_
                      refine then_normal ?_
                      refine wc_region ?_
                      refine wl_y (y_move (by conv => lhs; whnf)) ?_
                      refine wl_y (y_convW rfl Try.underlying3 Try.underlying39) ?_
                      have hur := u64_range m
                      refine wl_y (y_rem rfl rfl (by omega)) ?_
                      refine wl_y (y_conv rfl Try.underlying39 Try.underlying3 (IntWalk.i64_in _ (by omega))) ?_
                      refine wl_y (y_assign (by conv => lhs; whnf)) ?_
                      refine wl_nil ?_
                      refine block_normal ?_
                      refine then_normal ?_
                      refine wc_region ?_
                      refine wl_y (y_move (by conv => lhs; whnf)) ?_
                      refine wl_y (y_add64 rfl rfl (by omega)) ?_
                      refine wl_y (y_assign (by conv => lhs; whnf)) ?_
                      refine wl_nil ?_
                      refine next_round (σ := Nat × Int) (r + 1, _) rfl (by repeat first | exact out_hav | refine out_look rfl ?_ | refine out_havIn rfl ?_) ⟨rfl, rfl, trivial⟩ ⟨hm.take 1, by omega⟩ (by (try dsimp only); omega)
              · have hwv := words_in hokqs (m := m) (by omega)
                have hl2w := rWordsF_len (tabR qs) qs.length m.toNat
                have hp12a := pow12 (n := m.toNat) (by omega)
                refine wc_seq ?_
                refine wc_seq ?_
                refine wc_region ?_
                refine wl_y (y_move (by conv => lhs; whnf)) ?_
                refine wl_y (y_neq rfl rfl) ?_
                refine wl_split rfl (fun h58 => ?_) (fun h58 => ?_)
                · exact absurd (by rw [hwv]) h58
                · skip
                  refine wl_guard_yes rfl ?_
                  refine wl_y (y_move (by conv => lhs; whnf)) ?_
                  refine wl_guard_yes rfl ?_
                  refine wl_y (y_move (by conv => lhs; whnf)) ?_
                  refine wl_guard_yes rfl ?_
                  refine wl_y (y_move (by conv => lhs; whnf)) ?_
                  refine wl_guard_yes rfl ?_
                  refine wl_call hb46 (rWordsI_calls _ _ qs m (hm.slAt 0 rfl) hokqs.okf (by omega)) rfl rfl (fun e W h => ?_)
                  obtain ⟨v92, rfl, hv92⟩ := h
                  refine ⟨_, rfl, ?_⟩
                  have hm := hm.call hv92
                  refine wl_guard_yes rfl ?_
                  refine wl_callR (v := .bool true) hm hb47 (textsEq_calls W _ _ (rWordsF (tabR qs) qs.length m.toNat) (by have h := hm.slAt 1 rfl; rw [hwv] at h; exact h) (hm.slAt 3 rfl) (by omega)) rfl rfl (fun W hm hu => ?_)
                  refine wl_guard_yes rfl ?_
                  refine wl_y (y_not rfl) ?_
                  refine wl_y (y_pick_false rfl (by conv => lhs; whnf)) ?_
                  refine wl_nil ?_
                  refine then_normal ?_
                  refine wc_cond_false rfl ?_
                  refine wc_skip ?_
                  refine then_normal ?_
                  refine wc_seq ?_
                  refine wc_region ?_
                  have hm := hm.take 3
                  refine wl_y (y_move (by conv => lhs; whnf)) ?_
                  refine wl_y (y_eql rfl rfl) ?_
                  refine wl_split rfl (fun h59 => ?_) (fun h59 => ?_)
                  · have hm0 : m = 0 := h59
                    have hfv := forb_out hokqs (m := m) (by omega)
                    have hl1f : (forbV qs m).1.length = 0 := by rw [hfv]; rfl
                    refine wl_guard_yes rfl ?_
                    refine wl_y (y_move (by conv => lhs; whnf)) ?_
                    refine wl_guard_yes rfl ?_
                    refine wl_y (y_neq rfl rfl) ?_
                    refine wl_guard_yes rfl ?_
                    refine wl_split rfl (fun h60 => ?_) (fun h60 => ?_)
                    · exact absurd (by rw [hfv]) h60
                    · skip
                      refine wl_guard_yes rfl ?_
                      refine wl_y (y_move (by conv => lhs; whnf)) ?_
                      refine wl_guard_yes rfl ?_
                      refine wl_y (y_lenSl rfl (hm.slAt 2 rfl) Try.underlying47) ?_
                      refine wl_guard_yes rfl ?_
                      refine wl_y (y_neq rfl rfl) ?_
                      refine wl_guard_yes rfl ?_
                      refine wl_y (y_pick_false rfl (by conv => lhs; whnf)) ?_
                      refine wl_y (y_pick_true rfl (by conv => lhs; whnf)) ?_
                      refine wl_split rfl (fun h61 => ?_) (fun h61 => ?_)
                      · exact absurd (by rw [hl1f]; rfl) h61
                      · skip
                        refine wl_guard_yes rfl ?_
                        refine wl_y (y_move (by conv => lhs; whnf)) ?_
                        refine wl_guard_yes rfl ?_
                        refine wl_y (v := .bool false) (y_gtrF rfl rfl (by omega)) ?_
                        refine wl_guard_yes rfl ?_
                        refine wl_y (y_move (by conv => lhs; whnf)) ?_
                        refine wl_guard_no rfl ?_
                        refine wl_guard_no rfl ?_
                        refine wl_guard_no rfl ?_
                        refine wl_guard_no rfl ?_
                        refine wl_guard_no rfl ?_
                        refine wl_guard_no rfl ?_
                        refine wl_guard_no rfl ?_
                        refine wl_guard_no rfl ?_
                        refine wl_guard_no rfl ?_
                        refine wl_guard_no rfl ?_
                        refine wl_guard_yes rfl ?_
                        refine wl_y (y_pick_false rfl (by conv => lhs; whnf)) ?_
                        refine wl_y (y_pick_false rfl (by conv => lhs; whnf)) ?_
                        refine wl_nil ?_
                        refine then_normal ?_
                        refine wc_cond_false rfl ?_
                        refine wc_skip ?_
                        refine then_normal ?_
                        refine wc_region ?_
                        refine wl_y (y_move (by conv => lhs; whnf)) ?_
                        refine wl_y (y_convW rfl Try.underlying3 Try.underlying39) ?_
                        have hur := u64_range m
                        refine wl_y (y_rem rfl rfl (by omega)) ?_
                        refine wl_y (y_conv rfl Try.underlying39 Try.underlying3 (IntWalk.i64_in _ (by omega))) ?_
                        refine wl_y (y_assign (by conv => lhs; whnf)) ?_
                        refine wl_nil ?_
                        refine block_normal ?_
                        refine then_normal ?_
                        refine wc_region ?_
                        refine wl_y (y_move (by conv => lhs; whnf)) ?_
                        refine wl_y (y_add64 rfl rfl (by omega)) ?_
                        refine wl_y (y_assign (by conv => lhs; whnf)) ?_
                        refine wl_nil ?_
                        refine next_round (σ := Nat × Int) (r + 1, _) rfl (by repeat first | exact out_hav | refine out_look rfl ?_ | refine out_havIn rfl ?_) ⟨rfl, rfl, trivial⟩ ⟨hm.take 1, by omega⟩ (by (try dsimp only); omega)
                  · have hm0 : ¬ m = 0 := h59
                    have hfv := forb_in hokqs (m := m) (by omega)
                    have hl2f := rForbF_len (tabR qs) qs.length m.toNat
                    have hp12b := pow12 (n := m.toNat) (by omega)
                    refine wl_guard_no rfl ?_
                    refine wl_guard_no rfl ?_
                    refine wl_guard_no rfl ?_
                    refine wl_guard_no rfl ?_
                    refine wl_guard_no rfl ?_
                    refine wl_guard_no rfl ?_
                    refine wl_guard_no rfl ?_
                    refine wl_y (y_pick_false rfl (by conv => lhs; whnf)) ?_
                    refine wl_y (y_move (by conv => lhs; whnf)) ?_
                    refine wl_guard_yes rfl ?_
                    refine wl_y (y_move (by conv => lhs; whnf)) ?_
                    refine wl_guard_yes rfl ?_
                    refine wl_y (v := .bool true) (y_gtrT rfl rfl (by omega)) ?_
                    refine wl_guard_yes rfl ?_
                    refine wl_y (y_move (by conv => lhs; whnf)) ?_
                    refine wl_guard_yes rfl ?_
                    refine wl_y (y_move (by conv => lhs; whnf)) ?_
                    refine wl_guard_yes rfl ?_
                    refine wl_y (y_neq rfl rfl) ?_
                    refine wl_guard_yes rfl ?_
                    refine wl_split rfl (fun h62 => ?_) (fun h62 => ?_)
                    · exact absurd (by rw [hfv]) h62
                    · skip
                      refine wl_guard_yes rfl ?_
                      refine wl_y (y_move (by conv => lhs; whnf)) ?_
                      refine wl_guard_yes rfl ?_
                      refine wl_y (y_move (by conv => lhs; whnf)) ?_
                      refine wl_guard_yes rfl ?_
                      refine wl_y (y_move (by conv => lhs; whnf)) ?_
                      refine wl_guard_yes rfl ?_
                      refine wl_call hb48 (rForbI_calls _ _ qs m (hm.slAt 0 rfl) hokqs.okf (by omega)) rfl rfl (fun e W h => ?_)
                      obtain ⟨v117, rfl, hv117⟩ := h
                      refine ⟨_, rfl, ?_⟩
                      have hm := hm.call hv117
                      refine wl_guard_yes rfl ?_
                      refine wl_callR (v := .bool true) hm hb47 (textsEq_calls W _ _ (rForbF (tabR qs) qs.length m.toNat) (by have h := hm.slAt 2 rfl; rw [hfv] at h; exact h) (hm.slAt 3 rfl) (by omega)) rfl rfl (fun W hm hu => ?_)
                      refine wl_guard_yes rfl ?_
                      refine wl_y (y_not rfl) ?_
                      refine wl_guard_yes rfl ?_
                      refine wl_y (y_pick_false rfl (by conv => lhs; whnf)) ?_
                      refine wl_guard_yes rfl ?_
                      refine wl_y (y_pick_true rfl (by conv => lhs; whnf)) ?_
                      refine wl_y (y_pick_false rfl (by conv => lhs; whnf)) ?_
                      refine wl_nil ?_
                      refine then_normal ?_
                      refine wc_cond_false rfl ?_
                      refine wc_skip ?_
                      refine then_normal ?_
                      refine wc_region ?_
                      refine wl_y (y_move (by conv => lhs; whnf)) ?_
                      refine wl_y (y_convW rfl Try.underlying3 Try.underlying39) ?_
                      have hur := u64_range m
                      refine wl_y (y_rem rfl rfl (by omega)) ?_
                      refine wl_y (y_conv rfl Try.underlying39 Try.underlying3 (IntWalk.i64_in _ (by omega))) ?_
                      refine wl_y (y_assign (by conv => lhs; whnf)) ?_
                      refine wl_nil ?_
                      refine block_normal ?_
                      refine then_normal ?_
                      refine wc_region ?_
                      refine wl_y (y_move (by conv => lhs; whnf)) ?_
                      refine wl_y (y_add64 rfl rfl (by omega)) ?_
                      refine wl_y (y_assign (by conv => lhs; whnf)) ?_
                      refine wl_nil ?_
                      refine next_round (σ := Nat × Int) (r + 1, _) rfl (by repeat first | exact out_hav | refine out_look rfl ?_ | refine out_havIn rfl ?_) ⟨rfl, rfl, trivial⟩ ⟨hm.take 1, by omega⟩ (by (try dsimp only); omega)
    · skip
      refine wc_exit ?_
      refine then_exit ?_
      refine then_exit ?_
      refine block_exit ?_
      refine then_normal ?_
      refine wc_seq ?_
      refine wc_region ?_
      refine wl_callR hm hb18 (awake_calls _) rfl rfl (fun W hm hu => ?_)
      refine wl_y (y_assign (by conv => lhs; whnf)) ?_
      refine wl_nil ?_
      refine then_normal ?_
      refine wc_ret ?_
      refine post_ret (results_fr rfl) ?_
      exact ⟨rfl, hm.upd⟩
end Go.Proofs.Ytofpdjpenmhbnaa
namespace Go.Proofs.Ytofpdjpenmhbnaa
open Go Go.Kx
theorem hb68 : HasBody Try.prog 68 := hasBody Try.func68 (by kernel_rfl) (by kernel_rfl)
set_option maxHeartbeats 4000000 in
theorem rsigned_calls (w : World) (vl : Value) (to : List Int) (set : Nat) (hl : SlAt w 1 vl to.length (ints to)) (hl5 : to.length ≤ 5) (hto : ∀ v, v < to.length → 0 ≤ to.getD v 0 ∧ to.getD v 0 < 32) (hset : set < 32) :
    Cl Try.prog 68 [vl, .int .i64 (set : Int)].toArray w (Ret w (.int .i64 (rsV to set))) := by
  have hm : Mem w [] [] w := Mem.init w
  refine cl_enter Try.func68 rfl Try.ntmps68 rfl ?_
  refine wc_seq ?_
  refine wc_region ?_
  refine wl_y (y_assign (by conv => lhs; whnf)) ?_
  refine wl_nil ?_
  refine then_normal ?_
  refine wc_seq ?_
  refine wc_region ?_
  refine wl_y (y_assign (by conv => lhs; whnf)) ?_
  refine wl_y (y_assign (by conv => lhs; whnf)) ?_
  refine wl_nil ?_
  refine then_normal ?_
  refine wc_seq ?_
  refine wc_seq ?_
  refine wc_region ?_
  refine wl_y (y_assign (by conv => lhs; whnf)) ?_
  refine wl_nil ?_
  refine then_normal ?_
  refine wc_block ?_
  refine wc_loop [4, 5, 6, 7, 8, 9, 10, 11, 12, 13, 14, 15, 16, 17, 18, 19, 20, 21, 22, 23, 24, 25, 26, 27, 28, 29, 30, 31, 32, 33, 34, 35, 36, 37, 38, 39, 40, 41, 42, 43, 44, 45, 46, 47, 48, 49, 50, 51, 52, 53, 54, 55, 56, 57, 58, 59, 60, 61, 62, 63, 64, 65, 66, 67, 68, 69, 70, 71, 72, 73] (fun ((v, met, sg) : Nat × Nat × Int) => [(7, .int .i64 (v : Int)), (5, .int .i64 (met : Int)), (6, .int .i64 sg)]) (fun ((v, met, sg) : Nat × Nat × Int) W => Mem w [] [] W ∧ v ≤ to.length ∧ rsTo to set v = some (met, sg) ∧ met < 32 ∧ (sg = 1 ∨ sg = -1)) (fun ((v, met, sg) : Nat × Nat × Int) => to.length - v) ((0, 0, -1) : Nat × Nat × Int) ?_ ?_ ?_
  · exact ⟨rfl, rfl, rfl, trivial⟩
  · exact ⟨hm, Nat.zero_le _, rfl, by decide, .inr rfl⟩
  · rintro ⟨v, met, sg⟩ u W ⟨hm, hv, hst, hmet, hsg⟩
    have hsv : set >>> v ≤ set := Nat.shiftRight_le ..
    refine wc_seq ?_
    refine wc_seq ?_
    refine wc_region ?_
    refine wl_y (y_move (by conv => lhs; whnf)) ?_
    refine wl_y (y_move (by conv => lhs; whnf)) ?_
    refine wl_y (y_lenSl (by conv => lhs; whnf) (hl.step hm.upd) Try.underlying55) ?_
    refine wl_y (y_lss rfl rfl) ?_
    refine wl_nil ?_
    refine then_normal ?_
    refine wc_cond_dec rfl (fun h1 => ?_) (fun h1 => ?_)
    · have hvl : v < to.length := by omega
      have hb := hto v hvl
      refine wc_skip ?_
      refine then_normal ?_
      refine wc_seq ?_
      refine wc_block ?_
      refine wc_seq ?_
      refine wc_seq ?_
      refine wc_region ?_
      refine wl_y (y_move (by conv => lhs; whnf)) ?_
      refine wl_y (y_move (by conv => lhs; whnf)) ?_
      refine wl_y (y_shrN rfl rfl (by omega)) ?_
      refine wl_y ((by first | exact y_rem2 rfl rfl | exact y_rem rfl rfl (by omega))) ?_
      refine wl_y (y_eql rfl rfl) ?_
      refine wl_nil ?_
      refine then_normal ?_
      refine wc_cond_dec rfl (fun h2 => ?_) (fun h2 => ?_)
      · have hbit : (set >>> v) % 2 = 0 := by omega
        have hnx := rs_skip hst hbit
        refine wc_exit ?_
        refine then_exit ?_
        refine block_exit ?_
        refine then_normal ?_
        refine wc_region ?_
        refine wl_y (y_move (by conv => lhs; whnf)) ?_
        refine wl_y (y_add64 rfl rfl (by omega)) ?_
        refine wl_y (y_assign (by conv => lhs; whnf)) ?_
        refine wl_nil ?_
        refine next_round (σ := Nat × Nat × Int) (v + 1, met, sg) rfl (by repeat first | exact out_hav | refine out_look rfl ?_ | refine out_havIn rfl ?_) ⟨rfl, rfl, rfl, trivial⟩ ⟨hm, by omega, hnx, hmet, hsg⟩ (by (try dsimp only); omega)
      · have hbit : ¬ (set >>> v) % 2 = 0 := by omega
        refine wc_skip ?_
        refine then_normal ?_
        refine wc_seq ?_
        refine wc_region ?_
        refine wl_y (y_move (by conv => lhs; whnf)) ?_
        refine wl_y (y_neg64 rfl (by omega)) ?_
        refine wl_y (y_assign (by conv => lhs; whnf)) ?_
        refine wl_nil ?_
        refine then_normal ?_
        refine wc_seq ?_
        refine wc_seq ?_
        refine wc_region ?_
        refine wl_y (y_move (by conv => lhs; whnf)) ?_
        refine wl_y (y_move (by conv => lhs; whnf)) ?_
        refine wl_y (y_indexAddr (by conv => lhs; whnf) rfl (hl.step hm.upd) (by omega) Try.underlying55 ti3 (by decide)) ?_
        refine wl_y (y_loadSl rfl (hl.step hm.upd) (by first | exact ints_atN (by omega) | exact ints_atI (by omega)) Try.underlying3 rfl) ?_
        refine wl_y (y_eql rfl rfl) ?_
        refine wl_split rfl (fun h3 => ?_) (fun h3 => ?_)
        · have hbad : rsBad to set met v := .inl h3
          refine wl_guard_no rfl ?_
          refine wl_guard_no rfl ?_
          refine wl_guard_no rfl ?_
          refine wl_guard_no rfl ?_
          refine wl_guard_no rfl ?_
          refine wl_guard_no rfl ?_
          refine wl_guard_no rfl ?_
          refine wl_y (y_pick_true rfl (by conv => lhs; whnf)) ?_
          refine wl_y (y_move (by conv => lhs; whnf)) ?_
          refine wl_guard_no rfl ?_
          refine wl_guard_no rfl ?_
          refine wl_guard_no rfl ?_
          refine wl_guard_no rfl ?_
          refine wl_guard_no rfl ?_
          refine wl_guard_no rfl ?_
          refine wl_guard_no rfl ?_
          refine wl_y (y_pick_true rfl (by conv => lhs; whnf)) ?_
          refine wl_nil ?_
          refine then_normal ?_
          refine wc_cond_true rfl ?_
          refine wc_seq ?_
          refine wc_region ?_
          refine wl_y (y_assign (by conv => lhs; whnf)) ?_
          refine wl_nil ?_
          refine then_normal ?_
          refine wc_ret ?_
          refine then_ret ?_
          refine block_ret ?_
          refine then_ret ?_
          refine then_ret ?_
          refine block_ret ?_
          refine then_ret ?_
          refine post_ret (results_fr rfl) ?_
          refine ⟨?_, hm.upd⟩
          rw [rs_bad hvl hst hbit hbad]; rfl
        · have hne1 := h3
          refine wl_guard_yes rfl ?_
          refine wl_y (y_move (by conv => lhs; whnf)) ?_
          refine wl_guard_yes rfl ?_
          refine wl_y (y_move (by conv => lhs; whnf)) ?_
          refine wl_guard_yes rfl ?_
          refine wl_y (y_indexAddr (by conv => lhs; whnf) rfl (hl.step hm.upd) (by omega) Try.underlying55 ti3 (by decide)) ?_
          refine wl_guard_yes rfl ?_
          refine wl_y (y_loadSl rfl (hl.step hm.upd) (by first | exact ints_atN (by omega) | exact ints_atI (by omega)) Try.underlying3 rfl) ?_
          refine wl_guard_yes rfl ?_
          refine wl_y (y_move (by conv => lhs; whnf)) ?_
          refine wl_guard_yes rfl ?_
          refine wl_y (y_andNotB rfl rfl) ?_
          refine wl_guard_yes rfl ?_
          refine wl_y (y_neq rfl rfl) ?_
          refine wl_y (y_pick_false rfl (by conv => lhs; whnf)) ?_
          refine wl_split rfl (fun h4 => ?_) (fun h4 => ?_)
          · have hbad : rsBad to set met v := .inr (.inl h4)
            refine wl_guard_no rfl ?_
            refine wl_guard_no rfl ?_
            refine wl_guard_no rfl ?_
            refine wl_guard_no rfl ?_
            refine wl_guard_no rfl ?_
            refine wl_guard_no rfl ?_
            refine wl_guard_no rfl ?_
            refine wl_y (y_pick_true rfl (by conv => lhs; whnf)) ?_
            refine wl_nil ?_
            refine then_normal ?_
            refine wc_cond_true rfl ?_
            refine wc_seq ?_
            refine wc_region ?_
            refine wl_y (y_assign (by conv => lhs; whnf)) ?_
            refine wl_nil ?_
            refine then_normal ?_
            refine wc_ret ?_
            refine then_ret ?_
            refine block_ret ?_
            refine then_ret ?_
            refine then_ret ?_
            refine block_ret ?_
            refine then_ret ?_
            refine post_ret (results_fr rfl) ?_
            refine ⟨?_, hm.upd⟩
            rw [rs_bad hvl hst hbit hbad]; rfl
          · have hne2 := h4
            refine wl_guard_yes rfl ?_
            refine wl_y (y_move (by conv => lhs; whnf)) ?_
            refine wl_guard_yes rfl ?_
            refine wl_y (y_move (by conv => lhs; whnf)) ?_
            refine wl_guard_yes rfl ?_
            refine wl_y (y_indexAddr (by conv => lhs; whnf) rfl (hl.step hm.upd) (by omega) Try.underlying55 ti3 (by decide)) ?_
            refine wl_guard_yes rfl ?_
            refine wl_y (y_loadSl rfl (hl.step hm.upd) (by first | exact ints_atN (by omega) | exact ints_atI (by omega)) Try.underlying3 rfl) ?_
            refine wl_guard_yes rfl ?_
            refine wl_y (y_move (by conv => lhs; whnf)) ?_
            refine wl_guard_yes rfl ?_
            refine wl_y (y_and64 rfl rfl (by omega)) ?_
            refine wl_guard_yes rfl ?_
            refine wl_y (y_neq rfl rfl) ?_
            refine wl_y (y_pick_false rfl (by conv => lhs; whnf)) ?_
            refine wl_nil ?_
            refine then_normal ?_
            refine wc_cond_dec rfl (fun h5 => ?_) (fun h5 => ?_)
            · have hbad : rsBad to set met v := .inr (.inr (fun hz => h5 (congrArg Nat.cast hz)))
              refine wc_seq ?_
              refine wc_region ?_
              refine wl_y (y_assign (by conv => lhs; whnf)) ?_
              refine wl_nil ?_
              refine then_normal ?_
              refine wc_ret ?_
              refine then_ret ?_
              refine block_ret ?_
              refine then_ret ?_
              refine then_ret ?_
              refine block_ret ?_
              refine then_ret ?_
              refine post_ret (results_fr rfl) ?_
              refine ⟨?_, hm.upd⟩
              rw [rs_bad hvl hst hbit hbad]; rfl
            · have hnb : ¬ rsBad to set met v := fun hb2 => Or.elim hb2 (fun g => hne1 g) (fun g2 => Or.elim g2 (fun g => hne2 g) (fun g => g (Int.ofNat_inj.1 (Decidable.not_not.1 h5))))
              have hnx := rs_more hst hbit hnb
              have hor : met ||| (to.getD v 0).toNat < 2 ^ 5 := Nat.or_lt_two_pow (by omega) (by omega)
              refine wc_skip ?_
              refine then_normal ?_
              refine wc_seq ?_
              refine wc_region ?_
              refine wl_y (y_move (by conv => lhs; whnf)) ?_
              refine wl_y (y_move (by conv => lhs; whnf)) ?_
              refine wl_y (y_move (by conv => lhs; whnf)) ?_
              refine wl_y (y_indexAddr (by conv => lhs; whnf) rfl (hl.step hm.upd) (by omega) Try.underlying55 ti3 (by decide)) ?_
              refine wl_y (y_loadSl rfl (hl.step hm.upd) (by first | exact ints_atN (by omega) | exact ints_atI (by omega)) Try.underlying3 rfl) ?_
              refine wl_y (y_or64 rfl rfl (by omega)) ?_
              refine wl_y (y_assign (by conv => lhs; whnf)) ?_
              refine wl_nil ?_
              refine then_normal ?_
              refine wc_seq ?_
              refine wc_region ?_
              refine wl_y (y_assign (by conv => lhs; whnf)) ?_
              refine wl_nil ?_
              refine then_normal ?_
              refine wc_block ?_
              refine wc_loop [6, 8, 51, 52, 53, 54, 55, 56, 57, 58, 59, 60, 61, 62, 63, 64, 65, 66, 67, 68, 69, 70, 71, 72, 73] (fun (j : Nat) => [(8, .int .i64 (j : Int)), (6, .int .i64 (rneg to set v (-sg) j))]) (fun (j : Nat) W => Mem w [] [] W ∧ j ≤ v) (fun (j : Nat) => v - j) ((0) : Nat) ?_ ?_ ?_
              · exact ⟨rfl, rfl, trivial⟩
              · exact ⟨hm, Nat.zero_le _⟩
              · rintro j u W ⟨hm, hj⟩
                refine wc_seq ?_
                refine wc_seq ?_
                refine wc_region ?_
                refine wl_y (y_move (by conv => lhs; whnf)) ?_
                refine wl_y (y_move (by conv => lhs; whnf)) ?_
                refine wl_y (y_lss rfl rfl) ?_
                refine wl_nil ?_
                refine then_normal ?_
                refine wc_cond_dec rfl (fun h6 => ?_) (fun h6 => ?_)
                · have hpm := rneg_pm (to := to) (set := set) (v := v) (s := -sg) (by omega) j
                  have hgt : 0 ≤ set >>> j := Nat.zero_le _
                  have hsj : set >>> j ≤ set := Nat.shiftRight_le ..
                  refine wc_skip ?_
                  refine then_normal ?_
                  refine wc_seq ?_
                  refine wc_block ?_
                  refine wc_seq ?_
                  refine wc_quiet (C := fun W => Mem w [] [] W) mix (by kernel_rfl) (by kernel_rfl) (hm.step (upd_drew _)) ?_
                  refine q_y (fun W hm => y_move (by conv => lhs; whnf)) ?_
                  refine q_y (fun W hm => y_move (by conv => lhs; whnf)) ?_
                  refine q_y (fun W hm => y_shrN rfl rfl (by omega)) ?_
                  refine q_y (fun W hm => (by first | exact y_rem2 rfl rfl | exact y_rem rfl rfl (by omega))) ?_
                  refine q_y (fun W hm => y_eql rfl rfl) ?_
                  refine q_split rfl (fun h7 => ?_) (fun h7 => ?_)
                  · have hbj : (set >>> j) % 2 = 1 := by omega
                    refine q_guard_yes rfl ?_
                    refine q_y (fun W hm => y_move (by conv => lhs; whnf)) ?_
                    refine q_guard_yes rfl ?_
                    refine q_y (fun W hm => y_move (by conv => lhs; whnf)) ?_
                    refine q_guard_yes rfl ?_
                    refine q_y (fun W hm => y_indexAddr (by conv => lhs; whnf) rfl (hl.step hm.upd) (by omega) Try.underlying55 ti3 (by decide)) ?_
                    refine q_guard_yes rfl ?_
                    refine q_y (fun W hm => y_loadSl rfl (hl.step hm.upd) (by first | exact ints_atN (by omega) | exact ints_atI (by omega)) Try.underlying3 rfl) ?_
                    refine q_guard_yes rfl ?_
                    refine q_y (fun W hm => y_move (by conv => lhs; whnf)) ?_
                    refine q_guard_yes rfl ?_
                    refine q_y (fun W hm => y_move (by conv => lhs; whnf)) ?_
                    refine q_guard_yes rfl ?_
                    refine q_y (fun W hm => y_indexAddr (by conv => lhs; whnf) rfl (hl.step hm.upd) (by omega) Try.underlying55 ti3 (by decide)) ?_
                    refine q_guard_yes rfl ?_
                    refine q_y (fun W hm => y_loadSl rfl (hl.step hm.upd) (by first | exact ints_atN (by omega) | exact ints_atI (by omega)) Try.underlying3 rfl) ?_
                    refine q_guard_yes rfl ?_
                    refine q_y (fun W hm => y_gtr rfl rfl) ?_
                    refine q_y (fun W hm => y_pick_true rfl (by conv => lhs; whnf)) ?_
                    refine q_nil (fun W hm => ?_)
                    refine then_normal ?_
                    refine wc_cond_dec rfl (fun h8 => ?_) (fun h8 => ?_)
                    · have hst2 : (set >>> j) % 2 = 1 ∧ to.getD j 0 > (to.getD v 0) := ⟨hbj, h8⟩
                      refine wc_region ?_
                      refine wl_y (y_move (by conv => lhs; whnf)) ?_
                      refine wl_y (y_neg64 rfl (by omega)) ?_
                      refine wl_y (y_assign (by conv => lhs; whnf)) ?_
                      refine wl_nil ?_
                      refine block_normal ?_
                      refine then_normal ?_
                      refine wc_region ?_
                      refine wl_y (y_move (by conv => lhs; whnf)) ?_
                      refine wl_y (y_add64 rfl rfl (by omega)) ?_
                      refine wl_y (y_assign (by conv => lhs; whnf)) ?_
                      refine wl_nil ?_
                      refine next_round (σ := Nat) (j + 1) rfl (by repeat first | exact out_hav | refine out_look rfl ?_ | refine out_havIn rfl ?_) ⟨rfl, (by first | (rw [rneg, if_pos hst2]; rfl) | (rw [rneg, if_neg hst2]; rfl)), trivial⟩ ⟨hm, by omega⟩ (by (try dsimp only); omega)
                    · have hst2 : ¬ ((set >>> j) % 2 = 1 ∧ to.getD j 0 > (to.getD v 0)) := fun hh => h8 hh.2
                      refine wc_skip ?_
                      refine block_normal ?_
                      refine then_normal ?_
                      refine wc_region ?_
                      refine wl_y (y_move (by conv => lhs; whnf)) ?_
                      refine wl_y (y_add64 rfl rfl (by omega)) ?_
                      refine wl_y (y_assign (by conv => lhs; whnf)) ?_
                      refine wl_nil ?_
                      refine next_round (σ := Nat) (j + 1) rfl (by repeat first | exact out_hav | refine out_look rfl ?_ | refine out_havIn rfl ?_) ⟨rfl, (by first | (rw [rneg, if_pos hst2]; rfl) | (rw [rneg, if_neg hst2]; rfl)), trivial⟩ ⟨hm, by omega⟩ (by (try dsimp only); omega)
                  · have hst2 : ¬ ((set >>> j) % 2 = 1 ∧ to.getD j 0 > (to.getD v 0)) := fun hh => h7 (by omega)
                    refine q_guard_no rfl ?_
                    refine q_guard_no rfl ?_
                    refine q_guard_no rfl ?_
                    refine q_guard_no rfl ?_
                    refine q_guard_no rfl ?_
                    refine q_guard_no rfl ?_
                    refine q_guard_no rfl ?_
                    refine q_guard_no rfl ?_
                    refine q_guard_no rfl ?_
                    refine q_y (fun W hm => y_pick_false rfl (by conv => lhs; whnf)) ?_
                    refine q_nil (fun W hm => ?_)
                    refine then_normal ?_
                    refine wc_cond_false rfl ?_
                    refine wc_skip ?_
                    refine block_normal ?_
                    refine then_normal ?_
                    refine wc_region ?_
                    refine wl_y (y_move (by conv => lhs; whnf)) ?_
                    refine wl_y (y_add64 rfl rfl (by omega)) ?_
                    refine wl_y (y_assign (by conv => lhs; whnf)) ?_
                    refine wl_nil ?_
                    refine next_round (σ := Nat) (j + 1) rfl (by repeat first | exact out_hav | refine out_look rfl ?_ | refine out_havIn rfl ?_) ⟨rfl, (by first | (rw [rneg, if_pos hst2]; rfl) | (rw [rneg, if_neg hst2]; rfl)), trivial⟩ ⟨hm, by omega⟩ (by (try dsimp only); omega)
                · obtain rfl : v = j := by omega
                  refine wc_exit ?_
                  refine then_exit ?_
                  refine then_exit ?_
                  refine block_exit ?_
                  refine block_normal ?_
                  refine then_normal ?_
                  refine wc_region ?_
                  refine wl_y (y_move (by conv => lhs; whnf)) ?_
                  refine wl_y (y_add64 rfl rfl (by omega)) ?_
                  refine wl_y (y_assign (by conv => lhs; whnf)) ?_
                  refine wl_nil ?_
                  refine next_round (σ := Nat × Nat × Int) (v + 1, met ||| (to.getD v 0).toNat, rneg to set v (-sg) v) rfl (by repeat first | exact out_hav | refine out_look rfl ?_ | refine out_havIn rfl ?_) ⟨rfl, rfl, rfl, trivial⟩ ⟨hm, by omega, hnx, by omega, rneg_pm (by omega) _⟩ (by (try dsimp only); omega)
    · obtain rfl : v = to.length := by omega
      refine wc_exit ?_
      refine then_exit ?_
      refine then_exit ?_
      refine block_exit ?_
      refine then_normal ?_
      refine wc_seq ?_
      refine wc_region ?_
      refine wl_y (y_move (by conv => lhs; whnf)) ?_
      refine wl_y (y_assign (by conv => lhs; whnf)) ?_
      refine wl_nil ?_
      refine then_normal ?_
      refine wc_ret ?_
      refine post_ret (results_fr rfl) ?_
      refine ⟨?_, hm.upd⟩
      unfold rsV
      rw [hst]; rfl

set_option maxHeartbeats 4000000 in
theorem rSigned_calls (w : World) (vl : Value) (ps : List (Int × Int)) (n : Nat) (hl0 : SlAt w 2 vl ps.length (prs ps)) (ho : Okf ps.length (tabR ps)) (hn : n ≤ 12) :
    Cl Try.prog 26 [vl, .int .i64 (n : Int)].toArray w (Ret w (.int .i64 (rSignedF (tabR ps) ps.length n))) := by
  have hl := allF_len n
  have hp12 : 2 ^ n ≤ 2 ^ 12 := Nat.pow_le_pow_right (by decide) hn
  have hk := ho.k5
  have h32 := pow_le_32 ho.k5
  have hp0 := Nat.two_pow_pos ps.length
  have hm : Mem w [] [] w := Mem.init w
  refine cl_enter Try.func26 rfl Try.ntmps26 rfl ?_
  refine wc_seq ?_
  refine wc_region ?_
  refine wl_y (y_assign (by conv => lhs; whnf)) ?_
  refine wl_nil ?_
  refine then_normal ?_
  refine wc_seq ?_
  refine wc_region ?_
  refine wl_y (y_move (by conv => lhs; whnf)) ?_
  refine wl_call hb67 (All_calls _ n (by omega)) rfl rfl (fun e W h => ?_)
  obtain ⟨v9, rfl, h9⟩ := h
  refine ⟨_, rfl, ?_⟩
  have hm := hm.call h9
  refine wl_y (y_assign (by conv => lhs; whnf)) ?_
  refine wl_nil ?_
  refine then_normal ?_
  refine wc_seq ?_
  refine wc_region ?_
  refine wl_y (y_assign (by conv => lhs; whnf)) ?_
  refine wl_nil ?_
  refine then_normal ?_
  refine wc_seq ?_
  refine wc_seq ?_
  refine wc_region ?_
  refine wl_y (y_assign (by conv => lhs; whnf)) ?_
  refine wl_nil ?_
  refine then_normal ?_
  refine wc_block ?_
  refine wc_loop [6, 7, 8, 9, 10, 13, 14, 15, 16, 17, 18, 19, 20, 21, 22, 23, 24, 25, 26, 27, 28, 29, 30, 31, 32, 33, 34, 35, 36, 37, 38, 39, 40, 41, 42, 43, 44, 45, 46, 47, 48, 49, 50] (fun (i : Nat) => [(7, .int .i64 (i : Int)), (6, .int .i64 (sumB (rSgS (tabR ps) ps.length) ((allF n).take i)))]) (fun (i : Nat) W => Mem w [] [.own 9 1 v9 (allF n).length (strs (allF n))] W ∧ i ≤ (allF n).length) (fun (i : Nat) => (allF n).length - i) ((0) : Nat) ?_ ?_ ?_
  · exact ⟨rfl, rfl, trivial⟩
  · exact ⟨hm, Nat.zero_le _⟩
  · rintro i u W ⟨hm, hi⟩
    refine wc_seq ?_
    refine wc_seq ?_
    refine wc_region ?_
    refine wl_y (y_move (by conv => lhs; whnf)) ?_
    refine wl_y (y_move (by conv => lhs; whnf)) ?_
    refine wl_y (y_lenSl (by conv => lhs; whnf) (hm.slAt 0 rfl) Try.underlying47) ?_
    refine wl_y (y_lss rfl rfl) ?_
    refine wl_nil ?_
    refine then_normal ?_
    refine wc_cond_dec rfl (fun h1 => ?_) (fun h1 => ?_)
    · have hsz := allF_size n ((allF n).getD i ByteArray.empty) (getD_mem (by omega))
      have hls := allF_lets n ((allF n).getD i ByteArray.empty) (getD_mem (by omega))
      have hsb := sumB_bnd (fun s => rSgS_bnd (f := (tabR ps)) hk s) ((allF n).take i)
      have htl : ((allF n).take i).length ≤ i := by rw [List.length_take]; omega
      refine wc_skip ?_
      refine then_normal ?_
      refine wc_seq ?_
      refine wc_block ?_
      refine wc_seq ?_
      refine wc_region ?_
      refine wl_y (y_move (by conv => lhs; whnf)) ?_
      refine wl_y (y_lenSl (by conv => lhs; whnf) (hl0.step hm.upd) Try.underlying22) ?_
      refine wl_makeZ hm rfl rfl Try.underlying55 ti3 rfl (by omega) (by omega) (fun W v21 hm hu => ?_)
      refine wl_y (y_assign (by conv => lhs; whnf)) ?_
      refine wl_nil ?_
      refine then_normal ?_
      refine wc_seq ?_
      refine wc_seq ?_
      refine wc_region ?_
      refine wl_y (y_assign (by conv => lhs; whnf)) ?_
      refine wl_nil ?_
      refine then_normal ?_
      refine wc_block ?_
      refine wc_loop [9, 22, 23, 24, 25, 26, 27, 28, 29, 30, 31, 32, 33, 34, 35, 36, 37, 38] (fun (v : Nat) => [(9, .int .i64 (v : Int))]) (fun (v : Nat) W => Mem w [] [.own 9 1 v9 (allF n).length (strs (allF n)), .own 3 1 v21 ps.length (ints (toP (tabR ps) ps.length ((allF n).getD i ByteArray.empty) v))] W ∧ v ≤ ps.length) (fun (v : Nat) => ps.length - v) ((0) : Nat) ?_ ?_ ?_
      · exact ⟨rfl, trivial⟩
      · exact ⟨by rw [toP_zero, ← ints_rep]; exact hm, Nat.zero_le _⟩
      · rintro v u W ⟨hm, hv⟩
        refine wc_seq ?_
        refine wc_seq ?_
        refine wc_region ?_
        refine wl_y (y_move (by conv => lhs; whnf)) ?_
        refine wl_y (y_move (by conv => lhs; whnf)) ?_
        refine wl_y (y_lenSl (by conv => lhs; whnf) (hl0.step hm.upd) Try.underlying22) ?_
        refine wl_y (y_lss rfl rfl) ?_
        refine wl_nil ?_
        refine then_normal ?_
        refine wc_cond_dec rfl (fun h2 => ?_) (fun h2 => ?_)
        · have hvl : v < ps.length := by omega
          refine wc_skip ?_
          refine then_normal ?_
          refine wc_seq ?_
          refine wc_block ?_
          refine wc_draw (C := fun W => Mem w [] [.own 9 1 v9 (allF n).length (strs (allF n)), .own 3 1 v21 ps.length (ints (toP (tabR ps) ps.length ((allF n).getD i ByteArray.empty) v))] W) (some 11) mix (by kernel_rfl) (by kernel_rfl) (Mem.stable _ _ _) (hm.step (upd_drew _)) ?_
          refine al_y (by kernel_rfl) (fun W hm => y_move (by conv => lhs; whnf)) ?_
          refine al_y (by kernel_rfl) (fun W hm => y_move (by conv => lhs; whnf)) ?_
          refine al_y (by kernel_rfl) (fun W hm => y_move (by conv => lhs; whnf)) ?_
          refine al_y (by kernel_rfl) (fun W hm => y_move (by conv => lhs; whnf)) ?_
          refine al_y (by kernel_rfl) (fun W hm => y_bitN rfl rfl (by omega)) ?_
          refine al_y (by kernel_rfl) (fun W hm => y_move (by conv => lhs; whnf)) ?_
          refine al_y (by kernel_rfl) (fun W hm => y_move (by conv => lhs; whnf)) ?_
          refine al_y (by kernel_rfl) (fun W hm => y_indexAddr (by conv => lhs; whnf) rfl (hm.slAt 0 rfl) (by omega) Try.underlying47 ti9 (by decide)) ?_
          refine al_y (by kernel_rfl) (fun W hm => y_loadSl rfl (hm.slAt 0 rfl) (by first | exact strs_atN (by omega) | exact strs_atI (by omega)) Try.underlying9 rfl) ?_
          refine al_callR (by kernel_rfl) hb42 (fun W hm => From_calls _ _ _ _ _ (hl0.step hm.upd) ho (Nat.pow_lt_pow_right (by decide) hvl) hls (by omega)) rfl rfl ?_
          refine al_y (by kernel_rfl) (fun W hm => y_indexAddr (by conv => lhs; whnf) rfl (hm.slAt 1 rfl) (by omega) Try.underlying55 ti3 (by decide)) ?_
          refine al_loud (by kernel_rfl) (fun W hm => ?_)
          refine wl_storeOwn1 (i := 1) (v := .int .i64 (fromTo (tabR ps) ps.length (2 ^ v) ((allF n).getD i ByteArray.empty) ((allF n).getD i ByteArray.empty).size : Int)) hm rfl rfl rfl ti3 (by simp [toP_len]; omega) rfl rfl (fun W hm => ?_)
          rw [ints_setN, toP_set hvl] at hm
          refine nx_store none hm rfl ?_
          refine al_nil (by kernel_rfl) (fun W hm => ?_)
          refine block_normal ?_
          refine then_normal ?_
          refine wc_region ?_
          refine wl_y (y_move (by conv => lhs; whnf)) ?_
          refine wl_y (y_add64 rfl rfl (by omega)) ?_
          refine wl_y (y_assign (by conv => lhs; whnf)) ?_
          refine wl_nil ?_
          refine next_round (σ := Nat) (v + 1) rfl (by repeat first | exact out_hav | refine out_look rfl ?_ | refine out_havIn rfl ?_) ⟨rfl, trivial⟩ ⟨hm, by omega⟩ (by (try dsimp only); omega)
        · obtain rfl : v = ps.length := by omega
          rw [toP_all] at hm
          refine wc_exit ?_
          refine then_exit ?_
          refine then_exit ?_
          refine block_exit ?_
          refine then_normal ?_
          refine wc_seq ?_
          refine wc_region ?_
          refine wl_y (y_assign (by conv => lhs; whnf)) ?_
          refine wl_nil ?_
          refine then_normal ?_
          refine wc_block ?_
          refine wc_loop [6, 10, 39, 40, 41, 42, 43, 44, 45, 46, 47, 48, 49, 50] (fun (j : Nat) => [(10, .int .i64 ((j + 1 : Nat) : Int)), (6, .int .i64 ((sumB (rSgS (tabR ps) ps.length) ((allF n).take i)) + rSgP (tabR ps) ps.length ((allF n).getD i ByteArray.empty) j))]) (fun (j : Nat) W => Mem w [] [.own 9 1 v9 (allF n).length (strs (allF n)), .own 3 1 v21 ps.length (ints (toL (tabR ps) ps.length ((allF n).getD i ByteArray.empty)))] W ∧ j + 1 ≤ 2 ^ ps.length) (fun (j : Nat) => 2 ^ ps.length - j) ((0) : Nat) ?_ ?_ ?_
          · exact ⟨rfl, congrArg (Value.int .i64) (Int.add_zero _).symm, trivial⟩
          · exact ⟨hm, by omega⟩
          · rintro j u W ⟨hm, hj⟩
            refine wc_seq ?_
            refine wc_seq ?_
            refine wc_region ?_
            refine wl_y (y_move (by conv => lhs; whnf)) ?_
            refine wl_y (y_move (by conv => lhs; whnf)) ?_
            refine wl_y (y_lenSl (by conv => lhs; whnf) (hl0.step hm.upd) Try.underlying22) ?_
            refine wl_y (y_bitN rfl rfl (by omega)) ?_
            refine wl_y (y_lss rfl rfl) ?_
            refine wl_nil ?_
            refine then_normal ?_
            refine wc_cond_dec rfl (fun h3 => ?_) (fun h3 => ?_)
            · have hj1 : j + 1 < 2 ^ ps.length := by omega
              have hpb := rSgP_bnd (tabR ps) ps.length ((allF n).getD i ByteArray.empty) j
              have hrv := rsV_pm (toL (tabR ps) ps.length ((allF n).getD i ByteArray.empty)) (j + 1)
              refine wc_skip ?_
              refine then_normal ?_
              refine wc_seq ?_
              refine wc_block ?_
              refine wc_region ?_
              refine wl_y (y_move (by conv => lhs; whnf)) ?_
              refine wl_y (y_move (by conv => lhs; whnf)) ?_
              refine wl_y (y_move (by conv => lhs; whnf)) ?_
              refine wl_callR hm hb68 (rsigned_calls _ _ (toL (tabR ps) ps.length ((allF n).getD i ByteArray.empty)) (j + 1) (by rw [toL_len]; exact hm.slAt 1 rfl) (by rw [toL_len]; exact hk) (toL_bnd ho hls) (by omega)) rfl rfl (fun W hm hu => ?_)
              refine wl_y (y_add64 rfl rfl (by omega)) ?_
              refine wl_y (y_assign (by conv => lhs; whnf)) ?_
              refine wl_nil ?_
              refine block_normal ?_
              refine then_normal ?_
              refine wc_region ?_
              refine wl_y (y_move (by conv => lhs; whnf)) ?_
              refine wl_y (y_add64 rfl rfl (by omega)) ?_
              refine wl_y (y_assign (by conv => lhs; whnf)) ?_
              refine wl_nil ?_
              refine next_round (σ := Nat) (j + 1) rfl (by repeat first | exact out_hav | refine out_look rfl ?_ | refine out_havIn rfl ?_) ⟨rfl, congrArg (Value.int .i64) (Int.add_assoc _ _ _), trivial⟩ ⟨hm, by omega⟩ (by (try dsimp only); omega)
            · obtain rfl : j = 2 ^ ps.length - 1 := by omega
              refine wc_exit ?_
              refine then_exit ?_
              refine then_exit ?_
              refine block_exit ?_
              refine block_normal ?_
              refine then_normal ?_
              refine wc_region ?_
              refine wl_y (y_move (by conv => lhs; whnf)) ?_
              refine wl_y (y_add64 rfl rfl (by omega)) ?_
              refine wl_y (y_assign (by conv => lhs; whnf)) ?_
              refine wl_nil ?_
              refine next_round (σ := Nat) (i + 1) rfl (by repeat first | exact out_hav | refine out_look rfl ?_ | refine out_havIn rfl ?_) ⟨rfl, (by rw [sumB_take _ (by omega)]; rfl), trivial⟩ ⟨hm.take 1, by omega⟩ (by (try dsimp only); omega)
    · obtain rfl : i = (allF n).length := by omega
      refine wc_exit ?_
      refine then_exit ?_
      refine then_exit ?_
      refine block_exit ?_
      refine then_normal ?_
      refine wc_seq ?_
      refine wc_region ?_
      refine wl_y (y_move (by conv => lhs; whnf)) ?_
      refine wl_y (y_assign (by conv => lhs; whnf)) ?_
      refine wl_nil ?_
      refine then_normal ?_
      refine wc_ret ?_
      refine post_ret (results_fr rfl) ?_
      refine ⟨?_, hm.upd⟩
      unfold rSignedF
      rw [List.take_length]; rfl
end Go.Proofs.Ytofpdjpenmhbnaa
namespace Go.Proofs.Ytofpdjpenmhbnaa
open Go Go.Kx
theorem hb25 : HasBody Try.prog 25 := hasBody Try.func25 (by kernel_rfl) (by kernel_rfl)
theorem hb26 : HasBody Try.prog 26 := hasBody Try.func26 (by kernel_rfl) (by kernel_rfl)
theorem rRoundsI_calls (w : World) (vl : Value) (ps : List (Int × Int)) (m : Int) (hl0 : SlAt w 2 vl ps.length (prs ps)) (ho : Okf ps.length (tabR ps)) (hm : 0 ≤ m ∧ m ≤ 12) :
    Cl Try.prog 25 [vl, .int .i64 m].toArray w (Ret w (.int .i64 (rRoundsF (tabR ps) ps.length m.toNat : Nat))) := by
  obtain ⟨n, rfl⟩ : ∃ n : Nat, m = n := ⟨m.toNat, by omega⟩
  rw [Int.toNat_natCast]
  exact rRounds_calls w vl ps n hl0 ho (by omega)
theorem rSignedI_calls (w : World) (vl : Value) (ps : List (Int × Int)) (m : Int) (hl0 : SlAt w 2 vl ps.length (prs ps)) (ho : Okf ps.length (tabR ps)) (hm : 0 ≤ m ∧ m ≤ 12) :
    Cl Try.prog 26 [vl, .int .i64 m].toArray w (Ret w (.int .i64 (rSignedF (tabR ps) ps.length m.toNat))) := by
  obtain ⟨n, rfl⟩ : ∃ n : Nat, m = n := ⟨m.toNat, by omega⟩
  rw [Int.toNat_natCast]
  exact rSigned_calls w vl ps n hl0 ho (by omega)

set_option maxHeartbeats 4000000 in
theorem soficRounds_calls (w : World) (vl : Value) (ps : List (Int × Int)) (m : Int) (hl : SlAt w 2 vl ps.length (prs ps)) (hwf : (Lit.int .i64 m).wf = true) :
    Cl Try.prog 4 [vl, .int .i64 m].toArray w (Ret w (.bool true)) := by
  have hm : Mem w [] [] w := Mem.init w
  refine cl_enter Try.func4 rfl Try.ntmps4 rfl ?_
  refine wc_seq ?_
  refine wc_region ?_
  refine wl_y (y_assign (by conv => lhs; whnf)) ?_
  refine wl_nil ?_
  refine then_normal ?_
  refine wc_seq ?_
  refine wc_region ?_
  refine wl_y (y_move (by conv => lhs; whnf)) ?_
  refine wl_y (y_move (by conv => lhs; whnf)) ?_
  refine wl_y (y_remT rfl rfl (by decide)) ?_
  refine wl_y (y_eql rfl rfl) ?_
  refine wl_callM hm hb14 (tame_calls _ _ ps (decide (m.tmod 2 = 0)) (hl.step hm.upd)) rfl rfl (fun W v15 E hm hu hE => ?_)
  obtain ⟨qs, hTqs, rfl⟩ := hE
  have hokqs := hTqs.1
  have hl1qs := hokqs.1
  refine wl_y (y_assign (by conv => lhs; whnf)) ?_
  refine wl_nil ?_
  refine then_normal ?_
  refine wc_seq ?_
  refine wc_seq ?_
  refine wc_region ?_
  refine wl_y (y_assign (by conv => lhs; whnf)) ?_
  refine wl_nil ?_
  refine then_normal ?_
  refine wc_block ?_
  refine wc_loop [1, 4, 6, 7, 8, 9, 10, 16, 17, 18, 19, 20, 21, 22, 23, 24, 25, 26, 27, 28, 29, 30, 31, 32, 33, 34, 35, 36, 37, 38, 39, 40, 41, 42, 43, 44, 45, 46, 47, 48, 49, 50, 51, 52, 53, 54, 55, 56, 57, 58, 59, 60, 61, 62, 63, 64, 65, 66, 67, 68, 69, 70, 71, 72, 73, 74, 75, 76, 77, 78, 79] (fun ((r, m) : Nat × Int) => [(6, .int .i64 (r : Int)), (1, .int .i64 m)]) (fun ((r, m) : Nat × Int) W => Mem w [] [.own 27 2 v15 qs.length (prs qs)] W ∧ r ≤ 2) (fun ((r, m) : Nat × Int) => 2 - r) ((0, m) : Nat × Int) ?_ ?_ ?_
  · exact ⟨rfl, rfl, trivial⟩
  · exact ⟨hm, Nat.zero_le _⟩
  · rintro ⟨r, m⟩ u W ⟨hm, hr⟩
    refine wc_seq ?_
    refine wc_seq ?_
    refine wc_region ?_
    refine wl_y (y_move (by conv => lhs; whnf)) ?_
    refine wl_y (y_lss rfl rfl) ?_
    refine wl_nil ?_
    refine then_normal ?_
    refine wc_cond_dec rfl (fun h1 => ?_) (fun h1 => ?_)
    · skip
      refine wc_skip ?_
      refine then_normal ?_
      refine wc_seq ?_
      refine wc_block ?_
      refine wc_seq ?_
      refine wc_region ?_
      refine wl_y (y_move (by conv => lhs; whnf)) ?_
      refine wl_y (y_move (by conv => lhs; whnf)) ?_
      refine wl_callR hm hb23 (Rounds_calls _ _ qs m (hm.slAt 0 rfl)) rfl rfl (fun W hm hu => ?_)
      refine wl_y (y_move (by conv => lhs; whnf)) ?_
      refine wl_y (y_extract rfl rfl) ?_
      refine wl_y (y_extract rfl rfl) ?_
      refine wl_y (y_assign (by conv => lhs; whnf)) ?_
      refine wl_y (y_assign (by conv => lhs; whnf)) ?_
      refine wl_nil ?_
      refine then_normal ?_
      refine wc_seq ?_
      refine wc_region ?_
      refine wl_y (y_move (by conv => lhs; whnf)) ?_
      refine wl_y (y_move (by conv => lhs; whnf)) ?_
      refine wl_callR hm hb24 (Signed_calls _ _ qs m (hm.slAt 0 rfl)) rfl rfl (fun W hm hu => ?_)
      refine wl_y (y_move (by conv => lhs; whnf)) ?_
      refine wl_y (y_extract rfl rfl) ?_
      refine wl_y (y_extract rfl rfl) ?_
      refine wl_y (y_assign (by conv => lhs; whnf)) ?_
      refine wl_y (y_assign (by conv => lhs; whnf)) ?_
      refine wl_nil ?_
      refine then_normal ?_
      refine wc_seq ?_
      refine wc_seq ?_
      refine wc_region ?_
      refine wl_y (y_move (by conv => lhs; whnf)) ?_
      refine wl_y (y_lss rfl rfl) ?_
      refine wl_split rfl (fun h2 => ?_) (fun h2 => ?_)
      · have hrv := rounds_out hokqs (m := m) (by omega)
        have hsv := signed_out hokqs (m := m) (by omega)
        have hr1 : (roundsV qs m).1 = 0 := by rw [hrv]
        have hs1 : (signedW qs m).1 = 0 := by rw [hsv]
        refine wl_guard_no rfl ?_
        refine wl_guard_no rfl ?_
        refine wl_y (y_pick_true rfl (by conv => lhs; whnf)) ?_
        refine wl_nil ?_
        refine then_normal ?_
        refine wc_cond_true rfl ?_
        refine wc_seq ?_
        refine wc_region ?_
        refine wl_y (y_move (by conv => lhs; whnf)) ?_
        refine wl_y (y_neq rfl rfl) ?_
        refine wl_split rfl (fun h3 => ?_) (fun h3 => ?_)
        · exact absurd (by rw [hrv]) h3
        · skip
          refine wl_guard_yes rfl ?_
          refine wl_y (y_move (by conv => lhs; whnf)) ?_
          refine wl_guard_yes rfl ?_
          refine wl_y (y_neq rfl rfl) ?_
          refine wl_y (y_pick_false rfl (by conv => lhs; whnf)) ?_
          refine wl_split rfl (fun h4 => ?_) (fun h4 => ?_)
          · exact absurd (by rw [hsv]) h4
          · skip
            refine wl_guard_yes rfl ?_
            refine wl_y (y_move (by conv => lhs; whnf)) ?_
            refine wl_guard_yes rfl ?_
            refine wl_y (y_move (by conv => lhs; whnf)) ?_
            refine wl_guard_yes rfl ?_
            refine wl_y (y_add64 rfl rfl (by omega)) ?_
            refine wl_guard_yes rfl ?_
            refine wl_y (y_neq rfl rfl) ?_
            refine wl_y (y_pick_false rfl (by conv => lhs; whnf)) ?_
            refine wl_nil ?_
            refine then_normal ?_
            refine wc_cond_dec rfl (fun h5 => ?_) (fun h5 => ?_)
            · exact absurd (by omega) h5
            · skip
              refine wc_skip ?_
              refine then_normal ?_
              refine wc_region ?_
              refine wl_y (y_move (by conv => lhs; whnf)) ?_
              refine wl_y (y_convW rfl Try.underlying3 Try.underlying39) ?_
              have hur := u64_range m
              refine wl_y (y_rem rfl rfl (by omega)) ?_
              refine wl_y (y_conv rfl Try.underlying39 Try.underlying3 (IntWalk.i64_in _ (by omega))) ?_
              refine wl_y (y_add64 rfl rfl (by omega)) ?_
              refine wl_y (y_assign (by conv => lhs; whnf)) ?_
              refine wl_nil ?_
              refine block_normal ?_
              refine then_normal ?_
              refine wc_region ?_
              refine wl_y (y_move (by conv => lhs; whnf)) ?_
              refine wl_y (y_add64 rfl rfl (by omega)) ?_
              refine wl_y (y_assign (by conv => lhs; whnf)) ?_
              refine wl_nil ?_
              refine next_round (σ := Nat × Int) (r + 1, _) rfl (by repeat first | exact out_hav | refine out_look rfl ?_ | refine out_havIn rfl ?_) ⟨rfl, rfl, trivial⟩ ⟨hm.take 1, by omega⟩ (by (try dsimp only); omega)
      · skip
        refine wl_guard_yes rfl ?_
        refine wl_y (y_move (by conv => lhs; whnf)) ?_
        refine wl_guard_yes rfl ?_
        refine wl_y (y_gtr rfl rfl) ?_
        refine wl_y (y_pick_false rfl (by conv => lhs; whnf)) ?_
        refine wl_nil ?_
        refine then_normal ?_
        refine wc_cond_dec rfl (fun h6 => ?_) (fun h6 => ?_)
        · have hrv := rounds_out hokqs (m := m) (by omega)
          have hsv := signed_out hokqs (m := m) (by omega)
          have hr1 : (roundsV qs m).1 = 0 := by rw [hrv]
          have hs1 : (signedW qs m).1 = 0 := by rw [hsv]
          refine wc_seq ?_
          refine wc_region ?_
          refine wl_y (y_move (by conv => lhs; whnf)) ?_
          refine wl_y (y_neq rfl rfl) ?_
          refine wl_split rfl (fun h7 => ?_) (fun h7 => ?_)
          · exact absurd (by rw [hrv]) h7
          · skip
            refine wl_guard_yes rfl ?_
            refine wl_y (y_move (by conv => lhs; whnf)) ?_
            refine wl_guard_yes rfl ?_
            refine wl_y (y_neq rfl rfl) ?_
            refine wl_y (y_pick_false rfl (by conv => lhs; whnf)) ?_
            refine wl_split rfl (fun h8 => ?_) (fun h8 => ?_)
            · exact absurd (by rw [hsv]) h8
            · skip
              refine wl_guard_yes rfl ?_
              refine wl_y (y_move (by conv => lhs; whnf)) ?_
              refine wl_guard_yes rfl ?_
              refine wl_y (y_move (by conv => lhs; whnf)) ?_
              refine wl_guard_yes rfl ?_
              refine wl_y (y_add64 rfl rfl (by omega)) ?_
              refine wl_guard_yes rfl ?_
              refine wl_y (y_neq rfl rfl) ?_
              refine wl_y (y_pick_false rfl (by conv => lhs; whnf)) ?_
              refine wl_nil ?_
              refine then_normal ?_
              refine wc_cond_dec rfl (fun h9 => ?_) (fun h9 => ?_)
              · exact absurd (by omega) h9
              · skip
                refine wc_skip ?_
                refine then_normal ?_
                refine wc_region ?_
                refine wl_y (y_move (by conv => lhs; whnf)) ?_
                refine wl_y (y_convW rfl Try.underlying3 Try.underlying39) ?_
                have hur := u64_range m
                refine wl_y (y_rem rfl rfl (by omega)) ?_
                refine wl_y (y_conv rfl Try.underlying39 Try.underlying3 (IntWalk.i64_in _ (by omega))) ?_
                refine wl_y (y_add64 rfl rfl (by omega)) ?_
                refine wl_y (y_assign (by conv => lhs; whnf)) ?_
                refine wl_nil ?_
                refine block_normal ?_
                refine then_normal ?_
                refine wc_region ?_
                refine wl_y (y_move (by conv => lhs; whnf)) ?_
                refine wl_y (y_add64 rfl rfl (by omega)) ?_
                refine wl_y (y_assign (by conv => lhs; whnf)) ?_
                refine wl_nil ?_
                refine next_round (σ := Nat × Int) (r + 1, _) rfl (by repeat first | exact out_hav | refine out_look rfl ?_ | refine out_havIn rfl ?_) ⟨rfl, rfl, trivial⟩ ⟨hm.take 1, by omega⟩ (by (try dsimp only); omega)
        · have hrv := rounds_in hokqs (m := m) (by omega)
          have hsv := signed_in hokqs (m := m) (by omega)
          refine wc_seq ?_
          refine wc_region ?_
          refine wl_y (y_move (by conv => lhs; whnf)) ?_
          refine wl_y (y_leq rfl rfl) ?_
          refine wl_split rfl (fun h10 => ?_) (fun h10 => ?_)
          · skip
            refine wl_guard_yes rfl ?_
            refine wl_y (y_move (by conv => lhs; whnf)) ?_
            refine wl_guard_yes rfl ?_
            refine wl_y (y_neq rfl rfl) ?_
            refine wl_guard_yes rfl ?_
            refine wl_split rfl (fun h11 => ?_) (fun h11 => ?_)
            · exact absurd (by rw [hrv]) h11
            · skip
              refine wl_guard_yes rfl ?_
              refine wl_y (y_move (by conv => lhs; whnf)) ?_
              refine wl_guard_yes rfl ?_
              refine wl_y (y_move (by conv => lhs; whnf)) ?_
              refine wl_guard_yes rfl ?_
              refine wl_y (y_move (by conv => lhs; whnf)) ?_
              refine wl_guard_yes rfl ?_
              refine wl_callR hm hb25 (rRoundsI_calls _ _ qs m (hm.slAt 0 rfl) hokqs.okf (by omega)) rfl rfl (fun W hm hu => ?_)
              refine wl_guard_yes rfl ?_
              refine wl_y (y_neq rfl rfl) ?_
              refine wl_guard_yes rfl ?_
              refine wl_y (y_pick_false rfl (by conv => lhs; whnf)) ?_
              refine wl_guard_yes rfl ?_
              refine wl_split rfl (fun h12 => ?_) (fun h12 => ?_)
              · exact absurd (by rw [hrv]) h12
              · skip
                refine wl_guard_yes rfl ?_
                refine wl_y (y_move (by conv => lhs; whnf)) ?_
                refine wl_guard_yes rfl ?_
                refine wl_y (y_neq rfl rfl) ?_
                refine wl_guard_yes rfl ?_
                refine wl_y (y_pick_false rfl (by conv => lhs; whnf)) ?_
                refine wl_guard_yes rfl ?_
                refine wl_split rfl (fun h13 => ?_) (fun h13 => ?_)
                · exact absurd (by rw [hsv]) h13
                · skip
                  refine wl_guard_yes rfl ?_
                  refine wl_y (y_move (by conv => lhs; whnf)) ?_
                  refine wl_guard_yes rfl ?_
                  refine wl_y (y_move (by conv => lhs; whnf)) ?_
                  refine wl_guard_yes rfl ?_
                  refine wl_call hb19 (rForm_calls _ _ qs (hm.slAt 0 rfl) hokqs.okf) rfl rfl (fun e W h => ?_)
                  obtain ⟨v69, rfl, hv69⟩ := h
                  refine ⟨_, rfl, ?_⟩
                  have hm := hm.call hv69
                  refine wl_guard_yes rfl ?_
                  refine wl_y (y_move (by conv => lhs; whnf)) ?_
                  refine wl_guard_yes rfl ?_
                  refine wl_callR hm hb26 (rSignedI_calls _ _ (formLV qs) m (hm.slAt 1 rfl) (formLV_okf hokqs) (by omega)) rfl rfl (fun W hm hu => ?_)
                  refine wl_guard_yes rfl ?_
                  refine wl_y (y_neq rfl rfl) ?_
                  refine wl_guard_yes rfl ?_
                  refine wl_y (y_pick_false rfl (by conv => lhs; whnf)) ?_
                  refine wl_y (y_pick_true rfl (by conv => lhs; whnf)) ?_
                  refine wl_nil ?_
                  refine then_normal ?_
                  refine wc_cond_dec rfl (fun h14 => ?_) (fun h14 => ?_)
                  · exact absurd (by rw [hsv]) h14
                  · skip
                    refine wc_skip ?_
                    refine then_normal ?_
                    refine wc_region ?_
                    refine wl_y (y_move (by conv => lhs; whnf)) ?_
                    refine wl_y (y_convW rfl Try.underlying3 Try.underlying39) ?_
                    have hur := u64_range m
                    refine wl_y (y_rem rfl rfl (by omega)) ?_
                    refine wl_y (y_conv rfl Try.underlying39 Try.underlying3 (IntWalk.i64_in _ (by omega))) ?_
                    refine wl_y (y_add64 rfl rfl (by omega)) ?_
                    refine wl_y (y_assign (by conv => lhs; whnf)) ?_
                    refine wl_nil ?_
                    refine block_normal ?_
                    refine then_normal ?_
                    refine wc_region ?_
                    refine wl_y (y_move (by conv => lhs; whnf)) ?_
                    refine wl_y (y_add64 rfl rfl (by omega)) ?_
                    refine wl_y (y_assign (by conv => lhs; whnf)) ?_
                    refine wl_nil ?_
                    refine next_round (σ := Nat × Int) (r + 1, _) rfl (by repeat first | exact out_hav | refine out_look rfl ?_ | refine out_havIn rfl ?_) ⟨rfl, rfl, trivial⟩ ⟨hm.take 1, by omega⟩ (by (try dsimp only); omega)
          · skip
            refine wl_guard_no rfl ?_
            refine wl_guard_no rfl ?_
            refine wl_guard_no rfl ?_
            refine wl_guard_no rfl ?_
            refine wl_guard_no rfl ?_
            refine wl_guard_no rfl ?_
            refine wl_guard_no rfl ?_
            refine wl_guard_no rfl ?_
            refine wl_guard_no rfl ?_
            refine wl_guard_no rfl ?_
            refine wl_guard_no rfl ?_
            refine wl_guard_no rfl ?_
            refine wl_guard_no rfl ?_
            refine wl_guard_no rfl ?_
            refine wl_guard_no rfl ?_
            refine wl_guard_no rfl ?_
            refine wl_guard_no rfl ?_
            refine wl_guard_no rfl ?_
            refine wl_guard_no rfl ?_
            refine wl_guard_no rfl ?_
            refine wl_guard_no rfl ?_
            refine wl_y (y_pick_false rfl (by conv => lhs; whnf)) ?_
            refine wl_nil ?_
            refine then_normal ?_
            refine wc_cond_false rfl ?_
            refine wc_skip ?_
            refine then_normal ?_
            refine wc_region ?_
            refine wl_y (y_move (by conv => lhs; whnf)) ?_
            refine wl_y (y_convW rfl Try.underlying3 Try.underlying39) ?_
            have hur := u64_range m
            refine wl_y (y_rem rfl rfl (by omega)) ?_
            refine wl_y (y_conv rfl Try.underlying39 Try.underlying3 (IntWalk.i64_in _ (by omega))) ?_
            refine wl_y (y_add64 rfl rfl (by omega)) ?_
            refine wl_y (y_assign (by conv => lhs; whnf)) ?_
            refine wl_nil ?_
            refine block_normal ?_
            refine then_normal ?_
            refine wc_region ?_
            refine wl_y (y_move (by conv => lhs; whnf)) ?_
            refine wl_y (y_add64 rfl rfl (by omega)) ?_
            refine wl_y (y_assign (by conv => lhs; whnf)) ?_
            refine wl_nil ?_
            refine next_round (σ := Nat × Int) (r + 1, _) rfl (by repeat first | exact out_hav | refine out_look rfl ?_ | refine out_havIn rfl ?_) ⟨rfl, rfl, trivial⟩ ⟨hm.take 1, by omega⟩ (by (try dsimp only); omega)
    · skip
      refine wc_exit ?_
      refine then_exit ?_
      refine then_exit ?_
      refine block_exit ?_
      refine then_normal ?_
      refine wc_seq ?_
      refine wc_region ?_
      refine wl_callR hm hb18 (awake_calls _) rfl rfl (fun W hm hu => ?_)
      refine wl_y (y_assign (by conv => lhs; whnf)) ?_
      refine wl_nil ?_
      refine then_normal ?_
      refine wc_ret ?_
      refine post_ret (results_fr rfl) ?_
      exact ⟨rfl, hm.upd⟩
end Go.Proofs.Ytofpdjpenmhbnaa
namespace Go.Proofs.Ytofpdjpenmhbnaa
open Go Go.Kx

set_option maxHeartbeats 4000000 in
theorem Tells_no (w : World) (vl : Value) (ps : List (Int × Int)) (hl : SlAt w 2 vl ps.length (prs ps)) (hok : ¬ NetOk ps) :
    Cl Try.prog 27 [vl].toArray w (Ret w (.tuple #[.string ⟨#[]⟩, .bool false, .int .i64 70])) := by
  have hm : Mem w [] [] w := Mem.init w
  refine cl_enter Try.func27 rfl Try.ntmps27 rfl ?_
  refine wc_seq ?_
  refine wc_region ?_
  refine wl_y (y_assign (by conv => lhs; whnf)) ?_
  refine wl_y (y_assign (by conv => lhs; whnf)) ?_
  refine wl_y (y_assign (by conv => lhs; whnf)) ?_
  refine wl_nil ?_
  refine then_normal ?_
  refine wc_seq ?_
  refine wc_region ?_
  refine wl_y (y_move (by conv => lhs; whnf)) ?_
  refine wl_callR hm hb54 (open_no _ _ _ (hl.step hm.upd) hok) rfl rfl (fun W hm hu => ?_)
  refine wl_y (y_move (by conv => lhs; whnf)) ?_
  refine wl_y (y_extract rfl rfl) ?_
  refine wl_y (y_extract rfl rfl) ?_
  refine wl_y (y_assign (by conv => lhs; whnf)) ?_
  refine wl_y (y_assign (by conv => lhs; whnf)) ?_
  refine wl_nil ?_
  refine then_normal ?_
  refine wc_seq ?_
  refine wc_seq ?_
  refine wc_region ?_
  refine wl_y (y_move (by conv => lhs; whnf)) ?_
  refine wl_y (y_neq rfl rfl) ?_
  refine wl_nil ?_
  refine then_normal ?_
  refine wc_cond_dec rfl (fun h1 => ?_) (fun h1 => ?_)
  · skip
    refine wc_seq ?_
    refine wc_region ?_
    refine wl_y (y_move (by conv => lhs; whnf)) ?_
    refine wl_y (y_assign (by conv => lhs; whnf)) ?_
    refine wl_y (y_assign (by conv => lhs; whnf)) ?_
    refine wl_y (y_assign (by conv => lhs; whnf)) ?_
    refine wl_nil ?_
    refine then_normal ?_
    refine wc_ret ?_
    refine then_ret ?_
    refine post_ret (results_fr3 rfl) ?_
    exact ⟨rfl, hm.upd⟩
  · exfalso
    omega

set_option maxHeartbeats 4000000 in
theorem Apart_no (w : World) (vl : Value) (ps : List (Int × Int)) (p q : Int) (hl : SlAt w 2 vl ps.length (prs ps)) (hok : ¬ NetOk ps) :
    Cl Try.prog 40 [vl, .int .i64 p, .int .i64 q].toArray w (Ret w (.tuple #[.string ⟨#[]⟩, .bool false, .int .i64 70])) := by
  have hm : Mem w [] [] w := Mem.init w
  refine cl_enter Try.func40 rfl Try.ntmps40 rfl ?_
  refine wc_seq ?_
  refine wc_region ?_
  refine wl_y (y_assign (by conv => lhs; whnf)) ?_
  refine wl_y (y_assign (by conv => lhs; whnf)) ?_
  refine wl_y (y_assign (by conv => lhs; whnf)) ?_
  refine wl_nil ?_
  refine then_normal ?_
  refine wc_seq ?_
  refine wc_region ?_
  refine wl_y (y_move (by conv => lhs; whnf)) ?_
  refine wl_callR hm hb54 (open_no _ _ _ (hl.step hm.upd) hok) rfl rfl (fun W hm hu => ?_)
  refine wl_y (y_move (by conv => lhs; whnf)) ?_
  refine wl_y (y_extract rfl rfl) ?_
  refine wl_y (y_extract rfl rfl) ?_
  refine wl_alloc hm ti72 (fun W b9 hm hb9 hu => ?_)
  refine wl_store1 (i := 0) hm rfl (by conv => lhs; whnf) rfl ti72 (by first | decide | simp) rfl rfl (fun W hm => ?_)
  refine wl_y (y_assign (by conv => lhs; whnf)) ?_
  refine wl_nil ?_
  refine then_normal ?_
  refine wc_seq ?_
  refine wc_seq ?_
  refine wc_region ?_
  refine wl_y (y_move (by conv => lhs; whnf)) ?_
  refine wl_y (y_neq rfl rfl) ?_
  refine wl_nil ?_
  refine then_normal ?_
  refine wc_cond_dec rfl (fun h1 => ?_) (fun h1 => ?_)
  · skip
    refine wc_seq ?_
    refine wc_region ?_
    refine wl_y (y_move (by conv => lhs; whnf)) ?_
    refine wl_y (y_assign (by conv => lhs; whnf)) ?_
    refine wl_y (y_assign (by conv => lhs; whnf)) ?_
    refine wl_y (y_assign (by conv => lhs; whnf)) ?_
    refine wl_nil ?_
    refine then_normal ?_
    refine wc_ret ?_
    refine then_ret ?_
    refine post_ret (results_fr3 rfl) ?_
    exact ⟨rfl, hm.upd⟩
  · exfalso
    omega

set_option maxHeartbeats 4000000 in
theorem SameL_no (w : World) (vl vr : Value) (ps : List (Int × Int)) (hl : SlAt w 2 vl ps.length (prs ps)) (hok : ¬ NetOk ps) :
    Cl Try.prog 43 [vl, vr].toArray w (Ret w (.tuple #[.string ⟨#[]⟩, .bool false, .int .i64 70])) := by
  have hm : Mem w [] [] w := Mem.init w
  refine cl_enter Try.func43 rfl Try.ntmps43 rfl ?_
  refine wc_seq ?_
  refine wc_region ?_
  refine wl_y (y_assign (by conv => lhs; whnf)) ?_
  refine wl_y (y_assign (by conv => lhs; whnf)) ?_
  refine wl_y (y_assign (by conv => lhs; whnf)) ?_
  refine wl_nil ?_
  refine then_normal ?_
  refine wc_seq ?_
  refine wc_region ?_
  refine wl_y (y_move (by conv => lhs; whnf)) ?_
  refine wl_callR hm hb54 (open_no _ _ _ (hl.step hm.upd) hok) rfl rfl (fun W hm hu => ?_)
  refine wl_y (y_move (by conv => lhs; whnf)) ?_
  refine wl_y (y_extract rfl rfl) ?_
  refine wl_y (y_extract rfl rfl) ?_
  refine wl_alloc hm ti72 (fun W b7 hm hb7 hu => ?_)
  refine wl_store1 (i := 0) hm rfl (by conv => lhs; whnf) rfl ti72 (by first | decide | simp) rfl rfl (fun W hm => ?_)
  refine wl_y (y_assign (by conv => lhs; whnf)) ?_
  refine wl_nil ?_
  refine then_normal ?_
  refine wc_seq ?_
  refine wc_seq ?_
  refine wc_region ?_
  refine wl_y (y_move (by conv => lhs; whnf)) ?_
  refine wl_y (y_neq rfl rfl) ?_
  refine wl_nil ?_
  refine then_normal ?_
  refine wc_cond_dec rfl (fun h1 => ?_) (fun h1 => ?_)
  · skip
    refine wc_seq ?_
    refine wc_region ?_
    refine wl_y (y_move (by conv => lhs; whnf)) ?_
    refine wl_y (y_assign (by conv => lhs; whnf)) ?_
    refine wl_y (y_assign (by conv => lhs; whnf)) ?_
    refine wl_y (y_assign (by conv => lhs; whnf)) ?_
    refine wl_nil ?_
    refine then_normal ?_
    refine wc_ret ?_
    refine then_ret ?_
    refine post_ret (results_fr3 rfl) ?_
    exact ⟨rfl, hm.upd⟩
  · exfalso
    omega

set_option maxHeartbeats 4000000 in
theorem SameR_no (w : World) (vl vr : Value) (ps qs : List (Int × Int)) (hl : SlAt w 2 vl ps.length (prs ps)) (hok : NetOk ps) (hr : SlAt w 2 vr qs.length (prs qs)) (hno : ¬ NetOk qs) :
    Cl Try.prog 43 [vl, vr].toArray w (Ret w (.tuple #[.string ⟨#[]⟩, .bool false, .int .i64 70])) := by
  have hm : Mem w [] [] w := Mem.init w
  refine cl_enter Try.func43 rfl Try.ntmps43 rfl ?_
  refine wc_seq ?_
  refine wc_region ?_
  refine wl_y (y_assign (by conv => lhs; whnf)) ?_
  refine wl_y (y_assign (by conv => lhs; whnf)) ?_
  refine wl_y (y_assign (by conv => lhs; whnf)) ?_
  refine wl_nil ?_
  refine then_normal ?_
  refine wc_seq ?_
  refine wc_region ?_
  refine wl_y (y_move (by conv => lhs; whnf)) ?_
  refine wl_callM hm hb54 (open_yes _ _ ps (hl.step hm.upd) hok) rfl rfl (fun W v14 E hm hu hE => ?_)
  obtain ⟨bn, nx, rfl, rfl, hnet⟩ := hE
  have ho := hnet.okf
  have hk5 := ho.k5
  refine wl_y (y_move (by conv => lhs; whnf)) ?_
  refine wl_y (y_extract rfl rfl) ?_
  refine wl_y (y_extract rfl rfl) ?_
  refine wl_alloc hm ti72 (fun W b7 hm hb7 hu => ?_)
  refine wl_store1 (i := 1) hm rfl (by conv => lhs; whnf) rfl ti72 (by first | decide | simp) rfl rfl (fun W hm => ?_)
  refine wl_y (y_assign (by conv => lhs; whnf)) ?_
  refine wl_nil ?_
  refine then_normal ?_
  refine wc_seq ?_
  refine wc_seq ?_
  refine wc_region ?_
  refine wl_y (y_move (by conv => lhs; whnf)) ?_
  refine wl_y (y_neq rfl rfl) ?_
  refine wl_nil ?_
  refine then_normal ?_
  refine wc_cond_dec rfl (fun h1 => ?_) (fun h1 => ?_)
  · exact absurd rfl h1
  · skip
    refine wc_skip ?_
    refine then_normal ?_
    refine wc_seq ?_
    refine wc_region ?_
    refine wl_y (y_move (by conv => lhs; whnf)) ?_
    refine wl_callR hm hb54 (open_no _ _ _ (hr.step hm.upd) hno) rfl rfl (fun W hm hu => ?_)
    refine wl_y (y_move (by conv => lhs; whnf)) ?_
    refine wl_y (y_extract rfl rfl) ?_
    refine wl_y (y_extract rfl rfl) ?_
    refine wl_alloc hm ti72 (fun W b9 hm hb9 hu => ?_)
    refine wl_store1 (i := 2) hm rfl (by conv => lhs; whnf) rfl ti72 (by first | decide | simp) rfl rfl (fun W hm => ?_)
    refine wl_y (y_assign (by conv => lhs; whnf)) ?_
    refine wl_nil ?_
    refine then_normal ?_
    refine wc_seq ?_
    refine wc_seq ?_
    refine wc_region ?_
    refine wl_y (y_move (by conv => lhs; whnf)) ?_
    refine wl_y (y_neq rfl rfl) ?_
    refine wl_nil ?_
    refine then_normal ?_
    refine wc_cond_dec rfl (fun h2 => ?_) (fun h2 => ?_)
    · skip
      refine wc_seq ?_
      refine wc_region ?_
      refine wl_y (y_move (by conv => lhs; whnf)) ?_
      refine wl_y (y_assign (by conv => lhs; whnf)) ?_
      refine wl_y (y_assign (by conv => lhs; whnf)) ?_
      refine wl_y (y_assign (by conv => lhs; whnf)) ?_
      refine wl_nil ?_
      refine then_normal ?_
      refine wc_ret ?_
      refine then_ret ?_
      refine post_ret (results_fr3 rfl) ?_
      exact ⟨rfl, hm.upd⟩
    · exfalso
      omega

theorem prs_take : ∀ (ps : List (Int × Int)) (m : Nat), (prs ps).take (m * 2) = prs (ps.take m)
  | _, 0 => by simp [prs]
  | [], m + 1 => by simp [prs]
  | p :: ps, m + 1 => by
    have ih := prs_take ps m
    rw [show (m + 1) * 2 = m * 2 + 2 by omega, List.take_succ_cons]
    show Value.int .i64 p.1 :: Value.int .i64 p.2 :: (prs ps).take (m * 2) = _
    rw [ih]; rfl
theorem prs_take7 (ps : List (Int × Int)) : (prs ps).take (min ps.length 7 * 2) = prs (ps.take 7) := by
  rw [prs_take]
  rcases Nat.le_total ps.length 7 with h | h
  · rw [Nat.min_eq_left h, List.take_of_length_le (Nat.le_refl _), List.take_of_length_le h]
  · rw [Nat.min_eq_right h]

set_option maxHeartbeats 4000000 in
theorem few_calls (w : World) (vl : Value) (ps : List (Int × Int)) (hl : SlAt w 2 vl ps.length (prs ps)) :
    Cl Try.prog 50 [vl].toArray w (fun e w' => ∃ v E, e = .returned v ∧ Mem w [] E w' ∧ E = [.own 27 2 v (ps.take 7).length (prs (ps.take 7))]) := by
  have hl0 := hl
  obtain ⟨_, a, cap, rfl, hcap, _⟩ := hl0
  have hm : Mem w [] [] w := Mem.init w
  refine cl_enter Try.func50 rfl Try.ntmps50 rfl ?_
  refine wc_seq ?_
  refine wc_region ?_
  refine wl_y (y_assign (by conv => lhs; whnf)) ?_
  refine wl_nil ?_
  refine then_normal ?_
  refine wc_seq ?_
  refine wc_region ?_
  refine wl_y (y_assign (by conv => lhs; whnf)) ?_
  have hm := hm.ownNil 27 2
  refine wl_nil ?_
  refine then_normal ?_
  refine wc_seq ?_
  refine wc_region ?_
  refine wl_y (y_move (by conv => lhs; whnf)) ?_
  refine wl_y (y_move (by conv => lhs; whnf)) ?_
  refine wl_y (y_move (by conv => lhs; whnf)) ?_
  refine wl_y (y_lenSl (by conv => lhs; whnf) (hl.step hm.upd) Try.underlying22) ?_
  refine wl_y (y_min rfl rfl) ?_
  have h7 : (min (ps.length : Int) 7).toNat = min ps.length 7 := by omega
  refine wl_y (y_sliceSlH rfl rfl (by omega) Try.underlying22 ti27) ?_
  have hsc : SlAt w 2 (.slice a (min (ps.length : Int) 7).toNat cap) (min ps.length 7) (prs (ps.take 7)) := by rw [h7, ← prs_take7]; exact hl.cut (by omega)
  refine wl_appendTo (i := 0) hm rfl rfl rfl hsc (List.nil_append _) Try.underlying22 ti27 rfl (by decide) (prs_one _) (by omega) (fun W v10 hm hv10 => ?_)
  refine wl_y (y_assign (by conv => lhs; whnf)) ?_
  refine wl_nil ?_
  refine then_normal ?_
  refine wc_ret ?_
  refine post_ret (results_fr rfl) ?_
  refine ⟨_, _, rfl, hm, ?_⟩
  rw [List.length_take, Nat.min_comm, Nat.zero_add]; rfl
end Go.Proofs.Ytofpdjpenmhbnaa
