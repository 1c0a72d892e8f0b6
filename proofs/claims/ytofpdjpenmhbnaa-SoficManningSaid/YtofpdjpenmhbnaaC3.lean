import Derived.Test.YtofpdjpenmhbnaaC2
set_option linter.unusedVariables false
set_option linter.unusedSimpArgs false
set_option linter.unusedSectionVars false
namespace Go.Proofs.Ytofpdjpenmhbnaa
open Go Go.Kx
theorem hb17 : HasBody Try.prog 17 := hasBody Try.func17 (by kernel_rfl) (by kernel_rfl)
theorem hb27 : HasBody Try.prog 27 := hasBody Try.func27 (by kernel_rfl) (by kernel_rfl)
theorem hb40 : HasBody Try.prog 40 := hasBody Try.func40 (by kernel_rfl) (by kernel_rfl)
theorem hb43 : HasBody Try.prog 43 := hasBody Try.func43 (by kernel_rfl) (by kernel_rfl)
theorem hb50 : HasBody Try.prog 50 := hasBody Try.func50 (by kernel_rfl) (by kernel_rfl)
theorem hb51 : HasBody Try.prog 51 := hasBody Try.func51 (by kernel_rfl) (by kernel_rfl)
theorem hb52 : HasBody Try.prog 52 := hasBody Try.func52 (by kernel_rfl) (by kernel_rfl)
theorem few_callsQ (w : World) (vl : Value) (ps qs : List (Int × Int)) (hl : SlAt w 2 vl ps.length (prs ps)) (hq : ps.take 7 = qs) :
    Cl Try.prog 50 [vl].toArray w (fun e w' => ∃ v E, e = .returned v ∧ Mem w [] E w' ∧ E = [.own 27 2 v qs.length (prs qs)]) := by
  subst hq; exact few_calls w vl ps hl
theorem rCheck_no (w : World) (vl : Value) (ps : List (Int × Int)) (hl : SlAt w 2 vl ps.length (prs ps)) (hok : ¬ NetOk ps) : Cl Try.prog 49 [vl].toArray w (Ret w (.bool false)) := by
  have h := rCheck_calls w vl ps hl
  rwa [netB_no hok] at h
theorem rCheck_yes (w : World) (vl : Value) (ps : List (Int × Int)) (hl : SlAt w 2 vl ps.length (prs ps)) (hok : NetOk ps) : Cl Try.prog 49 [vl].toArray w (Ret w (.bool true)) := by
  have h := rCheck_calls w vl ps hl
  rwa [netB_yes hok] at h
theorem Is_no (w : World) (vl : Value) (ps : List (Int × Int)) (s : ByteArray) (hl : SlAt w 2 vl ps.length (prs ps)) (hok : ¬ NetOk ps) : Cl Try.prog 33 [vl, .string s].toArray w (Ret w (.tuple #[.bool false, .int .i64 70])) := by
  have h := Is_calls w vl ps s hl
  rwa [show isV ps s = (false, 70) by simp [isV, endsV, hok]] at h
theorem Is_nil (w : World) (vl : Value) (ps : List (Int × Int)) (hl : SlAt w 2 vl ps.length (prs ps)) (hok : NetOk ps) : Cl Try.prog 33 [vl, .string ⟨#[]⟩].toArray w (Ret w (.tuple #[.bool true, .int .i64 0])) := by
  have h := Is_calls w vl ps ⟨#[]⟩ hl
  have hp : 2 ≤ 2 ^ ps.length := Nat.pow_le_pow_right (n := 2) (by decide) hok.1.1
  have e : endsV ps ⟨#[]⟩ = (((2 ^ ps.length - 1 : Nat) : Int), 0) := by
    unfold endsV
    rw [if_pos hok, if_pos (by decide)]; rfl
  have e2 : isV ps ⟨#[]⟩ = (true, 0) := by
    unfold isV
    rw [e]
    show (decide (¬ ((2 ^ ps.length - 1 : Nat) : Int) = 0), (0 : Int)) = (true, 0)
    rw [decide_eq_true (by omega)]
  rwa [e2] at h
theorem netOk_evenP : NetOk [(0, 1), (-1, 0)] := by decide +kernel

set_option maxHeartbeats 4000000 in
theorem soficChecks_no (w : World) (vl : Value) (ps qs : List (Int × Int)) (s : ByteArray) (hl : SlAt w 2 vl ps.length (prs ps)) (hq : ps.take 7 = qs) (hok : ¬ NetOk qs) :
    Cl Try.prog 13 [vl, .string s].toArray w (Ret w (.bool true)) := by
  have hm : Mem w [] [] w := Mem.init w
  refine cl_enter Try.func13 rfl Try.ntmps13 rfl ?_
  refine wc_seq ?_
  refine wc_region ?_
  refine wl_y (y_assign (by conv => lhs; whnf)) ?_
  refine wl_nil ?_
  refine then_normal ?_
  refine wc_seq ?_
  refine wc_region ?_
  refine wl_y (y_move (by conv => lhs; whnf)) ?_
  refine wl_callM hm hb50 (few_callsQ _ _ ps qs (hl.step hm.upd) hq) rfl rfl (fun W v47 E hm hu hE => ?_)
  obtain rfl := hE
  refine wl_y (y_assign (by conv => lhs; whnf)) ?_
  refine wl_nil ?_
  refine then_normal ?_
  refine wc_seq ?_
  refine wc_region ?_
  refine wl_y (y_assign (by conv => lhs; whnf)) ?_
  refine wl_nil ?_
  refine then_normal ?_
  refine wc_seq ?_
  refine wc_seq ?_
  refine wc_region ?_
  refine wl_y (y_move (by conv => lhs; whnf)) ?_
  refine wl_callR (v := .bool false) hm hb49 (rCheck_no W _ qs (hm.slAt 0 rfl) hok) rfl rfl (fun W hm hu => ?_)
  refine wl_y (y_not rfl) ?_
  refine wl_nil ?_
  refine then_normal ?_
  refine wc_cond_true rfl ?_
  refine wc_region ?_
  refine wl_y (y_assign (by conv => lhs; whnf)) ?_
  refine wl_nil ?_
  refine then_normal ?_
  refine wc_seq ?_
  refine wc_seq ?_
  refine wc_region ?_
  refine wl_y (y_move (by conv => lhs; whnf)) ?_
  refine wl_callR hm hb51 (Check_no _ _ qs (hm.slAt 0 rfl) hok) rfl rfl (fun W hm hu => ?_)
  refine wl_y (y_move (by conv => lhs; whnf)) ?_
  refine wl_y (y_neq rfl rfl) ?_
  refine wl_nil ?_
  refine then_normal ?_
  refine wc_cond_dec rfl (fun h1 => ?_) (fun h1 => ?_)
  · exact absurd rfl h1
  · skip
    refine wc_skip ?_
    refine then_normal ?_
    refine wc_seq ?_
    refine wc_region ?_
    refine wl_y (y_move (by conv => lhs; whnf)) ?_
    refine wl_callR hm hb33 (Is_no _ _ qs _ (hm.slAt 0 rfl) hok) rfl rfl (fun W hm hu => ?_)
    refine wl_y (y_move (by conv => lhs; whnf)) ?_
    refine wl_y (y_extract rfl rfl) ?_
    refine wl_y (y_extract rfl rfl) ?_
    refine wl_y (y_assign (by conv => lhs; whnf)) ?_
    refine wl_y (y_assign (by conv => lhs; whnf)) ?_
    refine wl_nil ?_
    refine then_normal ?_
    refine wc_seq ?_
    refine wc_region ?_
    refine wl_y (y_move (by conv => lhs; whnf)) ?_
    refine wl_callR hm hb52 (Hangs_no _ _ qs (hm.slAt 0 rfl) hok) rfl rfl (fun W hm hu => ?_)
    refine wl_y (y_move (by conv => lhs; whnf)) ?_
    refine wl_y (y_extract rfl rfl) ?_
    refine wl_y (y_extract rfl rfl) ?_
    refine wl_y (y_assign (by conv => lhs; whnf)) ?_
    refine wl_y (y_assign (by conv => lhs; whnf)) ?_
    refine wl_nil ?_
    refine then_normal ?_
    refine wc_seq ?_
    refine wc_region ?_
    refine wl_y (y_move (by conv => lhs; whnf)) ?_
    refine wl_callM hm hb36 (Equal_no _ _ qs (hm.slAt 0 rfl) hok) rfl rfl (fun W v67 E hm hu hE => ?_)
    obtain ⟨vs67, rfl, rfl⟩ := hE
    refine wl_y (y_move (by conv => lhs; whnf)) ?_
    refine wl_y (y_extract rfl rfl) ?_
    refine wl_y (y_extract rfl rfl) ?_
    refine wl_y (y_assign (by conv => lhs; whnf)) ?_
    refine wl_y (y_assign (by conv => lhs; whnf)) ?_
    refine wl_nil ?_
    refine then_normal ?_
    refine wc_seq ?_
    refine wc_seq ?_
    refine wc_region ?_
    refine wl_y (y_move (by conv => lhs; whnf)) ?_
    refine wl_y (y_eql rfl rfl) ?_
    refine wl_nil ?_
    refine then_normal ?_
    refine wc_cond_dec rfl (fun h2 => ?_) (fun h2 => ?_)
    · exact absurd h2 (by decide)
    · skip
      refine wc_skip ?_
      refine then_normal ?_
      refine wc_seq ?_
      refine wc_region ?_
      refine wl_y (y_move (by conv => lhs; whnf)) ?_
      refine wl_y (y_move (by conv => lhs; whnf)) ?_
      refine wl_callR hm hb34 (Ends_no _ _ qs s (hm.slAt 0 rfl) hok) rfl rfl (fun W hm hu => ?_)
      refine wl_y (y_move (by conv => lhs; whnf)) ?_
      refine wl_y (y_extract rfl rfl) ?_
      refine wl_y (y_extract rfl rfl) ?_
      refine wl_y (y_assign (by conv => lhs; whnf)) ?_
      refine wl_y (y_assign (by conv => lhs; whnf)) ?_
      refine wl_nil ?_
      refine then_normal ?_
      refine wc_seq ?_
      refine wc_region ?_
      refine wl_y (y_move (by conv => lhs; whnf)) ?_
      refine wl_callR hm hb44 (Count_no _ _ qs _ (hm.slAt 0 rfl) hok) rfl rfl (fun W hm hu => ?_)
      refine wl_y (y_move (by conv => lhs; whnf)) ?_
      refine wl_y (y_extract rfl rfl) ?_
      refine wl_y (y_extract rfl rfl) ?_
      refine wl_y (y_assign (by conv => lhs; whnf)) ?_
      refine wl_y (y_assign (by conv => lhs; whnf)) ?_
      refine wl_nil ?_
      refine then_normal ?_
      refine wc_seq ?_
      refine wc_region ?_
      refine wl_y (y_move (by conv => lhs; whnf)) ?_
      refine wl_call hb45 (Words_no _ _ qs _ (hm.slAt 0 rfl) hok) rfl rfl (fun e W h => ?_)
      obtain ⟨v107, rfl, hv107⟩ := h
      refine ⟨_, rfl, ?_⟩
      have hm := hm.call hv107
      refine wl_y (y_move (by conv => lhs; whnf)) ?_
      refine wl_y (y_extract rfl rfl) ?_
      refine wl_y (y_extract rfl rfl) ?_
      refine wl_y (y_assign (by conv => lhs; whnf)) ?_
      refine wl_y (y_assign (by conv => lhs; whnf)) ?_
      refine wl_nil ?_
      refine then_normal ?_
      refine wc_seq ?_
      refine wc_region ?_
      refine wl_y (y_move (by conv => lhs; whnf)) ?_
      refine wl_callM hm hb31 (Form_no _ _ qs (hm.slAt 0 rfl) hok) rfl rfl (fun W v112 E hm hu hE => ?_)
      obtain ⟨vs112, rfl, rfl⟩ := hE
      refine wl_y (y_move (by conv => lhs; whnf)) ?_
      refine wl_y (y_extract rfl rfl) ?_
      refine wl_y (y_extract rfl rfl) ?_
      refine wl_y (y_assign (by conv => lhs; whnf)) ?_
      refine wl_y (y_assign (by conv => lhs; whnf)) ?_
      refine wl_nil ?_
      refine then_normal ?_
      refine wc_seq ?_
      refine wc_region ?_
      refine wl_y (y_move (by conv => lhs; whnf)) ?_
      refine wl_callR hm hb40 (Apart_no _ _ qs _ _ (hm.slAt 0 rfl) hok) rfl rfl (fun W hm hu => ?_)
      refine wl_y (y_move (by conv => lhs; whnf)) ?_
      refine wl_y (y_extract rfl rfl) ?_
      refine wl_y (y_extract rfl rfl) ?_
      refine wl_y (y_extract rfl rfl) ?_
      refine wl_y (y_assign (by conv => lhs; whnf)) ?_
      refine wl_y (y_assign (by conv => lhs; whnf)) ?_
      refine wl_y (y_assign (by conv => lhs; whnf)) ?_
      refine wl_nil ?_
      refine then_normal ?_
      refine wc_seq ?_
      refine wc_region ?_
      refine wl_y (y_move (by conv => lhs; whnf)) ?_
      refine wl_callR hm hb27 (Tells_no _ _ qs (hm.slAt 0 rfl) hok) rfl rfl (fun W hm hu => ?_)
      refine wl_y (y_move (by conv => lhs; whnf)) ?_
      refine wl_y (y_extract rfl rfl) ?_
      refine wl_y (y_extract rfl rfl) ?_
      refine wl_y (y_extract rfl rfl) ?_
      refine wl_y (y_assign (by conv => lhs; whnf)) ?_
      refine wl_y (y_assign (by conv => lhs; whnf)) ?_
      refine wl_y (y_assign (by conv => lhs; whnf)) ?_
      refine wl_nil ?_
      refine then_normal ?_
      refine wc_seq ?_
      refine wc_region ?_
      refine wl_y (y_move (by conv => lhs; whnf)) ?_
      refine wl_callR hm hb15 (Memory_no _ _ qs (hm.slAt 0 rfl) hok) rfl rfl (fun W hm hu => ?_)
      refine wl_y (y_move (by conv => lhs; whnf)) ?_
      refine wl_y (y_extract rfl rfl) ?_
      refine wl_y (y_extract rfl rfl) ?_
      refine wl_y (y_extract rfl rfl) ?_
      refine wl_y (y_assign (by conv => lhs; whnf)) ?_
      refine wl_y (y_assign (by conv => lhs; whnf)) ?_
      refine wl_y (y_assign (by conv => lhs; whnf)) ?_
      refine wl_nil ?_
      refine then_normal ?_
      refine wc_seq ?_
      refine wc_region ?_
      refine wl_y (y_move (by conv => lhs; whnf)) ?_
      refine wl_callR hm hb16 (Doubt_no _ _ qs (hm.slAt 0 rfl) hok) rfl rfl (fun W hm hu => ?_)
      refine wl_y (y_move (by conv => lhs; whnf)) ?_
      refine wl_y (y_extract rfl rfl) ?_
      refine wl_y (y_extract rfl rfl) ?_
      refine wl_y (y_extract rfl rfl) ?_
      refine wl_y (y_extract rfl rfl) ?_
      refine wl_alloc hm ti27 (fun W b31 hm hb31 hu => ?_)
      refine wl_y (y_assign (by conv => lhs; whnf)) ?_
      refine wl_storeBlk (i := 4) (vs := pcells (0, 0)) hm rfl rfl rfl ti27 rfl rfl (by simp [pcells, Value.oneCell']) (fun W hm => ?_)
      refine wl_y (y_assign (by conv => lhs; whnf)) ?_
      refine wl_y (y_assign (by conv => lhs; whnf)) ?_
      refine wl_nil ?_
      refine then_normal ?_
      refine wc_seq ?_
      refine wc_region ?_
      refine wl_y (y_move (by conv => lhs; whnf)) ?_
      refine wl_call hb32 (Forbidden_no _ _ qs _ (hm.slAt 0 rfl) hok) rfl rfl (fun e W h => ?_)
      obtain ⟨v142, rfl, hv142⟩ := h
      refine ⟨_, rfl, ?_⟩
      have hm := hm.call hv142
      refine wl_y (y_move (by conv => lhs; whnf)) ?_
      refine wl_y (y_extract rfl rfl) ?_
      refine wl_y (y_extract rfl rfl) ?_
      refine wl_y (y_assign (by conv => lhs; whnf)) ?_
      refine wl_y (y_assign (by conv => lhs; whnf)) ?_
      refine wl_nil ?_
      refine then_normal ?_
      refine wc_seq ?_
      refine wc_region ?_
      refine wl_y (y_move (by conv => lhs; whnf)) ?_
      refine wl_callR hm hb23 (Rounds_no _ _ qs _ (hm.slAt 0 rfl) hok) rfl rfl (fun W hm hu => ?_)
      refine wl_y (y_move (by conv => lhs; whnf)) ?_
      refine wl_y (y_extract rfl rfl) ?_
      refine wl_y (y_extract rfl rfl) ?_
      refine wl_y (y_assign (by conv => lhs; whnf)) ?_
      refine wl_y (y_assign (by conv => lhs; whnf)) ?_
      refine wl_nil ?_
      refine then_normal ?_
      refine wc_seq ?_
      refine wc_region ?_
      refine wl_y (y_move (by conv => lhs; whnf)) ?_
      refine wl_callR hm hb24 (Signed_no _ _ qs _ (hm.slAt 0 rfl) hok) rfl rfl (fun W hm hu => ?_)
      refine wl_y (y_move (by conv => lhs; whnf)) ?_
      refine wl_y (y_extract rfl rfl) ?_
      refine wl_y (y_extract rfl rfl) ?_
      refine wl_y (y_assign (by conv => lhs; whnf)) ?_
      refine wl_y (y_assign (by conv => lhs; whnf)) ?_
      refine wl_nil ?_
      refine then_normal ?_
      refine wc_seq ?_
      refine wc_region ?_
      refine wl_y (y_move (by conv => lhs; whnf)) ?_
      refine wl_callM hm hb53 (even_calls _) rfl rfl (fun W v157 E hm hu hE => ?_)
      obtain rfl := hE
      refine wl_callR hm hb43 (SameL_no _ _ _ qs (hm.slAt 0 rfl) hok) rfl rfl (fun W hm hu => ?_)
      refine wl_y (y_move (by conv => lhs; whnf)) ?_
      refine wl_y (y_extract rfl rfl) ?_
      refine wl_y (y_extract rfl rfl) ?_
      refine wl_y (y_extract rfl rfl) ?_
      refine wl_y (y_assign (by conv => lhs; whnf)) ?_
      refine wl_y (y_assign (by conv => lhs; whnf)) ?_
      refine wl_y (y_assign (by conv => lhs; whnf)) ?_
      refine wl_nil ?_
      refine then_normal ?_
      refine wc_seq ?_
      refine wc_region ?_
      refine wl_callM hm hb53 (even_calls _) rfl rfl (fun W v163 E hm hu hE => ?_)
      obtain rfl := hE
      refine wl_y (y_move (by conv => lhs; whnf)) ?_
      refine wl_callR hm hb43 (SameR_no _ _ _ [(0, 1), (-1, 0)] qs (hm.slAt 7 rfl) netOk_evenP (hm.slAt 0 rfl) hok) rfl rfl (fun W hm hu => ?_)
      refine wl_y (y_move (by conv => lhs; whnf)) ?_
      refine wl_y (y_extract rfl rfl) ?_
      refine wl_y (y_extract rfl rfl) ?_
      refine wl_y (y_extract rfl rfl) ?_
      refine wl_y (y_assign (by conv => lhs; whnf)) ?_
      refine wl_y (y_assign (by conv => lhs; whnf)) ?_
      refine wl_y (y_assign (by conv => lhs; whnf)) ?_
      refine wl_nil ?_
      refine then_normal ?_
      refine wc_seq ?_
      refine wc_region ?_
      refine wl_y (y_move (by conv => lhs; whnf)) ?_
      refine wl_y (y_move (by conv => lhs; whnf)) ?_
      refine wl_y (v := .bool true) (y_eqT rfl rfl) ?_
      refine wl_y (y_move (by conv => lhs; whnf)) ?_
      refine wl_guard_yes rfl ?_
      refine wl_y (y_move (by conv => lhs; whnf)) ?_
      refine wl_guard_yes rfl ?_
      refine wl_y (y_move (by conv => lhs; whnf)) ?_
      refine wl_guard_yes rfl ?_
      refine wl_y (v := .bool true) (y_eqT rfl rfl) ?_
      refine wl_y (y_pick_true rfl (by conv => lhs; whnf)) ?_
      refine wl_y (y_move (by conv => lhs; whnf)) ?_
      refine wl_guard_yes rfl ?_
      refine wl_y (y_move (by conv => lhs; whnf)) ?_
      refine wl_guard_yes rfl ?_
      refine wl_y (y_move (by conv => lhs; whnf)) ?_
      refine wl_guard_yes rfl ?_
      refine wl_y (v := .bool true) (y_eqT rfl rfl) ?_
      refine wl_y (y_pick_true rfl (by conv => lhs; whnf)) ?_
      refine wl_y (y_move (by conv => lhs; whnf)) ?_
      refine wl_guard_yes rfl ?_
      refine wl_y (y_move (by conv => lhs; whnf)) ?_
      refine wl_guard_yes rfl ?_
      refine wl_y (y_move (by conv => lhs; whnf)) ?_
      refine wl_guard_yes rfl ?_
      refine wl_y (v := .bool true) (y_eqT rfl rfl) ?_
      refine wl_y (y_pick_true rfl (by conv => lhs; whnf)) ?_
      refine wl_y (y_move (by conv => lhs; whnf)) ?_
      refine wl_guard_yes rfl ?_
      refine wl_y (y_move (by conv => lhs; whnf)) ?_
      refine wl_guard_yes rfl ?_
      refine wl_y (y_move (by conv => lhs; whnf)) ?_
      refine wl_guard_yes rfl ?_
      refine wl_y (v := .bool true) (y_eqT rfl rfl) ?_
      refine wl_y (y_pick_true rfl (by conv => lhs; whnf)) ?_
      refine wl_y (y_move (by conv => lhs; whnf)) ?_
      refine wl_guard_yes rfl ?_
      refine wl_y (y_move (by conv => lhs; whnf)) ?_
      refine wl_guard_yes rfl ?_
      refine wl_y (y_move (by conv => lhs; whnf)) ?_
      refine wl_guard_yes rfl ?_
      refine wl_y (v := .bool true) (y_eqT rfl rfl) ?_
      refine wl_y (y_pick_true rfl (by conv => lhs; whnf)) ?_
      refine wl_y (y_move (by conv => lhs; whnf)) ?_
      refine wl_guard_yes rfl ?_
      refine wl_y (y_move (by conv => lhs; whnf)) ?_
      refine wl_guard_yes rfl ?_
      refine wl_y (y_move (by conv => lhs; whnf)) ?_
      refine wl_guard_yes rfl ?_
      refine wl_y (v := .bool true) (y_eqT rfl rfl) ?_
      refine wl_y (y_pick_true rfl (by conv => lhs; whnf)) ?_
      refine wl_y (y_move (by conv => lhs; whnf)) ?_
      refine wl_guard_yes rfl ?_
      refine wl_y (y_move (by conv => lhs; whnf)) ?_
      refine wl_guard_yes rfl ?_
      refine wl_y (y_move (by conv => lhs; whnf)) ?_
      refine wl_guard_yes rfl ?_
      refine wl_y (v := .bool true) (y_eqT rfl rfl) ?_
      refine wl_y (y_pick_true rfl (by conv => lhs; whnf)) ?_
      refine wl_y (y_move (by conv => lhs; whnf)) ?_
      refine wl_guard_yes rfl ?_
      refine wl_y (y_move (by conv => lhs; whnf)) ?_
      refine wl_guard_yes rfl ?_
      refine wl_y (y_move (by conv => lhs; whnf)) ?_
      refine wl_guard_yes rfl ?_
      refine wl_y (v := .bool true) (y_eqT rfl rfl) ?_
      refine wl_y (y_pick_true rfl (by conv => lhs; whnf)) ?_
      refine wl_y (y_move (by conv => lhs; whnf)) ?_
      refine wl_guard_yes rfl ?_
      refine wl_y (y_move (by conv => lhs; whnf)) ?_
      refine wl_guard_yes rfl ?_
      refine wl_y (y_move (by conv => lhs; whnf)) ?_
      refine wl_guard_yes rfl ?_
      refine wl_y (v := .bool true) (y_eqT rfl rfl) ?_
      refine wl_y (y_pick_true rfl (by conv => lhs; whnf)) ?_
      refine wl_y (y_move (by conv => lhs; whnf)) ?_
      refine wl_guard_yes rfl ?_
      refine wl_y (y_move (by conv => lhs; whnf)) ?_
      refine wl_guard_yes rfl ?_
      refine wl_y (y_move (by conv => lhs; whnf)) ?_
      refine wl_guard_yes rfl ?_
      refine wl_y (v := .bool true) (y_eqT rfl rfl) ?_
      refine wl_y (y_pick_true rfl (by conv => lhs; whnf)) ?_
      refine wl_y (y_move (by conv => lhs; whnf)) ?_
      refine wl_guard_yes rfl ?_
      refine wl_y (y_move (by conv => lhs; whnf)) ?_
      refine wl_guard_yes rfl ?_
      refine wl_y (y_move (by conv => lhs; whnf)) ?_
      refine wl_guard_yes rfl ?_
      refine wl_y (v := .bool true) (y_eqT rfl rfl) ?_
      refine wl_y (y_pick_true rfl (by conv => lhs; whnf)) ?_
      refine wl_y (y_move (by conv => lhs; whnf)) ?_
      refine wl_guard_yes rfl ?_
      refine wl_y (y_move (by conv => lhs; whnf)) ?_
      refine wl_guard_yes rfl ?_
      refine wl_y (y_move (by conv => lhs; whnf)) ?_
      refine wl_guard_yes rfl ?_
      refine wl_y (v := .bool true) (y_eqT rfl rfl) ?_
      refine wl_y (y_pick_true rfl (by conv => lhs; whnf)) ?_
      refine wl_y (y_move (by conv => lhs; whnf)) ?_
      refine wl_guard_yes rfl ?_
      refine wl_y (y_move (by conv => lhs; whnf)) ?_
      refine wl_guard_yes rfl ?_
      refine wl_y (y_move (by conv => lhs; whnf)) ?_
      refine wl_guard_yes rfl ?_
      refine wl_y (v := .bool true) (y_eqT rfl rfl) ?_
      refine wl_y (y_pick_true rfl (by conv => lhs; whnf)) ?_
      refine wl_y (y_move (by conv => lhs; whnf)) ?_
      refine wl_guard_yes rfl ?_
      refine wl_y (y_move (by conv => lhs; whnf)) ?_
      refine wl_guard_yes rfl ?_
      refine wl_y (y_move (by conv => lhs; whnf)) ?_
      refine wl_guard_yes rfl ?_
      refine wl_y (v := .bool true) (y_eqT rfl rfl) ?_
      refine wl_y (y_pick_true rfl (by conv => lhs; whnf)) ?_
      refine wl_y (y_move (by conv => lhs; whnf)) ?_
      refine wl_guard_yes rfl ?_
      refine wl_y (y_move (by conv => lhs; whnf)) ?_
      refine wl_guard_yes rfl ?_
      refine wl_y (y_move (by conv => lhs; whnf)) ?_
      refine wl_guard_yes rfl ?_
      refine wl_y (v := .bool true) (y_eqT rfl rfl) ?_
      refine wl_y (y_pick_true rfl (by conv => lhs; whnf)) ?_
      refine wl_y (y_move (by conv => lhs; whnf)) ?_
      refine wl_guard_yes rfl ?_
      refine wl_y (y_move (by conv => lhs; whnf)) ?_
      refine wl_guard_yes rfl ?_
      refine wl_y (v := .bool true) (y_not (p := false) rfl) ?_
      refine wl_y (y_pick_true rfl (by conv => lhs; whnf)) ?_
      refine wl_y (y_move (by conv => lhs; whnf)) ?_
      refine wl_guard_yes rfl ?_
      refine wl_y (y_move (by conv => lhs; whnf)) ?_
      refine wl_guard_yes rfl ?_
      refine wl_y (v := .bool true) (y_not (p := false) rfl) ?_
      refine wl_y (y_pick_true rfl (by conv => lhs; whnf)) ?_
      refine wl_y (y_move (by conv => lhs; whnf)) ?_
      refine wl_guard_yes rfl ?_
      refine wl_y (y_move (by conv => lhs; whnf)) ?_
      refine wl_guard_yes rfl ?_
      refine wl_y (v := .bool true) (y_not (p := false) rfl) ?_
      refine wl_y (y_pick_true rfl (by conv => lhs; whnf)) ?_
      refine wl_y (y_move (by conv => lhs; whnf)) ?_
      refine wl_guard_yes rfl ?_
      refine wl_y (y_move (by conv => lhs; whnf)) ?_
      refine wl_guard_yes rfl ?_
      refine wl_y (v := .bool true) (y_not (p := false) rfl) ?_
      refine wl_y (y_pick_true rfl (by conv => lhs; whnf)) ?_
      refine wl_y (y_move (by conv => lhs; whnf)) ?_
      refine wl_guard_yes rfl ?_
      refine wl_y (y_move (by conv => lhs; whnf)) ?_
      refine wl_guard_yes rfl ?_
      refine wl_y (v := .bool true) (y_not (p := false) rfl) ?_
      refine wl_y (y_pick_true rfl (by conv => lhs; whnf)) ?_
      refine wl_y (y_move (by conv => lhs; whnf)) ?_
      refine wl_guard_yes rfl ?_
      refine wl_y (y_move (by conv => lhs; whnf)) ?_
      refine wl_guard_yes rfl ?_
      refine wl_y (v := .bool true) (y_not (p := false) rfl) ?_
      refine wl_y (y_pick_true rfl (by conv => lhs; whnf)) ?_
      refine wl_y (y_move (by conv => lhs; whnf)) ?_
      refine wl_guard_yes rfl ?_
      refine wl_y (y_move (by conv => lhs; whnf)) ?_
      refine wl_guard_yes rfl ?_
      refine wl_y (v := .bool true) (y_not (p := false) rfl) ?_
      refine wl_y (y_pick_true rfl (by conv => lhs; whnf)) ?_
      refine wl_y (y_move (by conv => lhs; whnf)) ?_
      refine wl_guard_yes rfl ?_
      refine wl_y (y_move (by conv => lhs; whnf)) ?_
      refine wl_guard_yes rfl ?_
      refine wl_y (v := .bool true) (y_not (p := false) rfl) ?_
      refine wl_y (y_pick_true rfl (by conv => lhs; whnf)) ?_
      refine wl_y (y_move (by conv => lhs; whnf)) ?_
      refine wl_guard_yes rfl ?_
      refine wl_y (y_loadBlk (xs := pcells (0, 0)) rfl (hm.at (i := 4) rfl) Try.underlying27 rfl ti27) ?_
      refine wl_guard_yes rfl ?_
      refine wl_y (y_buildL (cells := #[.int .i64 0, .int .i64 0]) rfl (by kernel_rfl)) ?_
      refine wl_guard_yes rfl ?_
      refine wl_y (v := .bool true) (y_eqlPair (a := 0) (c := 0) (a' := 0) (c' := 0) rfl rfl (by kernel_rfl) Try.underlying27 ti3 Try.underlying3) ?_
      refine wl_y (y_pick_true rfl (by conv => lhs; whnf)) ?_
      refine wl_y (y_move (by conv => lhs; whnf)) ?_
      refine wl_guard_yes rfl ?_
      refine wl_y (y_move (by conv => lhs; whnf)) ?_
      refine wl_guard_yes rfl ?_
      refine wl_y (y_move (by conv => lhs; whnf)) ?_
      refine wl_guard_yes rfl ?_
      refine wl_y (y_add64 rfl rfl (by omega)) ?_
      refine wl_guard_yes rfl ?_
      refine wl_y (y_move (by conv => lhs; whnf)) ?_
      refine wl_guard_yes rfl ?_
      refine wl_y (y_add64 rfl rfl (by omega)) ?_
      refine wl_guard_yes rfl ?_
      refine wl_y (y_move (by conv => lhs; whnf)) ?_
      refine wl_guard_yes rfl ?_
      refine wl_y (y_add64 rfl rfl (by omega)) ?_
      refine wl_guard_yes rfl ?_
      refine wl_y (y_move (by conv => lhs; whnf)) ?_
      refine wl_guard_yes rfl ?_
      refine wl_y (y_add64 rfl rfl (by omega)) ?_
      refine wl_guard_yes rfl ?_
      refine wl_y (y_move (by conv => lhs; whnf)) ?_
      refine wl_guard_yes rfl ?_
      refine wl_y (v := .int .i64 0) (y_lenSl (m := 0) rfl (hm.slAt 1 rfl) Try.underlying55) ?_
      refine wl_guard_yes rfl ?_
      refine wl_y (y_add64 rfl rfl (by omega)) ?_
      refine wl_guard_yes rfl ?_
      refine wl_y (y_move (by conv => lhs; whnf)) ?_
      refine wl_guard_yes rfl ?_
      refine wl_y (v := .int .i64 0) (y_lenSl (m := 0) rfl (hm.slAt 2 rfl) Try.underlying47) ?_
      refine wl_guard_yes rfl ?_
      refine wl_y (y_add64 rfl rfl (by omega)) ?_
      refine wl_guard_yes rfl ?_
      refine wl_y (y_move (by conv => lhs; whnf)) ?_
      refine wl_guard_yes rfl ?_
      refine wl_y (v := .int .i64 0) (y_lenSl (m := 0) rfl (hm.slAt 3 rfl) Try.underlying22) ?_
      refine wl_guard_yes rfl ?_
      refine wl_y (y_add64 rfl rfl (by omega)) ?_
      refine wl_guard_yes rfl ?_
      refine wl_y (y_move (by conv => lhs; whnf)) ?_
      refine wl_guard_yes rfl ?_
      refine wl_y (v := .int .i64 0) (y_lenStr (s := ⟨#[]⟩) rfl Try.underlying9) ?_
      refine wl_guard_yes rfl ?_
      refine wl_y (y_add64 rfl rfl (by omega)) ?_
      refine wl_guard_yes rfl ?_
      refine wl_y (y_move (by conv => lhs; whnf)) ?_
      refine wl_guard_yes rfl ?_
      refine wl_y (v := .int .i64 0) (y_lenStr (s := ⟨#[]⟩) rfl Try.underlying9) ?_
      refine wl_guard_yes rfl ?_
      refine wl_y (y_add64 rfl rfl (by omega)) ?_
      refine wl_guard_yes rfl ?_
      refine wl_y (y_move (by conv => lhs; whnf)) ?_
      refine wl_guard_yes rfl ?_
      refine wl_y (v := .int .i64 0) (y_lenStr (s := ⟨#[]⟩) rfl Try.underlying9) ?_
      refine wl_guard_yes rfl ?_
      refine wl_y (y_add64 rfl rfl (by omega)) ?_
      refine wl_guard_yes rfl ?_
      refine wl_y (y_move (by conv => lhs; whnf)) ?_
      refine wl_guard_yes rfl ?_
      refine wl_y (v := .int .i64 0) (y_lenSl (m := 0) rfl (hm.slAt 5 rfl) Try.underlying47) ?_
      refine wl_guard_yes rfl ?_
      refine wl_y (y_add64 rfl rfl (by omega)) ?_
      refine wl_guard_yes rfl ?_
      refine wl_y (y_move (by conv => lhs; whnf)) ?_
      refine wl_guard_yes rfl ?_
      refine wl_y (v := .int .i64 0) (y_lenStr (s := ⟨#[]⟩) rfl Try.underlying9) ?_
      refine wl_guard_yes rfl ?_
      refine wl_y (y_add64 rfl rfl (by omega)) ?_
      refine wl_guard_yes rfl ?_
      refine wl_y (y_move (by conv => lhs; whnf)) ?_
      refine wl_guard_yes rfl ?_
      refine wl_y (v := .int .i64 0) (y_lenStr (s := ⟨#[]⟩) rfl Try.underlying9) ?_
      refine wl_guard_yes rfl ?_
      refine wl_y (y_add64 rfl rfl (by omega)) ?_
      refine wl_guard_yes rfl ?_
      refine wl_y (v := .bool true) (y_eqT rfl rfl) ?_
      refine wl_y (y_pick_true rfl (by conv => lhs; whnf)) ?_
      refine wl_y (y_move (by conv => lhs; whnf)) ?_
      refine wl_guard_yes rfl ?_
      refine wl_callR (v := .bool true) hm hb18 (awake_calls W) rfl rfl (fun W hm hu => ?_)
      refine wl_y (y_pick_true rfl (by conv => lhs; whnf)) ?_
      refine wl_y (y_assign (by conv => lhs; whnf)) ?_
      refine wl_nil ?_
      refine then_normal ?_
      refine wc_ret ?_
      refine post_ret (results_fr rfl) ?_
      exact ⟨rfl, hm.upd⟩

theorem y_eqBT {P : Program} {ρ : Operand → Value} {T t t' : TypeId} {W : World} {x y : Operand} {p : Bool} (hx : ρ x = .bool p) (hy : ρ y = .bool p) (ht : P.underlying t = some .bool) : Y P ρ (.binOp .eql t x y t') T (.bool true) W := by
  have h := y_eqlB (P := P) (T := T) (W := W) (t := t) (t' := t') hx hy ht
  rwa [decide_eq_true rfl] at h

set_option maxHeartbeats 4000000 in
theorem soficChecks_yes (w : World) (vl : Value) (ps qs : List (Int × Int)) (s : ByteArray) (hl : SlAt w 2 vl ps.length (prs ps)) (hq : ps.take 7 = qs) (hok : NetOk qs) :
    Cl Try.prog 13 [vl, .string s].toArray w (Ret w (.bool true)) := by
  have hm : Mem w [] [] w := Mem.init w
  refine cl_enter Try.func13 rfl Try.ntmps13 rfl ?_
  refine wc_seq ?_
  refine wc_region ?_
  refine wl_y (y_assign (by conv => lhs; whnf)) ?_
  refine wl_nil ?_
  refine then_normal ?_
  refine wc_seq ?_
  refine wc_region ?_
  refine wl_y (y_move (by conv => lhs; whnf)) ?_
  refine wl_callM hm hb50 (few_callsQ _ _ ps qs (hl.step hm.upd) hq) rfl rfl (fun W v47 E hm hu hE => ?_)
  obtain rfl := hE
  refine wl_y (y_assign (by conv => lhs; whnf)) ?_
  refine wl_nil ?_
  refine then_normal ?_
  refine wc_seq ?_
  refine wc_region ?_
  refine wl_y (y_assign (by conv => lhs; whnf)) ?_
  refine wl_nil ?_
  refine then_normal ?_
  refine wc_seq ?_
  refine wc_seq ?_
  refine wc_region ?_
  refine wl_y (y_move (by conv => lhs; whnf)) ?_
  refine wl_callR (v := .bool true) hm hb49 (rCheck_yes W _ qs (hm.slAt 0 rfl) hok) rfl rfl (fun W hm hu => ?_)
  refine wl_y (y_not rfl) ?_
  refine wl_nil ?_
  refine then_normal ?_
  refine wc_cond_false rfl ?_
  refine wc_skip ?_
  refine then_normal ?_
  refine wc_seq ?_
  refine wc_seq ?_
  refine wc_region ?_
  refine wl_y (y_move (by conv => lhs; whnf)) ?_
  refine wl_callR hm hb51 (Check_yes _ _ qs (hm.slAt 0 rfl) hok) rfl rfl (fun W hm hu => ?_)
  refine wl_y (y_move (by conv => lhs; whnf)) ?_
  refine wl_y (y_neq rfl rfl) ?_
  refine wl_nil ?_
  refine then_normal ?_
  refine wc_cond_dec rfl (fun h1 => ?_) (fun h1 => ?_)
  · exact absurd rfl h1
  · skip
    refine wc_skip ?_
    refine then_normal ?_
    refine wc_seq ?_
    refine wc_region ?_
    refine wl_y (y_move (by conv => lhs; whnf)) ?_
    refine wl_callR hm hb33 (Is_nil _ _ qs (hm.slAt 0 rfl) hok) rfl rfl (fun W hm hu => ?_)
    refine wl_y (y_move (by conv => lhs; whnf)) ?_
    refine wl_y (y_extract rfl rfl) ?_
    refine wl_y (y_extract rfl rfl) ?_
    refine wl_y (y_assign (by conv => lhs; whnf)) ?_
    refine wl_y (y_assign (by conv => lhs; whnf)) ?_
    refine wl_nil ?_
    refine then_normal ?_
    refine wc_seq ?_
    refine wc_region ?_
    refine wl_y (y_move (by conv => lhs; whnf)) ?_
    refine wl_callR hm hb52 (Hangs_yes _ _ qs (hm.slAt 0 rfl) hok) rfl rfl (fun W hm hu => ?_)
    refine wl_y (y_move (by conv => lhs; whnf)) ?_
    refine wl_y (y_extract rfl rfl) ?_
    refine wl_y (y_extract rfl rfl) ?_
    refine wl_y (y_assign (by conv => lhs; whnf)) ?_
    refine wl_y (y_assign (by conv => lhs; whnf)) ?_
    refine wl_nil ?_
    refine then_normal ?_
    refine wc_seq ?_
    refine wc_region ?_
    refine wl_y (y_move (by conv => lhs; whnf)) ?_
    refine wl_callM hm hb36 (Equal_yes _ _ qs (hm.slAt 0 rfl) hok) rfl rfl (fun W v67 E hm hu hE => ?_)
    obtain ⟨vs67, rfl, rfl⟩ := hE
    refine wl_y (y_move (by conv => lhs; whnf)) ?_
    refine wl_y (y_extract rfl rfl) ?_
    refine wl_y (y_extract rfl rfl) ?_
    refine wl_y (y_assign (by conv => lhs; whnf)) ?_
    refine wl_y (y_assign (by conv => lhs; whnf)) ?_
    refine wl_nil ?_
    refine then_normal ?_
    refine wc_seq ?_
    refine wc_seq ?_
    refine wc_region ?_
    refine wl_y (y_move (by conv => lhs; whnf)) ?_
    refine wl_y (y_eql rfl rfl) ?_
    refine wl_nil ?_
    refine then_normal ?_
    refine wc_cond_dec rfl (fun h2 => ?_) (fun h2 => ?_)
    · skip
      refine wc_seq ?_
      refine wc_region ?_
      refine wl_y (y_move (by conv => lhs; whnf)) ?_
      refine wl_y (v := .bool true) (y_eqT rfl rfl) ?_
      refine wl_y (y_move (by conv => lhs; whnf)) ?_
      refine wl_guard_yes rfl ?_
      refine wl_y (v := .bool true) (y_move rfl) ?_
      refine wl_y (y_pick_true rfl (by conv => lhs; whnf)) ?_
      refine wl_y (y_move (by conv => lhs; whnf)) ?_
      refine wl_guard_yes rfl ?_
      refine wl_y (y_move (by conv => lhs; whnf)) ?_
      refine wl_guard_yes rfl ?_
      refine wl_y (v := .bool true) (y_eqT rfl rfl) ?_
      refine wl_y (y_pick_true rfl (by conv => lhs; whnf)) ?_
      refine wl_y (y_move (by conv => lhs; whnf)) ?_
      refine wl_guard_yes rfl ?_
      refine wl_y (y_move (by conv => lhs; whnf)) ?_
      refine wl_guard_yes rfl ?_
      refine wl_y (y_move (by conv => lhs; whnf)) ?_
      refine wl_guard_yes rfl ?_
      refine wl_callR hm hb17 (rHangs_calls _ _ qs (hm.slAt 0 rfl) hok.okf) rfl rfl (fun W hm hu => ?_)
      refine wl_guard_yes rfl ?_
      refine wl_y (v := .bool true) (y_eqBT rfl rfl Try.underlying4) ?_
      refine wl_y (y_pick_true rfl (by conv => lhs; whnf)) ?_
      refine wl_y (y_move (by conv => lhs; whnf)) ?_
      refine wl_guard_yes rfl ?_
      refine wl_y (y_move (by conv => lhs; whnf)) ?_
      refine wl_guard_yes rfl ?_
      refine wl_y (v := .bool true) (y_eqT rfl rfl) ?_
      refine wl_y (y_pick_true rfl (by conv => lhs; whnf)) ?_
      refine wl_y (y_move (by conv => lhs; whnf)) ?_
      refine wl_guard_yes rfl ?_
      refine wl_callR (v := .bool true) hm hb18 (awake_calls W) rfl rfl (fun W hm hu => ?_)
      refine wl_y (y_pick_true rfl (by conv => lhs; whnf)) ?_
      refine wl_y (y_assign (by conv => lhs; whnf)) ?_
      refine wl_nil ?_
      refine then_normal ?_
      refine wc_ret ?_
      refine then_ret ?_
      refine post_ret (results_fr rfl) ?_
      exact ⟨rfl, hm.upd⟩
    · exact absurd rfl h2

theorem soficChecks_calls (w : World) (vl : Value) (ps : List (Int × Int)) (s : ByteArray) (hl : SlAt w 2 vl ps.length (prs ps)) :
    Cl Try.prog 13 [vl, .string s].toArray w (Ret w (.bool true)) := by
  by_cases hok : NetOk (ps.take 7)
  · exact soficChecks_yes w vl ps _ s hl rfl hok
  · exact soficChecks_no w vl ps _ s hl rfl hok
end Go.Proofs.Ytofpdjpenmhbnaa
namespace Go.Proofs.Ytofpdjpenmhbnaa
open Go Go.Kx

set_option maxHeartbeats 4000000 in
theorem soficManning_calls (w : World) (vl : Value) (ps : List (Int × Int)) (m0 : Int) (j : Bool) (hl : SlAt w 2 vl ps.length (prs ps)) (hwf : (Lit.int .i64 m0).wf = true) :
    Cl Try.prog 12 [vl, .int .i64 m0, .bool j].toArray w (Ret w (.bool true)) := by
  have hm : Mem w [] [] w := Mem.init w
  refine cl_enter Try.func12 rfl Try.ntmps12 rfl ?_
  refine wc_seq ?_
  refine wc_region ?_
  refine wl_y (y_assign (by conv => lhs; whnf)) ?_
  refine wl_nil ?_
  refine then_normal ?_
  refine wc_seq ?_
  refine wc_region ?_
  refine wl_y (y_move (by conv => lhs; whnf)) ?_
  refine wl_y (y_move (by conv => lhs; whnf)) ?_
  refine wl_callM hm hb14 (tame_calls _ _ ps j (hl.step hm.upd)) rfl rfl (fun W v30 E hm hu hE => ?_)
  obtain ⟨qs, hTqs, rfl⟩ := hE
  have hokqs := hTqs.1
  have hl1qs := hokqs.1
  refine wl_y (y_assign (by conv => lhs; whnf)) ?_
  refine wl_nil ?_
  refine then_normal ?_
  refine wc_seq ?_
  refine wc_region ?_
  refine wl_y (y_move (by conv => lhs; whnf)) ?_
  refine wl_y (y_convW rfl Try.underlying3 Try.underlying39) ?_
  have hur := u64_range m0
  refine wl_y (y_rem rfl rfl (by omega)) ?_
  refine wl_y (y_conv rfl Try.underlying39 Try.underlying3 (IntWalk.i64_in _ (by omega))) ?_
  obtain ⟨mn, hmn, hm18⟩ : ∃ mn : Nat, 1 + IntKind.u64.wrap m0 % 8 = (mn : Int) ∧ 1 ≤ mn ∧ mn ≤ 8 := ⟨(1 + IntKind.u64.wrap m0 % 8).toNat, by omega, by omega, by omega⟩
  refine wl_y (v := .int .i64 (mn : Int)) (by rw [← hmn]; exact y_add64 rfl rfl (by omega)) ?_
  refine wl_y (y_assign (by conv => lhs; whnf)) ?_
  refine wl_nil ?_
  refine then_normal ?_
  refine wc_seq ?_
  refine wc_region ?_
  refine wl_y (y_move (by conv => lhs; whnf)) ?_
  refine wl_y (y_move (by conv => lhs; whnf)) ?_
  refine wl_callR hm hb23 (Rounds_calls _ _ qs mn (hm.slAt 0 rfl)) rfl rfl (fun W hm hu => ?_)
  refine wl_y (y_move (by conv => lhs; whnf)) ?_
  refine wl_y (y_extract rfl rfl) ?_
  refine wl_y (y_extract rfl rfl) ?_
  refine wl_y (y_assign (by conv => lhs; whnf)) ?_
  refine wl_y (y_assign (by conv => lhs; whnf)) ?_
  refine wl_nil ?_
  refine then_normal ?_
  refine wc_seq ?_
  refine wc_region ?_
  refine wl_y (y_move (by conv => lhs; whnf)) ?_
  refine wl_y (y_move (by conv => lhs; whnf)) ?_
  refine wl_callR hm hb24 (Signed_calls _ _ qs mn (hm.slAt 0 rfl)) rfl rfl (fun W hm hu => ?_)
  refine wl_y (y_move (by conv => lhs; whnf)) ?_
  refine wl_y (y_extract rfl rfl) ?_
  refine wl_y (y_extract rfl rfl) ?_
  refine wl_y (y_assign (by conv => lhs; whnf)) ?_
  refine wl_y (y_assign (by conv => lhs; whnf)) ?_
  refine wl_nil ?_
  refine then_normal ?_
  refine wc_seq ?_
  refine wc_region ?_
  refine wl_y (y_move (by conv => lhs; whnf)) ?_
  refine wl_callM hm hb31 (Form_yes _ _ qs (hm.slAt 0 rfl) hokqs) rfl rfl (fun W v50 E hm hu hE => ?_)
  obtain ⟨vs50, rfl, rfl⟩ := hE
  refine wl_y (y_move (by conv => lhs; whnf)) ?_
  refine wl_y (y_extract rfl rfl) ?_
  refine wl_y (y_extract rfl rfl) ?_
  refine wl_y (y_assign (by conv => lhs; whnf)) ?_
  refine wl_y (y_assign (by conv => lhs; whnf)) ?_
  refine wl_nil ?_
  refine then_normal ?_
  refine wc_seq ?_
  refine wc_seq ?_
  refine wc_region ?_
  have hman := manning hokqs (m := mn) (by omega)
  have hrf := rounds_form hokqs (m := mn) (by omega)
  have hri := rounds_in hokqs (m := mn) (by omega)
  have hsi := signed_in hokqs (m := mn) (by omega)
  have hwi := words_in hokqs (m := mn) (by omega)
  have hci := count_in hokqs (m := mn) (by omega)
  have hfi := forb_in hokqs (m := mn) (by omega)
  rw [Int.toNat_natCast] at hri hwi hci hfi
  have hr1 : (roundsV qs mn).1 = (rRoundsF (tabR qs) qs.length mn : Nat) := by rw [hri]
  have hc1 : (countV qs mn).1 = ((rWordsF (tabR qs) qs.length mn).length : Nat) := by rw [hci]
  have hrw := rounds_words (tabR qs) qs.length mn
  have hwl := rWordsF_len (tabR qs) qs.length mn
  have hp12 := pow12 (n := mn) (by omega)
  have hfl2 := rForbF_len (tabR qs) qs.length mn
  refine wl_y (y_move (by conv => lhs; whnf)) ?_
  refine wl_y (y_neq rfl rfl) ?_
  refine wl_split rfl (fun h1 => ?_) (fun h1 => ?_)
  · exact absurd (by rw [hri]) h1
  · skip
    refine wl_guard_yes rfl ?_
    refine wl_y (y_move (by conv => lhs; whnf)) ?_
    refine wl_guard_yes rfl ?_
    refine wl_y (y_neq rfl rfl) ?_
    refine wl_y (y_pick_false rfl (by conv => lhs; whnf)) ?_
    refine wl_split rfl (fun h2 => ?_) (fun h2 => ?_)
    · exact absurd (by rw [hsi]) h2
    · skip
      refine wl_guard_yes rfl ?_
      refine wl_y (y_move (by conv => lhs; whnf)) ?_
      refine wl_guard_yes rfl ?_
      refine wl_y (y_neq rfl rfl) ?_
      refine wl_y (y_pick_false rfl (by conv => lhs; whnf)) ?_
      refine wl_split rfl (fun h3 => ?_) (fun h3 => ?_)
      · exact absurd rfl h3
      · skip
        refine wl_guard_yes rfl ?_
        refine wl_y (y_move (by conv => lhs; whnf)) ?_
        refine wl_guard_yes rfl ?_
        refine wl_y (y_move (by conv => lhs; whnf)) ?_
        refine wl_guard_yes rfl ?_
        refine wl_y (y_neq rfl rfl) ?_
        refine wl_y (y_pick_false rfl (by conv => lhs; whnf)) ?_
        refine wl_split rfl (fun h4 => ?_) (fun h4 => ?_)
        · exact absurd hman.symm h4
        · skip
          refine wl_guard_yes rfl ?_
          refine wl_y (y_move (by conv => lhs; whnf)) ?_
          refine wl_guard_yes rfl ?_
          refine wl_callR (v := .bool true) hm hb49 (rCheck_yes W _ (formLV qs) (hm.slAt 1 rfl) (formLV_net hokqs)) rfl rfl (fun W hm hu => ?_)
          refine wl_guard_yes rfl ?_
          refine wl_y (y_not rfl) ?_
          refine wl_y (y_pick_false rfl (by conv => lhs; whnf)) ?_
          refine wl_nil ?_
          refine then_normal ?_
          refine wc_cond_false rfl ?_
          refine wc_skip ?_
          refine then_normal ?_
          refine wc_seq ?_
          refine wc_region ?_
          refine wl_y (y_move (by conv => lhs; whnf)) ?_
          refine wl_y (y_move (by conv => lhs; whnf)) ?_
          refine wl_callR hm hb23 (Rounds_calls _ _ (formLV qs) mn (hm.slAt 1 rfl)) rfl rfl (fun W hm hu => ?_)
          refine wl_y (y_move (by conv => lhs; whnf)) ?_
          refine wl_y (y_extract rfl rfl) ?_
          refine wl_y (y_extract rfl rfl) ?_
          refine wl_y (y_assign (by conv => lhs; whnf)) ?_
          refine wl_y (y_assign (by conv => lhs; whnf)) ?_
          refine wl_nil ?_
          refine then_normal ?_
          refine wc_seq ?_
          refine wc_region ?_
          refine wl_y (y_move (by conv => lhs; whnf)) ?_
          refine wl_y (y_move (by conv => lhs; whnf)) ?_
          refine wl_call hb45 (Words_calls _ _ qs mn (hm.slAt 0 rfl)) rfl rfl (fun e W h => ?_)
          obtain ⟨v82, rfl, hv82⟩ := h
          refine ⟨_, rfl, ?_⟩
          have hm := hm.call hv82
          refine wl_y (y_move (by conv => lhs; whnf)) ?_
          refine wl_y (y_extract rfl rfl) ?_
          refine wl_y (y_extract rfl rfl) ?_
          refine wl_y (y_assign (by conv => lhs; whnf)) ?_
          refine wl_y (y_assign (by conv => lhs; whnf)) ?_
          refine wl_nil ?_
          refine then_normal ?_
          refine wc_seq ?_
          refine wc_region ?_
          refine wl_y (y_move (by conv => lhs; whnf)) ?_
          refine wl_y (y_move (by conv => lhs; whnf)) ?_
          refine wl_callR hm hb44 (Count_calls _ _ qs mn (hm.slAt 0 rfl)) rfl rfl (fun W hm hu => ?_)
          refine wl_y (y_move (by conv => lhs; whnf)) ?_
          refine wl_y (y_extract rfl rfl) ?_
          refine wl_y (y_extract rfl rfl) ?_
          refine wl_y (y_assign (by conv => lhs; whnf)) ?_
          refine wl_y (y_assign (by conv => lhs; whnf)) ?_
          refine wl_nil ?_
          refine then_normal ?_
          refine wc_seq ?_
          refine wc_region ?_
          refine wl_y (y_move (by conv => lhs; whnf)) ?_
          refine wl_y (y_move (by conv => lhs; whnf)) ?_
          refine wl_call hb32 (Forbidden_calls _ _ qs mn (hm.slAt 0 rfl)) rfl rfl (fun e W h => ?_)
          obtain ⟨v94, rfl, hv94⟩ := h
          refine ⟨_, rfl, ?_⟩
          have hm := hm.call hv94
          refine wl_y (y_move (by conv => lhs; whnf)) ?_
          refine wl_y (y_extract rfl rfl) ?_
          refine wl_y (y_extract rfl rfl) ?_
          refine wl_y (y_assign (by conv => lhs; whnf)) ?_
          refine wl_y (y_assign (by conv => lhs; whnf)) ?_
          refine wl_nil ?_
          refine then_normal ?_
          refine wc_seq ?_
          refine wc_seq ?_
          refine wc_region ?_
          refine wl_y (y_move (by conv => lhs; whnf)) ?_
          refine wl_y (y_neq rfl rfl) ?_
          refine wl_split rfl (fun h5 => ?_) (fun h5 => ?_)
          · exact absurd (by rw [hrf, hri]) h5
          · skip
            refine wl_guard_yes rfl ?_
            refine wl_y (y_move (by conv => lhs; whnf)) ?_
            refine wl_guard_yes rfl ?_
            refine wl_y (y_neq rfl rfl) ?_
            refine wl_y (y_pick_false rfl (by conv => lhs; whnf)) ?_
            refine wl_split rfl (fun h6 => ?_) (fun h6 => ?_)
            · exact absurd (by rw [hwi]) h6
            · skip
              refine wl_guard_yes rfl ?_
              refine wl_y (y_move (by conv => lhs; whnf)) ?_
              refine wl_guard_yes rfl ?_
              refine wl_y (y_neq rfl rfl) ?_
              refine wl_y (y_pick_false rfl (by conv => lhs; whnf)) ?_
              refine wl_split rfl (fun h7 => ?_) (fun h7 => ?_)
              · exact absurd (by rw [hci]) h7
              · skip
                refine wl_guard_yes rfl ?_
                refine wl_y (y_move (by conv => lhs; whnf)) ?_
                refine wl_guard_yes rfl ?_
                refine wl_y (y_neq rfl rfl) ?_
                refine wl_y (y_pick_false rfl (by conv => lhs; whnf)) ?_
                refine wl_split rfl (fun h8 => ?_) (fun h8 => ?_)
                · exact absurd (by rw [hfi]) h8
                · skip
                  refine wl_guard_yes rfl ?_
                  refine wl_y (y_move (by conv => lhs; whnf)) ?_
                  refine wl_guard_yes rfl ?_
                  refine wl_y (y_move (by conv => lhs; whnf)) ?_
                  refine wl_guard_yes rfl ?_
                  refine wl_y (y_neq rfl rfl) ?_
                  refine wl_y (y_pick_false rfl (by conv => lhs; whnf)) ?_
                  refine wl_split rfl (fun h9 => ?_) (fun h9 => ?_)
                  · exact absurd (by rw [hrf]) h9
                  · skip
                    refine wl_guard_yes rfl ?_
                    refine wl_y (y_move (by conv => lhs; whnf)) ?_
                    refine wl_guard_yes rfl ?_
                    refine wl_y (y_lenSl rfl (hm.slAt 2 rfl) Try.underlying47) ?_
                    refine wl_guard_yes rfl ?_
                    refine wl_y (y_move (by conv => lhs; whnf)) ?_
                    refine wl_guard_yes rfl ?_
                    refine wl_y (y_neq rfl rfl) ?_
                    refine wl_y (y_pick_false rfl (by conv => lhs; whnf)) ?_
                    refine wl_split rfl (fun h10 => ?_) (fun h10 => ?_)
                    · exact absurd (by rw [hwi, hci]) h10
                    · skip
                      refine wl_guard_yes rfl ?_
                      refine wl_y (y_move (by conv => lhs; whnf)) ?_
                      refine wl_guard_yes rfl ?_
                      refine wl_y (y_move (by conv => lhs; whnf)) ?_
                      refine wl_guard_yes rfl ?_
                      refine wl_y (y_bitN rfl rfl (by omega)) ?_
                      refine wl_guard_yes rfl ?_
                      refine wl_y (y_gtr rfl rfl) ?_
                      refine wl_y (y_pick_false rfl (by conv => lhs; whnf)) ?_
                      refine wl_split rfl (fun h11 => ?_) (fun h11 => ?_)
                      · exact absurd h11 (by omega)
                      · skip
                        refine wl_guard_yes rfl ?_
                        refine wl_y (y_move (by conv => lhs; whnf)) ?_
                        refine wl_guard_yes rfl ?_
                        refine wl_y (y_move (by conv => lhs; whnf)) ?_
                        refine wl_guard_yes rfl ?_
                        refine wl_y (y_gtr rfl rfl) ?_
                        refine wl_y (y_pick_false rfl (by conv => lhs; whnf)) ?_
                        refine wl_nil ?_
                        refine then_normal ?_
                        refine wc_cond_dec rfl (fun h12 => ?_) (fun h12 => ?_)
                        · exact absurd h12 (by omega)
                        · skip
                          refine wc_skip ?_
                          refine then_normal ?_
                          refine wc_seq ?_
                          refine wc_seq ?_
                          refine wc_region ?_
                          refine wl_y (y_assign (by conv => lhs; whnf)) ?_
                          refine wl_nil ?_
                          refine then_normal ?_
                          refine wc_block ?_
                          rw [hwi, hfi] at hm
                          have hm : Mem w [] [.own 27 2 v30 qs.length (prs qs), .own 27 2 vs50 (formLV qs).length (prs (formLV qs)), .own 9 1 v82 (rWordsF (tabR qs) qs.length mn).length (strs (rWordsF (tabR qs) qs.length mn)), .own 9 1 v94 (rForbF (tabR qs) qs.length mn).length (strs (rForbF (tabR qs) qs.length mn))] W := hm
                          refine wc_loop [6, 22, 23, 24, 133, 134, 135, 136, 137, 138, 139, 140, 141, 142, 143, 144, 145, 146, 147, 148, 149, 150, 151, 152, 153] (fun (q : Nat) => [(22, .int .i64 (q : Int))]) (fun (q : Nat) W => Mem w [] [.own 27 2 v30 qs.length (prs qs), .own 27 2 vs50 (formLV qs).length (prs (formLV qs)), .own 9 1 v82 (rWordsF (tabR qs) qs.length mn).length (strs (rWordsF (tabR qs) qs.length mn)), .own 9 1 v94 (rForbF (tabR qs) qs.length mn).length (strs (rForbF (tabR qs) qs.length mn))] W ∧ q ≤ (rWordsF (tabR qs) qs.length mn).length) (fun (q : Nat) => (rWordsF (tabR qs) qs.length mn).length - q) ((0) : Nat) ?_ ?_ ?_
                          · exact ⟨rfl, trivial⟩
                          · exact ⟨hm, Nat.zero_le _⟩
                          · rintro q u W ⟨hm, hq⟩
                            refine wc_seq ?_
                            refine wc_seq ?_
                            refine wc_region ?_
                            refine wl_y (y_move (by conv => lhs; whnf)) ?_
                            refine wl_y (y_move (by conv => lhs; whnf)) ?_
                            refine wl_y (y_lenSl (by conv => lhs; whnf) (hm.slAt 2 rfl) Try.underlying47) ?_
                            refine wl_y (y_lss rfl rfl) ?_
                            refine wl_nil ?_
                            refine then_normal ?_
                            refine wc_cond_dec rfl (fun h13 => ?_) (fun h13 => ?_)
                            · have hisw := is_word hokqs (n := mn) (q := q) (by omega) (by omega)
                              refine wc_skip ?_
                              refine then_normal ?_
                              refine wc_seq ?_
                              refine wc_block ?_
                              refine wc_seq ?_
                              refine wc_region ?_
                              refine wl_y (y_move (by conv => lhs; whnf)) ?_
                              refine wl_y (y_move (by conv => lhs; whnf)) ?_
                              refine wl_y (y_move (by conv => lhs; whnf)) ?_
                              refine wl_y (y_indexAddr (by conv => lhs; whnf) rfl (hm.slAt 2 rfl) (by omega) Try.underlying47 ti9 (by decide)) ?_
                              refine wl_y (y_loadSl rfl (hm.slAt 2 rfl) (by first | exact strs_atN (by omega) | exact strs_atI (by omega)) Try.underlying9 rfl) ?_
                              refine wl_callR hm hb33 (Is_calls _ _ qs _ (hm.slAt 0 rfl)) rfl rfl (fun W hm hu => ?_)
                              refine wl_y (y_move (by conv => lhs; whnf)) ?_
                              refine wl_y (y_extract rfl rfl) ?_
                              refine wl_y (y_extract rfl rfl) ?_
                              refine wl_y (y_assign (by conv => lhs; whnf)) ?_
                              refine wl_y (y_assign (by conv => lhs; whnf)) ?_
                              refine wl_nil ?_
                              refine then_normal ?_
                              refine wc_seq ?_
                              refine wc_region ?_
                              refine wl_y (y_move (by conv => lhs; whnf)) ?_
                              refine wl_y (y_neq rfl rfl) ?_
                              refine wl_split rfl (fun h14 => ?_) (fun h14 => ?_)
                              · exact absurd (by rw [hisw]) h14
                              · skip
                                refine wl_guard_yes rfl ?_
                                refine wl_y (y_move (by conv => lhs; whnf)) ?_
                                refine wl_guard_yes rfl ?_
                                refine wl_y (y_not rfl) ?_
                                refine wl_y (y_pick_false rfl (by conv => lhs; whnf)) ?_
                                refine wl_nil ?_
                                refine then_normal ?_
                                refine wc_cond rfl (fun h15 => ?_) (fun h15 => ?_)
                                · exact absurd h15 (by rw [hisw]; decide)
                                · skip
                                  refine wc_skip ?_
                                  refine block_normal ?_
                                  refine then_normal ?_
                                  refine wc_region ?_
                                  refine wl_y (y_move (by conv => lhs; whnf)) ?_
                                  refine wl_y (y_add64 rfl rfl (by omega)) ?_
                                  refine wl_y (y_assign (by conv => lhs; whnf)) ?_
                                  refine wl_nil ?_
                                  refine next_round (σ := Nat) (q + 1) rfl (by repeat first | exact out_hav | refine out_look rfl ?_ | refine out_havIn rfl ?_) ⟨rfl, trivial⟩ ⟨hm, by omega⟩ (by (try dsimp only); omega)
                            · obtain rfl : q = (rWordsF (tabR qs) qs.length mn).length := by omega
                              refine wc_exit ?_
                              refine then_exit ?_
                              refine then_exit ?_
                              refine block_exit ?_
                              refine then_normal ?_
                              refine wc_seq ?_
                              refine wc_seq ?_
                              refine wc_region ?_
                              refine wl_y (y_assign (by conv => lhs; whnf)) ?_
                              refine wl_nil ?_
                              refine then_normal ?_
                              refine wc_block ?_
                              refine wc_loop [6, 25, 26, 27, 154, 155, 156, 157, 158, 159, 160, 161, 162, 163, 164, 165, 166, 167, 168, 169, 170, 171, 172, 173, 174, 175, 176, 177] (fun (q : Nat) => [(25, .int .i64 (q : Int))]) (fun (q : Nat) W => Mem w [] [.own 27 2 v30 qs.length (prs qs), .own 27 2 vs50 (formLV qs).length (prs (formLV qs)), .own 9 1 v82 (rWordsF (tabR qs) qs.length mn).length (strs (rWordsF (tabR qs) qs.length mn)), .own 9 1 v94 (rForbF (tabR qs) qs.length mn).length (strs (rForbF (tabR qs) qs.length mn))] W ∧ q ≤ (rForbF (tabR qs) qs.length mn).length) (fun (q : Nat) => (rForbF (tabR qs) qs.length mn).length - q) ((0) : Nat) ?_ ?_ ?_
                              · exact ⟨rfl, trivial⟩
                              · exact ⟨hm, Nat.zero_le _⟩
                              · rintro q u W ⟨hm, hq⟩
                                refine wc_seq ?_
                                refine wc_seq ?_
                                refine wc_region ?_
                                refine wl_y (y_move (by conv => lhs; whnf)) ?_
                                refine wl_y (y_move (by conv => lhs; whnf)) ?_
                                refine wl_y (y_lenSl (by conv => lhs; whnf) (hm.slAt 3 rfl) Try.underlying47) ?_
                                refine wl_y (y_lss rfl rfl) ?_
                                refine wl_split rfl (fun h16 => ?_) (fun h16 => ?_)
                                · skip
                                  refine wl_guard_yes rfl ?_
                                  refine wl_y (y_move (by conv => lhs; whnf)) ?_
                                  refine wl_guard_yes rfl ?_
                                  refine wl_y (y_lss rfl rfl) ?_
                                  refine wl_y (y_pick_true rfl (by conv => lhs; whnf)) ?_
                                  refine wl_nil ?_
                                  refine then_normal ?_
                                  refine wc_cond_dec rfl (fun h17 => ?_) (fun h17 => ?_)
                                  · have hisf := is_forb hokqs (n := mn) (q := q) (by omega) (by omega)
                                    refine wc_skip ?_
                                    refine then_normal ?_
                                    refine wc_seq ?_
                                    refine wc_block ?_
                                    refine wc_seq ?_
                                    refine wc_region ?_
                                    refine wl_y (y_move (by conv => lhs; whnf)) ?_
                                    refine wl_y (y_move (by conv => lhs; whnf)) ?_
                                    refine wl_y (y_move (by conv => lhs; whnf)) ?_
                                    refine wl_y (y_indexAddr (by conv => lhs; whnf) rfl (hm.slAt 3 rfl) (by omega) Try.underlying47 ti9 (by decide)) ?_
                                    refine wl_y (y_loadSl rfl (hm.slAt 3 rfl) (by first | exact strs_atN (by omega) | exact strs_atI (by omega)) Try.underlying9 rfl) ?_
                                    refine wl_callR hm hb33 (Is_calls _ _ qs _ (hm.slAt 0 rfl)) rfl rfl (fun W hm hu => ?_)
                                    refine wl_y (y_move (by conv => lhs; whnf)) ?_
                                    refine wl_y (y_extract rfl rfl) ?_
                                    refine wl_y (y_extract rfl rfl) ?_
                                    refine wl_y (y_assign (by conv => lhs; whnf)) ?_
                                    refine wl_y (y_assign (by conv => lhs; whnf)) ?_
                                    refine wl_nil ?_
                                    refine then_normal ?_
                                    refine wc_seq ?_
                                    refine wc_region ?_
                                    refine wl_y (y_move (by conv => lhs; whnf)) ?_
                                    refine wl_y (y_neq rfl rfl) ?_
                                    refine wl_split rfl (fun h18 => ?_) (fun h18 => ?_)
                                    · exact absurd (by rw [hisf]) h18
                                    · skip
                                      refine wl_guard_yes rfl ?_
                                      refine wl_y (y_move (by conv => lhs; whnf)) ?_
                                      refine wl_y (y_pick_false rfl (by conv => lhs; whnf)) ?_
                                      refine wl_nil ?_
                                      refine then_normal ?_
                                      refine wc_cond rfl (fun h19 => ?_) (fun h19 => ?_)
                                      · exact absurd h19 (by rw [hisf]; decide)
                                      · skip
                                        refine wc_skip ?_
                                        refine block_normal ?_
                                        refine then_normal ?_
                                        refine wc_region ?_
                                        refine wl_y (y_move (by conv => lhs; whnf)) ?_
                                        refine wl_y (y_add64 rfl rfl (by omega)) ?_
                                        refine wl_y (y_assign (by conv => lhs; whnf)) ?_
                                        refine wl_nil ?_
                                        refine next_round (σ := Nat) (q + 1) rfl (by repeat first | exact out_hav | refine out_look rfl ?_ | refine out_havIn rfl ?_) ⟨rfl, trivial⟩ ⟨hm, by omega⟩ (by (try dsimp only); omega)
                                  · skip
                                    refine wc_exit ?_
                                    refine then_exit ?_
                                    refine then_exit ?_
                                    refine block_exit ?_
                                    refine then_normal ?_
                                    refine wc_seq ?_
                                    refine wc_region ?_
                                    refine wl_callR hm hb18 (awake_calls _) rfl rfl (fun W hm hu => ?_)
                                    refine wl_y (y_assign (by conv => lhs; whnf)) ?_
                                    refine wl_nil ?_
                                    refine then_normal ?_
                                    refine wc_ret ?_
                                    refine post_ret (results_fr rfl) ?_
                                    exact ⟨rfl, hm.upd⟩
                                · skip
                                  refine wl_guard_no rfl ?_
                                  refine wl_guard_no rfl ?_
                                  refine wl_y (y_pick_false rfl (by conv => lhs; whnf)) ?_
                                  refine wl_nil ?_
                                  refine then_normal ?_
                                  refine wc_cond_false rfl ?_
                                  refine wc_exit ?_
                                  refine then_exit ?_
                                  refine then_exit ?_
                                  refine block_exit ?_
                                  refine then_normal ?_
                                  refine wc_seq ?_
                                  refine wc_region ?_
                                  refine wl_callR hm hb18 (awake_calls _) rfl rfl (fun W hm hu => ?_)
                                  refine wl_y (y_assign (by conv => lhs; whnf)) ?_
                                  refine wl_nil ?_
                                  refine then_normal ?_
                                  refine wc_ret ?_
                                  refine post_ret (results_fr rfl) ?_
                                  exact ⟨rfl, hm.upd⟩
end Go.Proofs.Ytofpdjpenmhbnaa
