import Derived.Test.YtofpdjpenmhbnaaC2
set_option linter.unusedVariables false
set_option linter.unusedSimpArgs false
set_option linter.unusedSectionVars false
namespace Go.Proofs.Ytofpdjpenmhbnaa
open Go Go.Kx
theorem hb17 : HasBody Try.prog 17 := hasBody Try.func17 (by kernel_rfl) (by kernel_rfl)
theorem hb27 : HasBody Try.prog 27 := hasBody Try.func27 (by kernel_rfl) (by kernel_rfl)
theorem hb40 : HasBody Try.prog 40 := hasBody Try.func40 (by kernel_rfl) (by kernel_rfl)
theorem hb43 : HasBody Try.prog 43 := hasBody Try.func43 (by kernel_rfl) (by kernel_rfl)
theorem hb50 : HasBody Try.prog 50 := hasBody Try.func50 (by kernel_rfl) (by kernel_rfl)
theorem hb51 : HasBody Try.prog 51 := hasBody Try.func51 (by kernel_rfl) (by kernel_rfl)
theorem hb52 : HasBody Try.prog 52 := hasBody Try.func52 (by kernel_rfl) (by kernel_rfl)
theorem few_callsQ (w : World) (vl : Value) (ps qs : List (Int × Int)) (hl : SlAt w 2 vl ps.length (prs ps)) (hq : ps.take 7 = qs) :
    Cl Try.prog 50 [vl].toArray w (fun e w' => ∃ v E, e = .returned v ∧ Mem w [] E w' ∧ E = [.own 27 2 v qs.length (prs qs)]) := by
  subst hq; exact few_calls w vl ps hl
theorem rCheck_no (w : World) (vl : Value) (ps : List (Int × Int)) (hl : SlAt w 2 vl ps.length (prs ps)) (hok : ¬ NetOk ps) : Cl Try.prog 49 [vl].toArray w (Ret w (.bool false)) := by
  have h := rCheck_calls w vl ps hl
  rwa [netB_no hok] at h
theorem rCheck_yes (w : World) (vl : Value) (ps : List (Int × Int)) (hl : SlAt w 2 vl ps.length (prs ps)) (hok : NetOk ps) : Cl Try.prog 49 [vl].toArray w (Ret w (.bool true)) := by
  have h := rCheck_calls w vl ps hl
  rwa [netB_yes hok] at h
theorem Is_no (w : World) (vl : Value) (ps : List (Int × Int)) (s : ByteArray) (hl : SlAt w 2 vl ps.length (prs ps)) (hok : ¬ NetOk ps) : Cl Try.prog 33 [vl, .string s].toArray w (Ret w (.tuple #[.bool false, .int .i64 70])) := by
  have h := Is_calls w vl ps s hl
  rwa [show isV ps s = (false, 70) by simp [isV, endsV, hok]] at h
theorem Is_nil (w : World) (vl : Value) (ps : List (Int × Int)) (hl : SlAt w 2 vl ps.length (prs ps)) (hok : NetOk ps) : Cl Try.prog 33 [vl, .string ⟨#[]⟩].toArray w (Ret w (.tuple #[.bool true, .int .i64 0])) := by
  have h := Is_calls w vl ps ⟨#[]⟩ hl
  have hp : 2 ≤ 2 ^ ps.length := Nat.pow_le_pow_right (n := 2) (by decide) hok.1.1
  have e : endsV ps ⟨#[]⟩ = (((2 ^ ps.length - 1 : Nat) : Int), 0) := by
    unfold endsV
    rw [if_pos hok, if_pos (by decide)]; rfl
  have e2 : isV ps ⟨#[]⟩ = (true, 0) := by
    unfold isV
    rw [e]
    show (decide (¬ ((2 ^ ps.length - 1 : Nat) : Int) = 0), (0 : Int)) = (true, 0)
    rw [decide_eq_true (by omega)]
  rwa [e2] at h
theorem netOk_evenP : NetOk [(0, 1), (-1, 0)] := by decide +kernel

set_option maxHeartbeats 4000000 in
theorem soficChecks_no (w : World) (vl : Value) (ps qs : List (Int × Int)) (s : ByteArray) (hl : SlAt w 2 vl ps.length (prs ps)) (hq : ps.take 7 = qs) (hok : ¬ NetOk qs) :
    Cl Try.prog 13 [vl, .string s].toArray w (Ret w (.bool true)) := by
  have hm : Mem w [] [] w := Mem.init w
  refine cl_enter Try.func13 rfl Try.ntmps13 rfl ?_
  refine wc_seq ?_
  refine wc_region ?_
  refine wl_y (y_assign (by conv => lhs; whnf)) ?_
  refine wl_nil ?_
  refine then_normal ?_
  refine wc_seq ?_
  refine wc_region ?_
  refine wl_y (y_move (by conv => lhs; whnf)) ?_
  refine wl_callM hm hb50 (few_callsQ _ _ ps qs (hl.step hm.upd) hq) rfl rfl (fun W v47 E hm hu hE => ?_)
  obtain rfl := hE
  refine wl_y (y_assign (by conv => lhs; whnf)) ?_
  refine wl_nil ?_
  refine then_normal ?_
  refine wc_seq ?_
  refine wc_region ?_
  refine wl_y (y_assign (by conv => lhs; whnf)) ?_
  refine wl_nil ?_
  refine then_normal ?_
  refine wc_seq ?_
  refine wc_seq ?_
  refine wc_region ?_
  refine wl_y (y_move (by conv => lhs; whnf)) ?_
  refine wl_callR (v := .bool false) hm hb49 (rCheck_no W _ qs (hm.slAt 0 rfl) hok) rfl rfl (fun W hm hu => ?_)
  refine wl_y (y_not rfl) ?_
  refine wl_nil ?_
  refine then_normal ?_
  refine wc_cond_true rfl ?_
  refine wc_region ?_
  refine wl_y (y_assign (by conv => lhs; whnf)) ?_
  refine wl_nil ?_
  refine then_normal ?_
  refine wc_seq ?_
  refine wc_seq ?_
  refine wc_region ?_
  refine wl_y (y_move (by conv => lhs; whnf)) ?_
  refine wl_callR hm hb51 (Check_no _ _ qs (hm.slAt 0 rfl) hok) rfl rfl (fun W hm hu => ?_)
  refine wl_y (y_move (by conv => lhs; whnf)) ?_
  refine wl_y (y_neq rfl rfl) ?_
  refine wl_nil ?_
  refine then_normal ?_
  refine wc_cond_dec rfl (fun h1 => ?_) (fun h1 => ?_)
  · exact absurd rfl h1
  · skip
    refine wc_skip ?_
    refine then_normal ?_
    refine wc_seq ?_
    refine wc_region ?_
    refine wl_y (y_move (by conv => lhs; whnf)) ?_
    refine wl_callR hm hb33 (Is_no _ _ qs _ (hm.slAt 0 rfl) hok) rfl rfl (fun W hm hu => ?_)
    refine wl_y (y_move (by conv => lhs; whnf)) ?_
    refine wl_y (y_extract rfl rfl) ?_
    refine wl_y (y_extract rfl rfl) ?_
    refine wl_y (y_assign (by conv => lhs; whnf)) ?_
    refine wl_y (y_assign (by conv => lhs; whnf)) ?_
    refine wl_nil ?_
    refine then_normal ?_
    refine wc_seq ?_
    refine wc_region ?_
    refine wl_y (y_move (by conv => lhs; whnf)) ?_
    refine wl_callR hm hb52 (Hangs_no _ _ qs (hm.slAt 0 rfl) hok) rfl rfl (fun W hm hu => ?_)
    refine wl_y (y_move (by conv => lhs; whnf)) ?_
    refine wl_y (y_extract rfl rfl) ?_
    refine wl_y (y_extract rfl rfl) ?_
    refine wl_y (y_assign (by conv => lhs; whnf)) ?_
    refine wl_y (y_assign (by conv => lhs; whnf)) ?_
    refine wl_nil ?_
    refine then_normal ?_
    refine wc_seq ?_
    refine wc_region ?_
    refine wl_y (y_move (by conv => lhs; whnf)) ?_
    refine wl_callM hm hb36 (Equal_no _ _ qs (hm.slAt 0 rfl) hok) rfl rfl (fun W v67 E hm hu hE => ?_)
    obtain ⟨vs67, rfl, rfl⟩ := hE
    refine wl_y (y_move (by conv => lhs; whnf)) ?_
    refine wl_y (y_extract rfl rfl) ?_
    refine wl_y (y_extract rfl rfl) ?_
    refine wl_y (y_assign (by conv => lhs; whnf)) ?_
    refine wl_y (y_assign (by conv => lhs; whnf)) ?_
    refine wl_nil ?_
    refine then_normal ?_
    refine wc_seq ?_
    refine wc_seq ?_
    refine wc_region ?_
    refine wl_y (y_move (by conv => lhs; whnf)) ?_
    refine wl_y (y_eql rfl rfl) ?_
    refine wl_nil ?_
    refine then_normal ?_
    refine wc_cond_dec rfl (fun h2 => ?_) (fun h2 => ?_)
    · exact absurd h2 (by decide)
    · skip
      refine wc_skip ?_
      refine then_normal ?_
      refine wc_seq ?_
      refine wc_region ?_
      refine wl_y (y_move (by conv => lhs; whnf)) ?_
      refine wl_y (y_move (by conv => lhs; whnf)) ?_
      refine wl_callR hm hb34 (Ends_no _ _ qs s (hm.slAt 0 rfl) hok) rfl rfl (fun W hm hu => ?_)
      refine wl_y (y_move (by conv => lhs; whnf)) ?_
      refine wl_y (y_extract rfl rfl) ?_
      refine wl_y (y_extract rfl rfl) ?_
      refine wl_y (y_assign (by conv => lhs; whnf)) ?_
      refine wl_y (y_assign (by conv => lhs; whnf)) ?_
      refine wl_nil ?_
      refine then_normal ?_
      refine wc_seq ?_
      refine wc_region ?_
      refine wl_y (y_move (by conv => lhs; whnf)) ?_
      refine wl_callR hm hb44 (Count_no _ _ qs _ (hm.slAt 0 rfl) hok) rfl rfl (fun W hm hu => ?_)
      refine wl_y (y_move (by conv => lhs; whnf)) ?_
      refine wl_y (y_extract rfl rfl) ?_
      refine wl_y (y_extract rfl rfl) ?_
      refine wl_y (y_assign (by conv => lhs; whnf)) ?_
      refine wl_y (y_assign (by conv => lhs; whnf)) ?_
      refine wl_nil ?_
      refine then_normal ?_
      refine wc_seq ?_
      refine wc_region ?_
      refine wl_y (y_move (by conv => lhs; whnf)) ?_
      refine wl_call hb45 (Words_no _ _ qs _ (hm.slAt 0 rfl) hok) rfl rfl (fun e W h => ?_)
      obtain ⟨v107, rfl, hv107⟩ := h
      refine ⟨_, rfl, ?_⟩
      have hm := hm.call hv107
      refine wl_y (y_move (by conv => lhs; whnf)) ?_
      refine wl_y (y_extract rfl rfl) ?_
      refine wl_y (y_extract rfl rfl) ?_
      refine wl_y (y_assign (by conv => lhs; whnf)) ?_
      refine wl_y (y_assign (by conv => lhs; whnf)) ?_
      refine wl_nil ?_
      refine then_normal ?_
      refine wc_seq ?_
      refine wc_region ?_
      refine wl_y (y_move (by conv => lhs; whnf)) ?_
      refine wl_callM hm hb31 (Form_no _ _ qs (hm.slAt 0 rfl) hok) rfl rfl (fun W v112 E hm hu hE => ?_)
      obtain ⟨vs112, rfl, rfl⟩ := hE
      refine wl_y (y_move (by conv => lhs; whnf)) ?_
      refine wl_y (y_extract rfl rfl) ?_
      refine wl_y (y_extract rfl rfl) ?_
      refine wl_y (y_assign (by conv => lhs; whnf)) ?_
      refine wl_y (y_assign (by conv => lhs; whnf)) ?_
      refine wl_nil ?_
      refine then_normal ?_
      refine wc_seq ?_
      refine wc_region ?_
      refine wl_y (y_move (by conv => lhs; whnf)) ?_
      refine wl_callR hm hb40 (Apart_no _ _ qs _ _ (hm.slAt 0 rfl) hok) rfl rfl (fun W hm hu => ?_)
      refine wl_y (y_move (by conv => lhs; whnf)) ?_
      refine wl_y (y_extract rfl rfl) ?_
      refine wl_y (y_extract rfl rfl) ?_
      refine wl_y (y_extract rfl rfl) ?_
      refine wl_y (y_assign (by conv => lhs; whnf)) ?_
      refine wl_y (y_assign (by conv => lhs; whnf)) ?_
      refine wl_y (y_assign (by conv => lhs; whnf)) ?_
      refine wl_nil ?_
      refine then_normal ?_
      refine wc_seq ?_
      refine wc_region ?_
      refine wl_y (y_move (by conv => lhs; whnf)) ?_
      refine wl_callR hm hb27 (Tells_no _ _ qs (hm.slAt 0 rfl) hok) rfl rfl (fun W hm hu => ?_)
      refine wl_y (y_move (by conv => lhs; whnf)) ?_
      refine wl_y (y_extract rfl rfl) ?_
      refine wl_y (y_extract rfl rfl) ?_
      refine wl_y (y_extract rfl rfl) ?_
      refine wl_y (y_assign (by conv => lhs; whnf)) ?_
      refine wl_y (y_assign (by conv => lhs; whnf)) ?_
      refine wl_y (y_assign (by conv => lhs; whnf)) ?_
      refine wl_nil ?_
      refine then_normal ?_
      refine wc_seq ?_
      refine wc_region ?_
      refine wl_y (y_move (by conv => lhs; whnf)) ?_
      refine wl_callR hm hb15 (Memory_no _ _ qs (hm.slAt 0 rfl) hok) rfl rfl (fun W hm hu => ?_)
      refine wl_y (y_move (by conv => lhs; whnf)) ?_
      refine wl_y (y_extract rfl rfl) ?_
      refine wl_y (y_extract rfl rfl) ?_
      refine wl_y (y_extract rfl rfl) ?_
      refine wl_y (y_assign (by conv => lhs; whnf)) ?_
      refine wl_y (y_assign (by conv => lhs; whnf)) ?_
      refine wl_y (y_assign (by conv => lhs; whnf)) ?_
      refine wl_nil ?_
      refine then_normal ?_
      refine wc_seq ?_
      refine wc_region ?_
      refine wl_y (y_move (by conv => lhs; whnf)) ?_
      refine wl_callR hm hb16 (Doubt_no _ _ qs (hm.slAt 0 rfl) hok) rfl rfl (fun W hm hu => ?_)
      refine wl_y (y_move (by conv => lhs; whnf)) ?_
      refine wl_y (y_extract rfl rfl) ?_
      refine wl_y (y_extract rfl rfl) ?_
      refine wl_y (y_extract rfl rfl) ?_
      refine wl_y (y_extract rfl rfl) ?_
      refine wl_alloc hm ti27 (fun W b31 hm hb31 hu => ?_)
      refine wl_y (y_assign (by conv => lhs; whnf)) ?_
      refine wl_storeBlk (i := 4) (vs := pcells (0, 0)) hm rfl rfl rfl ti27 rfl rfl (by simp [pcells, Value.oneCell']) (fun W hm => ?_)
      refine wl_y (y_assign (by conv => lhs; whnf)) ?_
      refine wl_y (y_assign (by conv => lhs; whnf)) ?_
      refine wl_nil ?_
      refine then_normal ?_
      refine wc_seq ?_
      refine wc_region ?_
      refine wl_y (y_move (by conv => lhs; whnf)) ?_
      refine wl_call hb32 (Forbidden_no _ _ qs _ (hm.slAt 0 rfl) hok) rfl rfl (fun e W h => ?_)
      obtain ⟨v142, rfl, hv142⟩ := h
      refine ⟨_, rfl, ?_⟩
      have hm := hm.call hv142
      refine wl_y (y_move (by conv => lhs; whnf)) ?_
      refine wl_y (y_extract rfl rfl) ?_
      refine wl_y (y_extract rfl rfl) ?_
      refine wl_y (y_assign (by conv => lhs; whnf)) ?_
      refine wl_y (y_assign (by conv => lhs; whnf)) ?_
      refine wl_nil ?_
      refine then_normal ?_
      refine wc_seq ?_
      refine wc_region ?_
      refine wl_y (y_move (by conv => lhs; whnf)) ?_
      refine wl_callR hm hb23 (Rounds_no _ _ qs _ (hm.slAt 0 rfl) hok) rfl rfl (fun W hm hu => ?_)
      refine wl_y (y_move (by conv => lhs; whnf)) ?_
      refine wl_y (y_extract rfl rfl) ?_
      refine wl_y (y_extract rfl rfl) ?_
      refine wl_y (y_assign (by conv => lhs; whnf)) ?_
      refine wl_y (y_assign (by conv => lhs; whnf)) ?_
      refine wl_nil ?_
      refine then_normal ?_
      refine wc_seq ?_
      refine wc_region ?_
      refine wl_y (y_move (by conv => lhs; whnf)) ?_
      refine wl_callR hm hb24 (Signed_no _ _ qs _ (hm.slAt 0 rfl) hok) rfl rfl (fun W hm hu => ?_)
      refine wl_y (y_move (by conv => lhs; whnf)) ?_
      refine wl_y (y_extract rfl rfl) ?_
      refine wl_y (y_extract rfl rfl) ?_
      refine wl_y (y_assign (by conv => lhs; whnf)) ?_
      refine wl_y (y_assign (by conv => lhs; whnf)) ?_
      refine wl_nil ?_
      refine then_normal ?_
      refine wc_seq ?_
      refine wc_region ?_
      refine wl_y (y_move (by conv => lhs; whnf)) ?_
      refine wl_callM hm hb53 (even_calls _) rfl rfl (fun W v157 E hm hu hE => ?_)
      obtain rfl := hE
      refine wl_callR hm hb43 (SameL_no _ _ _ qs (hm.slAt 0 rfl) hok) rfl rfl (fun W hm hu => ?_)
      refine wl_y (y_move (by conv => lhs; whnf)) ?_
      refine wl_y (y_extract rfl rfl) ?_
      refine wl_y (y_extract rfl rfl) ?_
      refine wl_y (y_extract rfl rfl) ?_
      refine wl_y (y_assign (by conv => lhs; whnf)) ?_
      refine wl_y (y_assign (by conv => lhs; whnf)) ?_
      refine wl_y (y_assign (by conv => lhs; whnf)) ?_
      refine wl_nil ?_
      refine then_normal ?_
      refine wc_seq ?_
      refine wc_region ?_
      refine wl_callM hm hb53 (even_calls _) rfl rfl (fun W v163 E hm hu hE => ?_)
      obtain rfl := hE
      refine wl_y (y_move (by conv => lhs; whnf)) ?_
      refine wl_callR hm hb43 (SameR_no _ _ _ [(0, 1), (-1, 0)] qs (hm.slAt 7 rfl) netOk_evenP (hm.slAt 0 rfl) hok) rfl rfl (fun W hm hu => ?_)
      refine wl_y (y_move (by conv => lhs; whnf)) ?_
      refine wl_y (y_extract rfl rfl) ?_
      refine wl_y (y_extract rfl rfl) ?_
      refine wl_y (y_extract rfl rfl) ?_
      refine wl_y (y_assign (by conv => lhs; whnf)) ?_
      refine wl_y (y_assign (by conv => lhs; whnf)) ?_
      refine wl_y (y_assign (by conv => lhs; whnf)) ?_
      refine wl_nil ?_
      refine then_normal ?_
      refine wc_seq ?_
      refine wc_region ?_
      refine wl_y (y_move (by conv => lhs; whnf)) ?_
      refine wl_y (y_move (by conv => lhs; whnf)) ?_
      refine wl_y (v := .bool true) (y_eqT rfl rfl) ?_
      refine wl_y (y_move (by conv => lhs; whnf)) ?_
      refine wl_guard_yes rfl ?_
      refine wl_y (y_move (by conv => lhs; whnf)) ?_
      refine wl_guard_yes rfl ?_
      refine wl_y (y_move (by conv => lhs; whnf)) ?_
      refine wl_guard_yes rfl ?_
      refine wl_y (v := .bool true) (y_eqT rfl rfl) ?_
      refine wl_y (y_pick_true rfl (by conv => lhs; whnf)) ?_
      refine wl_y (y_move (by conv => lhs; whnf)) ?_
      refine wl_guard_yes rfl ?_
      refine wl_y (y_move (by conv => lhs; whnf)) ?_
      refine wl_guard_yes rfl ?_
      refine wl_y (y_move (by conv => lhs; whnf)) ?_
      refine wl_guard_yes rfl ?_
      refine wl_y (v := .bool true) (y_eqT rfl rfl) ?_
      refine wl_y (y_pick_true rfl (by conv => lhs; whnf)) ?_
      refine wl_y (y_move (by conv => lhs; whnf)) ?_
      refine wl_guard_yes rfl ?_
      refine wl_y (y_move (by conv => lhs; whnf)) ?_
      refine wl_guard_yes rfl ?_
      refine wl_y (y_move (by conv => lhs; whnf)) ?_
      refine wl_guard_yes rfl ?_
      refine wl_y (v := .bool true) (y_eqT rfl rfl) ?_
      refine wl_y (y_pick_true rfl (by conv => lhs; whnf)) ?_
      refine wl_y (y_move (by conv => lhs; whnf)) ?_
      refine wl_guard_yes rfl ?_
      refine wl_y (y_move (by conv => lhs; whnf)) ?_
      refine wl_guard_yes rfl ?_
      refine wl_y (y_move (by conv => lhs; whnf)) ?_
      refine wl_guard_yes rfl ?_
      refine wl_y (v := .bool true) (y_eqT rfl rfl) ?_
      refine wl_y (y_pick_true rfl (by conv => lhs; whnf)) ?_
      refine wl_y (y_move (by conv => lhs; whnf)) ?_
      refine wl_guard_yes rfl ?_
      refine wl_y (y_move (by conv => lhs; whnf)) ?_
      refine wl_guard_yes rfl ?_
      refine wl_y (y_move (by conv => lhs; whnf)) ?_
      refine wl_guard_yes rfl ?_
      refine wl_y (v := .bool true) (y_eqT rfl rfl) ?_
      refine wl_y (y_pick_true rfl (by conv => lhs; whnf)) ?_
      refine wl_y (y_move (by conv => lhs; whnf)) ?_
      refine wl_guard_yes rfl ?_
      refine wl_y (y_move (by conv => lhs; whnf)) ?_
      refine wl_guard_yes rfl ?_
      refine wl_y (y_move (by conv => lhs; whnf)) ?_
      refine wl_guard_yes rfl ?_
      refine wl_y (v := .bool true) (y_eqT rfl rfl) ?_
      refine wl_y (y_pick_true rfl (by conv => lhs; whnf)) ?_
      refine wl_y (y_move (by conv => lhs; whnf)) ?_
      refine wl_guard_yes rfl ?_
      refine wl_y (y_move (by conv => lhs; whnf)) ?_
      refine wl_guard_yes rfl ?_
      refine wl_y (y_move (by conv => lhs; whnf)) ?_
      refine wl_guard_yes rfl ?_
      refine wl_y (v := .bool true) (y_eqT rfl rfl) ?_
      refine wl_y (y_pick_true rfl (by conv => lhs; whnf)) ?_
      refine wl_y (y_move (by conv => lhs; whnf)) ?_
      refine wl_guard_yes rfl ?_
      refine wl_y (y_move (by conv => lhs; whnf)) ?_
      refine wl_guard_yes rfl ?_
      refine wl_y (y_move (by conv => lhs; whnf)) ?_
      refine wl_guard_yes rfl ?_
      refine wl_y (v := .bool true) (y_eqT rfl rfl) ?_
      refine wl_y (y_pick_true rfl (by conv => lhs; whnf)) ?_
      refine wl_y (y_move (by conv => lhs; whnf)) ?_
      refine wl_guard_yes rfl ?_
      refine wl_y (y_move (by conv => lhs; whnf)) ?_
      refine wl_guard_yes rfl ?_
      refine wl_y (y_move (by conv => lhs; whnf)) ?_
      refine wl_guard_yes rfl ?_
      refine wl_y (v := .bool true) (y_eqT rfl rfl) ?_
      refine wl_y (y_pick_true rfl (by conv => lhs; whnf)) ?_
      refine wl_y (y_move (by conv => lhs; whnf)) ?_
      refine wl_guard_yes rfl ?_
      refine wl_y (y_move (by conv => lhs; whnf)) ?_
      refine wl_guard_yes rfl ?_
      refine wl_y (y_move (by conv => lhs; whnf)) ?_
      refine wl_guard_yes rfl ?_
      refine wl_y (v := .bool true) (y_eqT rfl rfl) ?_
      refine wl_y (y_pick_true rfl (by conv => lhs; whnf)) ?_
      refine wl_y (y_move (by conv => lhs; whnf)) ?_
      refine wl_guard_yes rfl ?_
      refine wl_y (y_move (by conv => lhs; whnf)) ?_
      refine wl_guard_yes rfl ?_
      refine wl_y (y_move (by conv => lhs; whnf)) ?_
      refine wl_guard_yes rfl ?_
      refine wl_y (v := .bool true) (y_eqT rfl rfl) ?_
      refine wl_y (y_pick_true rfl (by conv => lhs; whnf)) ?_
      refine wl_y (y_move (by conv => lhs; whnf)) ?_
      refine wl_guard_yes rfl ?_
      refine wl_y (y_move (by conv => lhs; whnf)) ?_
      refine wl_guard_yes rfl ?_
      refine wl_y (y_move (by conv => lhs; whnf)) ?_
      refine wl_guard_yes rfl ?_
      refine wl_y (v := .bool true) (y_eqT rfl rfl) ?_
      refine wl_y (y_pick_true rfl (by conv => lhs; whnf)) ?_
      refine wl_y (y_move (by conv => lhs; whnf)) ?_
      refine wl_guard_yes rfl ?_
      refine wl_y (y_move (by conv => lhs; whnf)) ?_
      refine wl_guard_yes rfl ?_
      refine wl_y (y_move (by conv => lhs; whnf)) ?_
      refine wl_guard_yes rfl ?_
      refine wl_y (v := .bool true) (y_eqT rfl rfl) ?_
      refine wl_y (y_pick_true rfl (by conv => lhs; whnf)) ?_
      refine wl_y (y_move (by conv => lhs; whnf)) ?_
      refine wl_guard_yes rfl ?_
      refine wl_y (y_move (by conv => lhs; whnf)) ?_
      refine wl_guard_yes rfl ?_
      refine wl_y (y_move (by conv => lhs; whnf)) ?_
      refine wl_guard_yes rfl ?_
      refine wl_y (v := .bool true) (y_eqT rfl rfl) ?_
      refine wl_y (y_pick_true rfl (by conv => lhs; whnf)) ?_
      refine wl_y (y_move (by conv => lhs; whnf)) ?_
      refine wl_guard_yes rfl ?_
      refine wl_y (y_move (by conv => lhs; whnf)) ?_
      refine wl_guard_yes rfl ?_
      refine wl_y (y_move (by conv => lhs; whnf)) ?_
      refine wl_guard_yes rfl ?_
      refine wl_y (v := .bool true) (y_eqT rfl rfl) ?_
      refine wl_y (y_pick_true rfl (by conv => lhs; whnf)) ?_
      refine wl_y (y_move (by conv => lhs; whnf)) ?_
      refine wl_guard_yes rfl ?_
      refine wl_y (y_move (by conv => lhs; whnf)) ?_
      refine wl_guard_yes rfl ?_
      refine wl_y (v := .bool true) (y_not (p := false) rfl) ?_
      refine wl_y (y_pick_true rfl (by conv => lhs; whnf)) ?_
      refine wl_y (y_move (by conv => lhs; whnf)) ?_
      refine wl_guard_yes rfl ?_
      refine wl_y (y_move (by conv => lhs; whnf)) ?_
      refine wl_guard_yes rfl ?_
      refine wl_y (v := .bool true) (y_not (p := false) rfl) ?_
      refine wl_y (y_pick_true rfl (by conv => lhs; whnf)) ?_
      refine wl_y (y_move (by conv => lhs; whnf)) ?_
      refine wl_guard_yes rfl ?_
      refine wl_y (y_move (by conv => lhs; whnf)) ?_
      refine wl_guard_yes rfl ?_
      refine wl_y (v := .bool true) (y_not (p := false) rfl) ?_
      refine wl_y (y_pick_true rfl (by conv => lhs; whnf)) ?_
      refine wl_y (y_move (by conv => lhs; whnf)) ?_
      refine wl_guard_yes rfl ?_
      refine wl_y (y_move (by conv => lhs; whnf)) ?_
      refine wl_guard_yes rfl ?_
      refine wl_y (v := .bool true) (y_not (p := false) rfl) ?_
      refine wl_y (y_pick_true rfl (by conv => lhs; whnf)) ?_
      refine wl_y (y_move (by conv => lhs; whnf)) ?_
      refine wl_guard_yes rfl ?_
      refine wl_y (y_move (by conv => lhs; whnf)) ?_
      refine wl_guard_yes rfl ?_
      refine wl_y (v := .bool true) (y_not (p := false) rfl) ?_
      refine wl_y (y_pick_true rfl (by conv => lhs; whnf)) ?_
      refine wl_y (y_move (by conv => lhs; whnf)) ?_
      refine wl_guard_yes rfl ?_
      refine wl_y (y_move (by conv => lhs; whnf)) ?_
      refine wl_guard_yes rfl ?_
      refine wl_y (v := .bool true) (y_not (p := false) rfl) ?_
      refine wl_y (y_pick_true rfl (by conv => lhs; whnf)) ?_
      refine wl_y (y_move (by conv => lhs; whnf)) ?_
      refine wl_guard_yes rfl ?_
      refine wl_y (y_move (by conv => lhs; whnf)) ?_
      refine wl_guard_yes rfl ?_
      refine wl_y (v := .bool true) (y_not (p := false) rfl) ?_
      refine wl_y (y_pick_true rfl (by conv => lhs; whnf)) ?_
      refine wl_y (y_move (by conv => lhs; whnf)) ?_
      refine wl_guard_yes rfl ?_
      refine wl_y (y_move (by conv => lhs; whnf)) ?_
      refine wl_guard_yes rfl ?_
      refine wl_y (v := .bool true) (y_not (p := false) rfl) ?_
      refine wl_y (y_pick_true rfl (by conv => lhs; whnf)) ?_
      refine wl_y (y_move (by conv => lhs; whnf)) ?_
      refine wl_guard_yes rfl ?_
      refine wl_y (y_loadBlk (xs := pcells (0, 0)) rfl (hm.at (i := 4) rfl) Try.underlying27 rfl ti27) ?_
      refine wl_guard_yes rfl ?_
      refine wl_y (y_buildL (cells := #[.int .i64 0, .int .i64 0]) rfl (by kernel_rfl)) ?_
      refine wl_guard_yes rfl ?_
      refine wl_y (v := .bool true) (y_eqlPair (a := 0) (c := 0) (a' := 0) (c' := 0) rfl rfl (by kernel_rfl) Try.underlying27 ti3 Try.underlying3) ?_
      refine wl_y (y_pick_true rfl (by conv => lhs; whnf)) ?_
      refine wl_y (y_move (by conv => lhs; whnf)) ?_
      refine wl_guard_yes rfl ?_
      refine wl_y (y_move (by conv => lhs; whnf)) ?_
      refine wl_guard_yes rfl ?_
      refine wl_y (y_move (by conv => lhs; whnf)) ?_
      refine wl_guard_yes rfl ?_
      refine wl_y (y_add64 rfl rfl (by omega)) ?_
      refine wl_guard_yes rfl ?_
      refine wl_y (y_move (by conv => lhs; whnf)) ?_
      refine wl_guard_yes rfl ?_
      refine wl_y (y_add64 rfl rfl (by omega)) ?_
      refine wl_guard_yes rfl ?_
      refine wl_y (y_move (by conv => lhs; whnf)) ?_
      refine wl_guard_yes rfl ?_
      refine wl_y (y_add64 rfl rfl (by omega)) ?_
      refine wl_guard_yes rfl ?_
      refine wl_y (y_move (by conv => lhs; whnf)) ?_
      refine wl_guard_yes rfl ?_
      refine wl_y (y_add64 rfl rfl (by omega)) ?_
      refine wl_guard_yes rfl ?_
      refine wl_y (y_move (by conv => lhs; whnf)) ?_
      refine wl_guard_yes rfl ?_
      refine wl_y (v := .int .i64 0) (y_lenSl (m := 0) rfl (hm.slAt 1 rfl) Try.underlying55) ?_
      refine wl_guard_yes rfl ?_
      refine wl_y (y_add64 rfl rfl (by omega)) ?_
      refine wl_guard_yes rfl ?_
      refine wl_y (y_move (by conv => lhs; whnf)) ?_
      refine wl_guard_yes rfl ?_
      refine wl_y (v := .int .i64 0) (y_lenSl (m := 0) rfl (hm.slAt 2 rfl) Try.underlying47) ?_
      refine wl_guard_yes rfl ?_
      refine wl_y (y_add64 rfl rfl (by omega)) ?_
      refine wl_guard_yes rfl ?_
      refine wl_y (y_move (by conv => lhs; whnf)) ?_
      refine wl_guard_yes rfl ?_
      refine wl_y (v := .int .i64 0) (y_lenSl (m := 0) rfl (hm.slAt 3 rfl) Try.underlying22) ?_
      refine wl_guard_yes rfl ?_
      refine wl_y (y_add64 rfl rfl (by omega)) ?_
      refine wl_guard_yes rfl ?_
      refine wl_y (y_move (by conv => lhs; whnf)) ?_
      refine wl_guard_yes rfl ?_
      refine wl_y (v := .int .i64 0) (y_lenStr (s := ⟨#[]⟩) rfl Try.underlying9) ?_
      refine wl_guard_yes rfl ?_
      refine wl_y (y_add64 rfl rfl (by omega)) ?_
      refine wl_guard_yes rfl ?_
      refine wl_y (y_move (by conv => lhs; whnf)) ?_
      refine wl_guard_yes rfl ?_
      refine wl_y (v := .int .i64 0) (y_lenStr (s := ⟨#[]⟩) rfl Try.underlying9) ?_
      refine wl_guard_yes rfl ?_
      refine wl_y (y_add64 rfl rfl (by omega)) ?_
      refine wl_guard_yes rfl ?_
      refine wl_y (y_move (by conv => lhs; whnf)) ?_
      refine wl_guard_yes rfl ?_
      refine wl_y (v := .int .i64 0) (y_lenStr (s := ⟨#[]⟩) rfl Try.underlying9) ?_
      refine wl_guard_yes rfl ?_
      refine wl_y (y_add64 rfl rfl (by omega)) ?_
      refine wl_guard_yes rfl ?_
      refine wl_y (y_move (by conv => lhs; whnf)) ?_
      refine wl_guard_yes rfl ?_
      refine wl_y (v := .int .i64 0) (y_lenSl (m := 0) rfl (hm.slAt 5 rfl) Try.underlying47) ?_
      refine wl_guard_yes rfl ?_
      refine wl_y (y_add64 rfl rfl (by omega)) ?_
      refine wl_guard_yes rfl ?_
      refine wl_y (y_move (by conv => lhs; whnf)) ?_
      refine wl_guard_yes rfl ?_
      refine wl_y (v := .int .i64 0) (y_lenStr (s := ⟨#[]⟩) rfl Try.underlying9) ?_
      refine wl_guard_yes rfl ?_
      refine wl_y (y_add64 rfl rfl (by omega)) ?_
      refine wl_guard_yes rfl ?_
      refine wl_y (y_move (by conv => lhs; whnf)) ?_
      refine wl_guard_yes rfl ?_
      refine wl_y (v := .int .i64 0) (y_lenStr (s := ⟨#[]⟩) rfl Try.underlying9) ?_
      refine wl_guard_yes rfl ?_
      refine wl_y (y_add64 rfl rfl (by omega)) ?_
      refine wl_guard_yes rfl ?_
      refine wl_y (v := .bool true) (y_eqT rfl rfl) ?_
      refine wl_y (y_pick_true rfl (by conv => lhs; whnf)) ?_
      refine wl_y (y_move (by conv => lhs; whnf)) ?_
      refine wl_guard_yes rfl ?_
      refine wl_callR (v := .bool true) hm hb18 (awake_calls W) rfl rfl (fun W hm hu => ?_)
      refine wl_y (y_pick_true rfl (by conv => lhs; whnf)) ?_
      refine wl_y (y_assign (by conv => lhs; whnf)) ?_
      refine wl_nil ?_
      refine then_normal ?_
      refine wc_ret ?_
      refine post_ret (results_fr rfl) ?_
      exact ⟨rfl, hm.upd⟩

theorem y_eqBT {P : Program} {ρ : Operand → Value} {T t t' : TypeId} {W : World} {x y : Operand} {p : Bool} (hx : ρ x = .bool p) (hy : ρ y = .bool p) (ht : P.underlying t = some .bool) : Y P ρ (.binOp .eql t x y t') T (.bool true) W := by
  have h := y_eqlB (P := P) (T := T) (W := W) (t := t) (t' := t') hx hy ht
  rwa [decide_eq_true rfl] at h

set_option maxHeartbeats 4000000 in
theorem soficChecks_yes (w : World) (vl : Value) (ps qs : List (Int × Int)) (s : ByteArray) (hl : SlAt w 2 vl ps.length (prs ps)) (hq : ps.take 7 = qs) (hok : NetOk qs) :
    Cl Try.prog 13 [vl, .string s].toArray w (Ret w (.bool true)) := by
  have hm : Mem w [] [] w := Mem.init w
  refine cl_enter Try.func13 rfl Try.ntmps13 rfl ?_
  refine wc_seq ?_
  refine wc_region ?_
  refine wl_y (y_assign (by conv => lhs; whnf)) ?_
  refine wl_nil ?_
  refine then_normal ?_
  refine wc_seq ?_
  refine wc_region ?_
  refine wl_y (y_move (by conv => lhs; whnf)) ?_
  refine wl_callM hm hb50 (few_callsQ _ _ ps qs (hl.step hm.upd) hq) rfl rfl (fun W v47 E hm hu hE => ?_)
  obtain rfl := hE
  refine wl_y (y_assign (by conv => lhs; whnf)) ?_
  refine wl_nil ?_
  refine then_normal ?_
  refine wc_seq ?_
  refine wc_region ?_
  refine wl_y (y_assign (by conv => lhs; whnf)) ?_
  refine wl_nil ?_
  refine then_normal ?_
  refine wc_seq ?_
  refine wc_seq ?_
  refine wc_region ?_
  refine wl_y (y_move (by conv => lhs; whnf)) ?_
  refine wl_callR (v := .bool true) hm hb49 (rCheck_yes W _ qs (hm.slAt 0 rfl) hok) rfl rfl (fun W hm hu => ?_)
  refine wl_y (y_not rfl) ?_
  refine wl_nil ?_
  refine then_normal ?_
  refine wc_cond_false rfl ?_
  refine wc_skip ?_
  refine then_normal ?_
  refine wc_seq ?_
  refine wc_seq ?_
  refine wc_region ?_
  refine wl_y (y_move (by conv => lhs; whnf)) ?_
  refine wl_callR hm hb51 (Check_yes _ _ qs (hm.slAt 0 rfl) hok) rfl rfl (fun W hm hu => ?_)
  refine wl_y (y_move (by conv => lhs; whnf)) ?_
  refine wl_y (y_neq rfl rfl) ?_
  refine wl_nil ?_
  refine then_normal ?_
  refine wc_cond_dec rfl (fun h1 => ?_) (fun h1 => ?_)
  · exact absurd rfl h1
  · skip
    refine wc_skip ?_
    refine then_normal ?_
    refine wc_seq ?_
    refine wc_region ?_
    refine wl_y (y_move (by conv => lhs; whnf)) ?_
    refine wl_callR hm hb33 (Is_nil _ _ qs (hm.slAt 0 rfl) hok) rfl rfl (fun W hm hu => ?_)
    refine wl_y (y_move (by conv => lhs; whnf)) ?_
    refine wl_y (y_extract rfl rfl) ?_
    refine wl_y (y_extract rfl rfl) ?_
    refine wl_y (y_assign (by conv => lhs; whnf)) ?_
    refine wl_y (y_assign (by conv => lhs; whnf)) ?_
    refine wl_nil ?_
    refine then_normal ?_
    refine wc_seq ?_
    refine wc_region ?_
    refine wl_y (y_move (by conv => lhs; whnf)) ?_
    refine wl_callR hm hb52 (Hangs_yes _ _ qs (hm.slAt 0 rfl) hok) rfl rfl (fun W hm hu => ?_)
    refine wl_y (y_move (by conv => lhs; whnf)) ?_
    refine wl_y (y_extract rfl rfl) ?_
    refine wl_y (y_extract rfl rfl) ?_
    refine wl_y (y_assign (by conv => lhs; whnf)) ?_
    refine wl_y (y_assign (by conv => lhs; whnf)) ?_
    refine wl_nil ?_
    refine then_normal ?_
    refine wc_seq ?_
    refine wc_region ?_
    refine wl_y (y_move (by conv => lhs; whnf)) ?_
    refine wl_callM hm hb36 (Equal_yes _ _ qs (hm.slAt 0 rfl) hok) rfl rfl (fun W v67 E hm hu hE => ?_)
    obtain ⟨vs67, rfl, rfl⟩ := hE
    refine wl_y (y_move (by conv => lhs; whnf)) ?_
    refine wl_y (y_extract rfl rfl) ?_
    refine wl_y (y_extract rfl rfl) ?_
    refine wl_y (y_assign (by conv => lhs; whnf)) ?_
    refine wl_y (y_assign (by conv => lhs; whnf)) ?_
    refine wl_nil ?_
    refine then_normal ?_
    refine wc_seq ?_
    refine wc_seq ?_
    refine wc_region ?_
    refine wl_y (y_move (by conv => lhs; whnf)) ?_
    refine wl_y (y_eql rfl rfl) ?_
    refine wl_nil ?_
    refine then_normal ?_
    refine wc_cond_dec rfl (fun h2 => ?_) (fun h2 => ?_)
    · skip
      refine wc_seq ?_
      refine wc_region ?_
      refine wl_y (y_move (by conv => lhs; whnf)) ?_
      refine wl_y (v := .bool true) (y_eqT rfl rfl) ?_
      refine wl_y (y_move (by conv => lhs; whnf)) ?_
      refine wl_guard_yes rfl ?_
      refine wl_y (v := .bool true) (y_move rfl) ?_
      refine wl_y (y_pick_true rfl (by conv => lhs; whnf)) ?_
      refine wl_y (y_move (by conv => lhs; whnf)) ?_
      refine wl_guard_yes rfl ?_
      refine wl_y (y_move (by conv => lhs; whnf)) ?_
      refine wl_guard_yes rfl ?_
      refine wl_y (v := .bool true) (y_eqT rfl rfl) ?_
      refine wl_y (y_pick_true rfl (by conv => lhs; whnf)) ?_
      refine wl_y (y_move (by conv => lhs; whnf)) ?_
      refine wl_guard_yes rfl ?_
      refine wl_y (y_move (by conv => lhs; whnf)) ?_
      refine wl_guard_yes rfl ?_
      refine wl_y (y_move (by conv => lhs; whnf)) ?_
      refine wl_guard_yes rfl ?_
      refine wl_callR hm hb17 (rHangs_calls _ _ qs (hm.slAt 0 rfl) hok.okf) rfl rfl (fun W hm hu => ?_)
      refine wl_guard_yes rfl ?_
      refine wl_y (v := .bool true) (y_eqBT rfl rfl Try.underlying4) ?_
      refine wl_y (y_pick_true rfl (by conv => lhs; whnf)) ?_
      refine wl_y (y_move (by conv => lhs; whnf)) ?_
      refine wl_guard_yes rfl ?_
      refine wl_y (y_move (by conv => lhs; whnf)) ?_
      refine wl_guard_yes rfl ?_
      refine wl_y (v := .bool true) (y_eqT rfl rfl) ?_
      refine wl_y (y_pick_true rfl (by conv => lhs; whnf)) ?_
      refine wl_y (y_move (by conv => lhs; whnf)) ?_
      refine wl_guard_yes rfl ?_
      refine wl_callR (v := .bool true) hm hb18 (awake_calls W) rfl rfl (fun W hm hu => ?_)
      refine wl_y (y_pick_true rfl (by conv => lhs; whnf)) ?_
      refine wl_y (y_assign (by conv => lhs; whnf)) ?_
      refine wl_nil ?_
      refine then_normal ?_
      refine wc_ret ?_
      refine then_ret ?_
      refine post_ret (results_fr rfl) ?_
      exact ⟨rfl, hm.upd⟩
    · exact absurd rfl h2

theorem soficChecks_calls (w : World) (vl : Value) (ps : List (Int × Int)) (s : ByteArray) (hl : SlAt w 2 vl ps.length (prs ps)) :
    Cl Try.prog 13 [vl, .string s].toArray w (Ret w (.bool true)) := by
  by_cases hok : NetOk (ps.take 7)
  · exact soficChecks_yes w vl ps _ s hl rfl hok
  · exact soficChecks_no w vl ps _ s hl rfl hok
end Go.Proofs.Ytofpdjpenmhbnaa
namespace Go.Proofs.Ytofpdjpenmhbnaa
open Go Go.Kx

set_option maxHeartbeats 4000000 in
theorem soficSteps_calls (w : World) (vl : Value) (ps : List (Int × Int)) (hl : SlAt w 2 vl ps.length (prs ps)) :
    Cl Try.prog 6 [vl].toArray w (Ret w (.bool true)) := by
  have hm : Mem w [] [] w := Mem.init w
  refine cl_enter Try.func6 rfl Try.ntmps6 rfl ?_
  refine wc_seq ?_
  refine wc_region ?_
  refine wl_y (y_assign (by conv => lhs; whnf)) ?_
  refine wl_nil ?_
  refine then_normal ?_
  refine wc_seq ?_
  refine wc_region ?_
  refine wl_y (y_move (by conv => lhs; whnf)) ?_
  refine wl_callM hm hb14 (tame_calls _ _ ps true (hl.step hm.upd)) rfl rfl (fun W v17 E hm hu hE => ?_)
  obtain ⟨qs, hTqs, rfl⟩ := hE
  have hokqs := hTqs.1
  have hl1qs := hokqs.1
  refine wl_y (y_assign (by conv => lhs; whnf)) ?_
  refine wl_nil ?_
  refine then_normal ?_
  refine wc_seq ?_
  refine wc_region ?_
  refine wl_y (y_move (by conv => lhs; whnf)) ?_
  refine wl_callM hm hb31 (Form_yes _ _ qs (hm.slAt 0 rfl) hokqs) rfl rfl (fun W v20 E hm hu hE => ?_)
  obtain ⟨vs20, rfl, rfl⟩ := hE
  refine wl_y (y_move (by conv => lhs; whnf)) ?_
  refine wl_y (y_extract rfl rfl) ?_
  refine wl_y (y_extract rfl rfl) ?_
  refine wl_y (y_assign (by conv => lhs; whnf)) ?_
  refine wl_y (y_assign (by conv => lhs; whnf)) ?_
  refine wl_nil ?_
  refine then_normal ?_
  refine wc_seq ?_
  refine wc_region ?_
  refine wl_y (y_move (by conv => lhs; whnf)) ?_
  refine wl_callR hm hb15 (Memory_calls _ _ qs (hm.slAt 0 rfl)) rfl rfl (fun W hm hu => ?_)
  refine wl_y (y_move (by conv => lhs; whnf)) ?_
  refine wl_y (y_extract rfl rfl) ?_
  refine wl_y (y_extract rfl rfl) ?_
  refine wl_y (y_extract rfl rfl) ?_
  refine wl_y (y_assign (by conv => lhs; whnf)) ?_
  refine wl_y (y_assign (by conv => lhs; whnf)) ?_
  refine wl_y (y_assign (by conv => lhs; whnf)) ?_
  refine wl_nil ?_
  refine then_normal ?_
  refine wc_seq ?_
  refine wc_region ?_
  refine wl_y (y_move (by conv => lhs; whnf)) ?_
  refine wl_callR hm hb16 (Doubt_calls _ _ qs (hm.slAt 0 rfl)) rfl rfl (fun W hm hu => ?_)
  refine wl_y (y_move (by conv => lhs; whnf)) ?_
  refine wl_y (y_extract rfl rfl) ?_
  refine wl_y (y_extract rfl rfl) ?_
  refine wl_y (y_extract rfl rfl) ?_
  refine wl_y (y_extract rfl rfl) ?_
  refine wl_alloc hm ti27 (fun W b10 hm hb10 hu => ?_)
  refine wl_y (y_assign (by conv => lhs; whnf)) ?_
  refine wl_storeBlk (i := 2) (vs := pcells (doubtV qs).2.1) hm rfl rfl rfl ti27 rfl rfl (by simp [pcells, Value.oneCell']) (fun W hm => ?_)
  refine wl_y (y_assign (by conv => lhs; whnf)) ?_
  refine wl_y (y_assign (by conv => lhs; whnf)) ?_
  refine wl_nil ?_
  refine then_normal ?_
  refine wc_seq ?_
  refine wc_seq ?_
  refine wc_region ?_
  obtain ⟨hmm1, hmm2, hmm3, hmm4⟩ := mem_facts hokqs (Tamed.hangs hTqs)
  have hfl := formLV_len qs
  have hfk : formK (tabR qs) qs.length ≤ qs.length := rk_le _ _
  refine wl_y (y_move (by conv => lhs; whnf)) ?_
  refine wl_y (y_neq rfl rfl) ?_
  refine wl_split rfl (fun h1 => ?_) (fun h1 => ?_)
  · exact absurd rfl h1
  · skip
    refine wl_guard_yes rfl ?_
    refine wl_y (y_move (by conv => lhs; whnf)) ?_
    refine wl_guard_yes rfl ?_
    refine wl_y (y_neq rfl rfl) ?_
    refine wl_y (y_pick_false rfl (by conv => lhs; whnf)) ?_
    refine wl_split rfl (fun h2 => ?_) (fun h2 => ?_)
    · exact absurd hmm1 h2
    · skip
      refine wl_guard_yes rfl ?_
      refine wl_y (y_move (by conv => lhs; whnf)) ?_
      refine wl_guard_yes rfl ?_
      refine wl_y (y_neq rfl rfl) ?_
      refine wl_y (y_pick_false rfl (by conv => lhs; whnf)) ?_
      refine wl_split rfl (fun h3 => ?_) (fun h3 => ?_)
      · exact absurd hmm2 h3
      · skip
        refine wl_guard_yes rfl ?_
        refine wl_y (y_move (by conv => lhs; whnf)) ?_
        refine wl_guard_yes rfl ?_
        refine wl_y (y_move (by conv => lhs; whnf)) ?_
        refine wl_guard_yes rfl ?_
        refine wl_y (y_eqlB rfl rfl Try.underlying4) ?_
        refine wl_y (y_pick_false rfl (by conv => lhs; whnf)) ?_
        refine wl_split rfl (fun h4 => ?_) (fun h4 => ?_)
        · exact absurd h4 (by rw [hmm3]; cases (doubtV qs).2.2.1 <;> decide)
        · skip
          refine wl_guard_yes rfl ?_
          refine wl_y (y_move (by conv => lhs; whnf)) ?_
          refine wl_guard_yes rfl ?_
          refine wl_y (v := .int .i64 ((formLV qs).length : Nat)) (y_lenSl (m := (formLV qs).length) rfl (hm.slAt 1 rfl) Try.underlying22) ?_
          refine wl_guard_yes rfl ?_
          refine wl_y (y_gtr rfl rfl) ?_
          refine wl_y (y_pick_false rfl (by conv => lhs; whnf)) ?_
          refine wl_nil ?_
          refine then_normal ?_
          refine wc_cond_dec rfl (fun h5 => ?_) (fun h5 => ?_)
          · exact absurd h5 (by omega)
          · skip
            refine wc_skip ?_
            refine then_normal ?_
            refine wc_seq ?_
            refine wc_seq ?_
            refine wc_region ?_
            refine wl_y (y_move (by conv => lhs; whnf)) ?_
            refine wl_y (y_not rfl) ?_
            refine wl_nil ?_
            refine then_normal ?_
            refine wc_cond rfl (fun h6 => ?_) (fun h6 => ?_)
            · skip
              refine wc_seq ?_
              refine wc_region ?_
              refine wl_callR hm hb18 (awake_calls _) rfl rfl (fun W hm hu => ?_)
              refine wl_y (y_assign (by conv => lhs; whnf)) ?_
              refine wl_nil ?_
              refine then_normal ?_
              refine wc_ret ?_
              refine then_ret ?_
              refine post_ret (results_fr rfl) ?_
              exact ⟨rfl, hm.upd⟩
            · have hmi : (memoryV qs).2.1 = true := by simpa using h6
              obtain ⟨mm, hm1, hm2, hm3, hm4⟩ := hmm4 hmi
              have hf1 : 1 ≤ (formLV qs).length := (formLV_net hokqs).1.1
              refine wc_skip ?_
              refine then_normal ?_
              refine wc_seq ?_
              refine wc_seq ?_
              refine wc_region ?_
              refine wl_y (y_move (by conv => lhs; whnf)) ?_
              refine wl_y (y_lss rfl rfl) ?_
              refine wl_split rfl (fun h7 => ?_) (fun h7 => ?_)
              · exact absurd h7 (by omega)
              · skip
                refine wl_guard_yes rfl ?_
                refine wl_y (y_move (by conv => lhs; whnf)) ?_
                refine wl_guard_yes rfl ?_
                refine wl_y (y_mul64 rfl rfl (by omega)) ?_
                refine wl_guard_yes rfl ?_
                refine wl_y (y_move (by conv => lhs; whnf)) ?_
                refine wl_guard_yes rfl ?_
                refine wl_y (v := .int .i64 ((formLV qs).length : Nat)) (y_lenSl (m := (formLV qs).length) rfl (hm.slAt 1 rfl) Try.underlying22) ?_
                refine wl_guard_yes rfl ?_
                refine wl_y (y_move (by conv => lhs; whnf)) ?_
                refine wl_guard_yes rfl ?_
                refine wl_y (v := .int .i64 ((formLV qs).length : Nat)) (y_lenSl (m := (formLV qs).length) rfl (hm.slAt 1 rfl) Try.underlying22) ?_
                refine wl_guard_yes rfl ?_
                refine wl_y (y_sub64 rfl rfl (by omega)) ?_
                refine wl_guard_yes rfl ?_
                have hprod : ((formLV qs).length : Int) * (((formLV qs).length : Int) - 1) = (((formLV qs).length * ((formLV qs).length - 1) : Nat) : Int) := by rw [Int.natCast_mul, Int.natCast_sub (by omega)]; rfl
                have hsq : (formLV qs).length * ((formLV qs).length - 1) ≤ 5 * 4 := Nat.mul_le_mul (by omega) (by omega)
                refine wl_y (y_mul64 rfl rfl (by rw [hprod]; omega)) ?_
                refine wl_guard_yes rfl ?_
                refine wl_y (y_gtr rfl rfl) ?_
                refine wl_y (y_pick_false rfl (by conv => lhs; whnf)) ?_
                refine wl_nil ?_
                refine then_normal ?_
                refine wc_cond_dec rfl (fun h8 => ?_) (fun h8 => ?_)
                · exact absurd h8 (by rw [hprod]; omega)
                · skip
                  refine wc_skip ?_
                  refine then_normal ?_
                  refine wc_seq ?_
                  refine wc_seq ?_
                  refine wc_region ?_
                  refine wl_y (y_move (by conv => lhs; whnf)) ?_
                  refine wl_y (y_add64 rfl rfl (by omega)) ?_
                  refine wl_y (y_assign (by conv => lhs; whnf)) ?_
                  refine wl_nil ?_
                  refine then_normal ?_
                  refine wc_block ?_
                  refine wc_loop [2, 13, 14, 15, 74, 75, 76, 77, 78, 79, 80, 81, 82, 83, 84, 85, 86, 87, 88, 89, 90] (fun (x : Int) => [(13, .int .i64 x)]) (fun (x : Int) W => Mem w [] [.own 27 2 v17 qs.length (prs qs), .own 27 2 vs20 (formLV qs).length (prs (formLV qs)), .blk b10 27 (pcells (doubtV qs).2.1)] W ∧ (mm : Int) + 2 ≤ x ∧ x ≤ 13) (fun (x : Int) => (14 - x).toNat) (((memoryV qs).1 + 2) : Int) ?_ ?_ ?_
                  · exact ⟨rfl, trivial⟩
                  · exact ⟨hm, by omega, by omega⟩
                  · rintro x u W ⟨hm, hx1, hx2⟩
                    refine wc_seq ?_
                    refine wc_seq ?_
                    refine wc_region ?_
                    refine wl_y (y_move (by conv => lhs; whnf)) ?_
                    refine wl_y (y_leq rfl rfl) ?_
                    refine wl_nil ?_
                    refine then_normal ?_
                    refine wc_cond_dec rfl (fun h9 => ?_) (fun h9 => ?_)
                    · have hfv := forb_in hokqs (m := x) (by omega)
                      refine wc_skip ?_
                      refine then_normal ?_
                      refine wc_seq ?_
                      refine wc_block ?_
                      refine wc_seq ?_
                      refine wc_region ?_
                      refine wl_y (y_move (by conv => lhs; whnf)) ?_
                      refine wl_y (y_move (by conv => lhs; whnf)) ?_
                      refine wl_call hb32 (Forbidden_calls _ _ qs x (hm.slAt 0 rfl)) rfl rfl (fun e W h => ?_)
                      obtain ⟨v81, rfl, hv81⟩ := h
                      refine ⟨_, rfl, ?_⟩
                      have hm := hm.call hv81
                      refine wl_y (y_move (by conv => lhs; whnf)) ?_
                      refine wl_y (y_extract rfl rfl) ?_
                      refine wl_y (y_extract rfl rfl) ?_
                      refine wl_y (y_assign (by conv => lhs; whnf)) ?_
                      refine wl_y (y_assign (by conv => lhs; whnf)) ?_
                      refine wl_nil ?_
                      refine then_normal ?_
                      refine wc_seq ?_
                      refine wc_region ?_
                      refine wl_y (y_move (by conv => lhs; whnf)) ?_
                      refine wl_y (y_neq rfl rfl) ?_
                      refine wl_split rfl (fun h10 => ?_) (fun h10 => ?_)
                      · exact absurd (by rw [hfv]) h10
                      · skip
                        refine wl_guard_yes rfl ?_
                        refine wl_y (y_move (by conv => lhs; whnf)) ?_
                        refine wl_guard_yes rfl ?_
                        refine wl_y (y_lenSl rfl (hm.slAt 3 rfl) Try.underlying47) ?_
                        refine wl_guard_yes rfl ?_
                        refine wl_y (y_neq rfl rfl) ?_
                        refine wl_y (y_pick_false rfl (by conv => lhs; whnf)) ?_
                        refine wl_nil ?_
                        refine then_normal ?_
                        refine wc_cond_dec rfl (fun h11 => ?_) (fun h11 => ?_)
                        · exact absurd (by rw [hfv, hm4 _ (by omega)]; rfl) h11
                        · skip
                          refine wc_skip ?_
                          refine block_normal ?_
                          refine then_normal ?_
                          refine wc_region ?_
                          refine wl_y (y_move (by conv => lhs; whnf)) ?_
                          refine wl_y (y_add64 rfl rfl (by omega)) ?_
                          refine wl_y (y_assign (by conv => lhs; whnf)) ?_
                          refine wl_nil ?_
                          refine next_round (σ := Int) (x + 1) rfl (by repeat first | exact out_hav | refine out_look rfl ?_ | refine out_havIn rfl ?_) ⟨rfl, trivial⟩ ⟨hm.take 3, by omega, by omega⟩ (by (try dsimp only); omega)
                    · skip
                      refine wc_exit ?_
                      refine then_exit ?_
                      refine then_exit ?_
                      refine block_exit ?_
                      refine then_normal ?_
                      refine wc_seq ?_
                      refine wc_region ?_
                      refine wl_callR hm hb18 (awake_calls _) rfl rfl (fun W hm hu => ?_)
                      refine wl_y (y_assign (by conv => lhs; whnf)) ?_
                      refine wl_nil ?_
                      refine then_normal ?_
                      refine wc_ret ?_
                      refine post_ret (results_fr rfl) ?_
                      exact ⟨rfl, hm.upd⟩
end Go.Proofs.Ytofpdjpenmhbnaa
namespace Go.Proofs.Ytofpdjpenmhbnaa
open Go Go.Kx
theorem hb62 : HasBody Try.prog 62 := hasBody Try.func62 (by kernel_rfl) (by kernel_rfl)
theorem single_bits : ∀ s, s < 32 → 0 < s → (s &&& (s - 1) = 0 ↔ popF s ≤ 1) := by decide +kernel
def AllOk (f : Nat → Nat → Int) (k m : Nat) (kv : List (Int × Value)) (seen : List Nat) (al : Bool) : Prop := (al = true → ∀ p, p ∈ seen → ∀ q, kv[p]? = some q → popF q.1.toNat ≤ 1) ∧ (al = false → ∃ s, s < 32 ∧ imgB f k m s = true ∧ 1 < popF s)
theorem AllOk.more {f : Nat → Nat → Int} {k m p s : Nat} {kv : List (Int × Value)} {seen : List Nat} {v : Value} (h : AllOk f k m kv seen true) (hp : kv[p]? = some ((s : Int), v)) (hs : s < 32) (hi : imgB f k m s = true) : AllOk f k m kv (seen ++ [p]) (decide (popF s ≤ 1)) := by
  refine ⟨fun hd p1 hp1 q hq => ?_, fun hd => ⟨s, hs, hi, by have := of_decide_eq_false hd; omega⟩⟩
  rcases List.mem_append.1 hp1 with hp1 | hp1
  · exact h.1 rfl p1 hp1 q hq
  · rw [List.mem_singleton.1 hp1, hp] at hq
    rw [← Option.some.inj hq]
    simpa using of_decide_eq_true hd
theorem AllOk.not {f : Nat → Nat → Int} {k m p : Nat} {kv : List (Int × Value)} {seen : List Nat} (h : AllOk f k m kv seen false) : AllOk f k m kv (seen ++ [p]) false := ⟨fun hd => (by cases hd), h.2⟩

theorem memV_not {f : Nat → Nat → Int} {k : Nat} (h : ∀ m, m < 33 → doneB f k m = false) : memV f k = none := by
  unfold memV
  rw [List.find?_eq_none]
  intro m hm; rw [h m (List.mem_range.1 hm)]; decide

theorem single1_calls (w : World) (s : Nat) (hs : s < 32) (h0 : 0 < s) : Cl Try.prog 62 [.int .i64 (s : Int)].toArray w (Ret w (.bool (decide (popF s ≤ 1)))) := by
  have h := single_calls w s (by omega)
  have hsb := single_bits s hs h0
  rwa [show decide (0 < s ∧ s &&& (s - 1) = 0) = decide (popF s ≤ 1) from decide_eq_decide.2 ⟨fun hh => hsb.1 hh.2, fun hh => ⟨h0, hsb.2 hh⟩⟩] at h

set_option maxHeartbeats 4000000 in
theorem rMemory_calls (w : World) (vl : Value) (ps : List (Int × Int)) (hl : SlAt w 2 vl ps.length (prs ps)) (ho : Okf ps.length (tabR ps)) (hk1 : 1 ≤ ps.length) :
    Cl Try.prog 20 [vl].toArray w (Ret w (.int .i64 (rMemV (tabR ps) ps.length))) := by
  have hk := ho.k5
  have h32 := pow_le_32 ho.k5
  have hp0 := Nat.two_pow_pos ps.length
  have hm : Mem w [] [] w := Mem.init w
  refine cl_enter Try.func20 rfl Try.ntmps20 rfl ?_
  refine wc_seq ?_
  refine wc_region ?_
  refine wl_y (y_assign (by conv => lhs; whnf)) ?_
  refine wl_nil ?_
  refine then_normal ?_
  refine wc_seq ?_
  refine wc_region ?_
  refine wl_makeMap hm (Value.int .i64) (fun W m10 hm hm10 hu => ?_)
  refine wl_y (y_move (by conv => lhs; whnf)) ?_
  refine wl_y (y_lenSl (by conv => lhs; whnf) (hl.step hm.upd) Try.underlying22) ?_
  refine wl_y (y_bitN rfl rfl (by omega)) ?_
  refine wl_y (y_sub1N rfl rfl (by omega)) ?_
  refine wl_insert (i := 0) (k := ((2 ^ ps.length - 1 : Nat) : Int)) (v := .bool true) hm rfl rfl rfl rfl Try.underlying81 ok116 (fun W hm => ?_)
  refine wl_y (y_move (by conv => lhs; whnf)) ?_
  refine wl_y (y_assign (by conv => lhs; whnf)) ?_
  refine wl_nil ?_
  refine then_normal ?_
  refine wc_seq ?_
  refine wc_seq ?_
  refine wc_region ?_
  refine wl_y (y_assign (by conv => lhs; whnf)) ?_
  refine wl_nil ?_
  refine then_normal ?_
  refine wc_block ?_
  refine wc_loop [2, 3, 4, 5, 6, 7, 8, 9, 16, 17, 18, 19, 20, 21, 22, 23, 24, 25, 26, 27, 28, 29, 30, 31, 32, 33, 34, 35, 36, 37, 38, 39, 40, 41, 42, 43, 44, 45, 46] (fun ((m, kv, mk) : Nat × List (Int × Value) × Nat) => [(4, .int .i64 (m : Int)), (3, .map (some mk))]) (fun ((m, kv, mk) : Nat × List (Int × Value) × Nat) W => Mem w [] [mapEn (Value.int .i64) mk kv] W ∧ SetsOk (tabR ps) ps.length m kv ∧ (∀ m', m' < m → doneB (tabR ps) ps.length m' = false) ∧ m ≤ 33) (fun ((m, kv, mk) : Nat × List (Int × Value) × Nat) => 34 - m) ((0, kvSet [] ((2 ^ ps.length - 1 : Nat) : Int) (.bool true), m10) : Nat × List (Int × Value) × Nat) ?_ ?_ ?_
  · exact ⟨rfl, rfl, trivial⟩
  · exact ⟨hm, sets_zero _ _ _, fun _ h => absurd h (Nat.not_lt_zero _), Nat.zero_le _⟩
  · rintro ⟨m, kv, mk⟩ u W ⟨hm, hks, hnod, hm33⟩
    refine wc_seq ?_
    refine wc_seq ?_
    refine wc_region ?_
    refine wl_y (y_move (by conv => lhs; whnf)) ?_
    refine wl_y (y_leq rfl rfl) ?_
    refine wl_nil ?_
    refine then_normal ?_
    refine wc_cond_dec rfl (fun h1 => ?_) (fun h1 => ?_)
    · skip
      refine wc_skip ?_
      refine then_normal ?_
      refine wc_seq ?_
      refine wc_block ?_
      refine wc_seq ?_
      refine wc_region ?_
      refine wl_makeMap hm (Value.int .i64) (fun W m20 hm hm20 hu => ?_)
      refine wl_y (y_assign (by conv => lhs; whnf)) ?_
      refine wl_nil ?_
      refine then_normal ?_
      refine wc_seq ?_
      refine wc_region ?_
      refine wl_y (y_assign (by conv => lhs; whnf)) ?_
      refine wl_nil ?_
      refine then_normal ?_
      refine wc_seq ?_
      refine wc_seq ?_
      refine wc_region ?_
      refine wl_y (y_move (by conv => lhs; whnf)) ?_
      refine wl_rangeMap (i := 0) hm rfl rfl Try.underlying81 (fun W r22 hm hr22 hu => ?_)
      refine wl_nil ?_
      refine then_normal ?_
      refine wc_block ?_
      refine wc_loop [6, 7, 8, 9, 23, 24, 25, 26, 27, 28, 29, 30, 31, 32, 33, 34, 35, 36, 37, 38, 39, 40, 41, 42, 43] (fun ((seen, al, kv2) : List Nat × Bool × List (Int × Value)) => [(6, .bool al)]) (fun ((seen, al, kv2) : List Nat × Bool × List (Int × Value)) W => Mem w [] [mapEn (Value.int .i64) mk kv, mapEn (Value.int .i64) m20 kv2, iterEn r22 mk kv.length seen] W ∧ NextOk (tabR ps) ps.length kv seen 0 0 kv2 ∧ AllOk (tabR ps) ps.length m kv seen al) (fun ((seen, al, kv2) : List Nat × Bool × List (Int × Value)) => unseen kv.length seen) (([], true, []) : List Nat × Bool × List (Int × Value)) ?_ ?_ ?_
      · exact ⟨rfl, trivial⟩
      · exact ⟨hm, next_start 0, fun _ p h => absurd h List.not_mem_nil, fun h => (by cases h)⟩
      · rintro ⟨seen, al, kv2⟩ u W ⟨hm, hnx, hao⟩
        refine wc_seq ?_
        refine wc_region ?_
        refine wl_nextMap (i := 0) (j := 2) hm rfl rfl rfl (fun p q hpq hps W hm => ?_) (fun hall => ?_)
        · obtain ⟨q1, qv⟩ := q
          obtain ⟨s1, rfl, himgs1⟩ := (hks q1).1 (List.mem_map.2 ⟨_, List.mem_of_getElem? hpq, rfl⟩)
          have hs32s1 := imgB_lt ho himgs1
          have hs0s1 := imgB_pos hk1 himgs1
          have hnx := hnx.zero s1
          refine wl_y (y_extract rfl rfl) ?_
          refine wl_nil ?_
          refine then_normal ?_
          refine wc_seq ?_
          refine wc_cond_true rfl ?_
          refine wc_skip ?_
          refine then_normal ?_
          refine wc_block ?_
          refine wc_seq ?_
          refine wc_region ?_
          refine wl_y (y_entry (hm.at (i := 0) rfl) (hm.at (i := 2) rfl) rfl hpq) ?_
          refine wl_y (y_extract rfl rfl) ?_
          refine wl_y (y_assign (by conv => lhs; whnf)) ?_
          refine wl_nil ?_
          refine then_normal ?_
          refine wc_seq ?_
          refine wc_region ?_
          obtain ⟨sn, hsn⟩ : ∃ sn, sn = seen ++ [p] := ⟨_, rfl⟩
          rw [← hsn] at hm
          refine wl_y (y_move (by conv => lhs; whnf)) ?_
          refine wl_splitB rfl (fun h2 => ?_) (fun h2 => ?_)
          · have hal : al = true := h2
            subst hal
            refine wl_guard_yes rfl ?_
            refine wl_y (y_move (by conv => lhs; whnf)) ?_
            refine wl_guard_yes rfl ?_
            refine wl_callR hm hb62 (single1_calls _ s1 (by omega) hs0s1) rfl rfl (fun W hm hu => ?_)
            refine wl_y (y_pick_true rfl (by conv => lhs; whnf)) ?_
            refine wl_y (y_assign (by conv => lhs; whnf)) ?_
            refine wl_nil ?_
            refine then_normal ?_
            refine wc_seq ?_
            refine wc_region ?_
            refine wl_y (y_assign (by conv => lhs; whnf)) ?_
            refine wl_nil ?_
            refine then_normal ?_
            refine wc_block ?_
            refine wc_loop [8, 9, 32, 33, 34, 35, 36, 37, 38, 39, 40, 41, 42, 43] (fun ((x, kv2) : Nat × List (Int × Value)) => [(8, .int .i64 (x : Int))]) (fun ((x, kv2) : Nat × List (Int × Value)) W => Mem w [] [mapEn (Value.int .i64) mk kv, mapEn (Value.int .i64) m20 kv2, iterEn r22 mk kv.length sn] W ∧ x ≤ 2 ∧ NextOk (tabR ps) ps.length kv seen s1 x kv2) (fun ((x, kv2) : Nat × List (Int × Value)) => 2 - x) ((0, kv2) : Nat × List (Int × Value)) ?_ ?_ ?_
            · exact ⟨rfl, trivial⟩
            · exact ⟨hm, Nat.zero_le _, hnx⟩
            · rintro ⟨x, kv2⟩ u W ⟨hm, hx, hnx⟩
              refine wc_seq ?_
              refine wc_seq ?_
              refine wc_region ?_
              refine wl_y (y_move (by conv => lhs; whnf)) ?_
              refine wl_y (y_lss rfl rfl) ?_
              refine wl_nil ?_
              refine then_normal ?_
              refine wc_cond_dec rfl (fun h3 => ?_) (fun h3 => ?_)
              · skip
                refine wc_skip ?_
                refine then_normal ?_
                refine wc_seq ?_
                refine wc_block ?_
                refine wc_seq ?_
                refine wc_region ?_
                refine wl_y (y_move (by conv => lhs; whnf)) ?_
                refine wl_y (y_move (by conv => lhs; whnf)) ?_
                refine wl_y (y_move (by conv => lhs; whnf)) ?_
                refine wl_callR hm hb61 (rstep_calls _ _ _ s1 x (hl.step hm.upd) ho (by omega) (by omega)) rfl rfl (fun W hm hu => ?_)
                refine wl_y (y_assign (by conv => lhs; whnf)) ?_
                refine wl_nil ?_
                refine then_normal ?_
                refine wc_seq ?_
                refine wc_region ?_
                refine wl_y (y_move (by conv => lhs; whnf)) ?_
                refine wl_y (y_neq rfl rfl) ?_
                refine wl_nil ?_
                refine then_normal ?_
                refine wc_cond_dec rfl (fun h4 => ?_) (fun h4 => ?_)
                · have hne : stepF (tabR ps) s1 x ps.length ≠ 0 := fun hz => h4 (congrArg Nat.cast hz)
                  refine wc_region ?_
                  refine wl_y (y_move (by conv => lhs; whnf)) ?_
                  refine wl_y (y_move (by conv => lhs; whnf)) ?_
                  refine wl_mapUpdate (i := 1) (k := ((stepF (tabR ps) s1 x ps.length : Nat) : Int)) (v := .bool true) hm rfl rfl rfl rfl Try.underlying81 ok116 (fun W hm => ?_)
                  refine wl_nil ?_
                  refine block_normal ?_
                  refine then_normal ?_
                  refine wc_region ?_
                  refine wl_y (y_move (by conv => lhs; whnf)) ?_
                  refine wl_y (y_add64 rfl rfl (by omega)) ?_
                  refine wl_y (y_assign (by conv => lhs; whnf)) ?_
                  refine wl_nil ?_
                  refine next_round (σ := Nat × List (Int × Value)) (x + 1, kvSet kv2 ((stepF (tabR ps) s1 x ps.length : Nat) : Int) (.bool true)) rfl (by repeat first | exact out_hav | refine out_look rfl ?_ | refine out_havIn rfl ?_) ⟨rfl, trivial⟩ ⟨hm, by omega, hnx.put hne⟩ (by (try dsimp only); omega)
                · have hz : stepF (tabR ps) s1 x ps.length = 0 := by have h : ¬ ¬ ((stepF (tabR ps) s1 x ps.length : Nat) : Int) = 0 := h4; omega
                  refine wc_skip ?_
                  refine block_normal ?_
                  refine then_normal ?_
                  refine wc_region ?_
                  refine wl_y (y_move (by conv => lhs; whnf)) ?_
                  refine wl_y (y_add64 rfl rfl (by omega)) ?_
                  refine wl_y (y_assign (by conv => lhs; whnf)) ?_
                  refine wl_nil ?_
                  refine next_round (σ := Nat × List (Int × Value)) (x + 1, kv2) rfl (by repeat first | exact out_hav | refine out_look rfl ?_ | refine out_havIn rfl ?_) ⟨rfl, trivial⟩ ⟨hm, by omega, hnx.skip hz⟩ (by (try dsimp only); omega)
              · obtain rfl : x = 2 := by omega
                refine wc_exit ?_
                refine then_exit ?_
                refine then_exit ?_
                refine block_exit ?_
                refine block_normal ?_
                refine next_round (σ := List Nat × Bool × List (Int × Value)) (sn, decide (popF s1 ≤ 1), kv2) rfl (by repeat first | exact out_hav | refine out_look rfl ?_ | refine out_havIn rfl ?_) ⟨rfl, trivial⟩ ⟨hm, by rw [hsn]; exact hnx.end_ hpq 0, by rw [hsn]; exact hao.more hpq (by omega) himgs1⟩ (by rw [hsn]; exact unseen_lt (List.getElem?_eq_some_iff.1 hpq).1 hps)
          · have hal : al = false := h2
            subst hal
            refine wl_guard_no rfl ?_
            refine wl_guard_no rfl ?_
            refine wl_y (y_pick_false rfl (by conv => lhs; whnf)) ?_
            refine wl_y (y_assign (by conv => lhs; whnf)) ?_
            refine wl_nil ?_
            refine then_normal ?_
            refine wc_seq ?_
            refine wc_region ?_
            refine wl_y (y_assign (by conv => lhs; whnf)) ?_
            refine wl_nil ?_
            refine then_normal ?_
            refine wc_block ?_
            refine wc_loop [8, 9, 32, 33, 34, 35, 36, 37, 38, 39, 40, 41, 42, 43] (fun ((x, kv2) : Nat × List (Int × Value)) => [(8, .int .i64 (x : Int))]) (fun ((x, kv2) : Nat × List (Int × Value)) W => Mem w [] [mapEn (Value.int .i64) mk kv, mapEn (Value.int .i64) m20 kv2, iterEn r22 mk kv.length sn] W ∧ x ≤ 2 ∧ NextOk (tabR ps) ps.length kv seen s1 x kv2) (fun ((x, kv2) : Nat × List (Int × Value)) => 2 - x) ((0, kv2) : Nat × List (Int × Value)) ?_ ?_ ?_
            · exact ⟨rfl, trivial⟩
            · exact ⟨hm, Nat.zero_le _, hnx⟩
            · rintro ⟨x, kv2⟩ u W ⟨hm, hx, hnx⟩
              refine wc_seq ?_
              refine wc_seq ?_
              refine wc_region ?_
              refine wl_y (y_move (by conv => lhs; whnf)) ?_
              refine wl_y (y_lss rfl rfl) ?_
              refine wl_nil ?_
              refine then_normal ?_
              refine wc_cond_dec rfl (fun h5 => ?_) (fun h5 => ?_)
              · skip
                refine wc_skip ?_
                refine then_normal ?_
                refine wc_seq ?_
                refine wc_block ?_
                refine wc_seq ?_
                refine wc_region ?_
                refine wl_y (y_move (by conv => lhs; whnf)) ?_
                refine wl_y (y_move (by conv => lhs; whnf)) ?_
                refine wl_y (y_move (by conv => lhs; whnf)) ?_
                refine wl_callR hm hb61 (rstep_calls _ _ _ s1 x (hl.step hm.upd) ho (by omega) (by omega)) rfl rfl (fun W hm hu => ?_)
                refine wl_y (y_assign (by conv => lhs; whnf)) ?_
                refine wl_nil ?_
                refine then_normal ?_
                refine wc_seq ?_
                refine wc_region ?_
                refine wl_y (y_move (by conv => lhs; whnf)) ?_
                refine wl_y (y_neq rfl rfl) ?_
                refine wl_nil ?_
                refine then_normal ?_
                refine wc_cond_dec rfl (fun h6 => ?_) (fun h6 => ?_)
                · have hne : stepF (tabR ps) s1 x ps.length ≠ 0 := fun hz => h6 (congrArg Nat.cast hz)
                  refine wc_region ?_
                  refine wl_y (y_move (by conv => lhs; whnf)) ?_
                  refine wl_y (y_move (by conv => lhs; whnf)) ?_
                  refine wl_mapUpdate (i := 1) (k := ((stepF (tabR ps) s1 x ps.length : Nat) : Int)) (v := .bool true) hm rfl rfl rfl rfl Try.underlying81 ok116 (fun W hm => ?_)
                  refine wl_nil ?_
                  refine block_normal ?_
                  refine then_normal ?_
                  refine wc_region ?_
                  refine wl_y (y_move (by conv => lhs; whnf)) ?_
                  refine wl_y (y_add64 rfl rfl (by omega)) ?_
                  refine wl_y (y_assign (by conv => lhs; whnf)) ?_
                  refine wl_nil ?_
                  refine next_round (σ := Nat × List (Int × Value)) (x + 1, kvSet kv2 ((stepF (tabR ps) s1 x ps.length : Nat) : Int) (.bool true)) rfl (by repeat first | exact out_hav | refine out_look rfl ?_ | refine out_havIn rfl ?_) ⟨rfl, trivial⟩ ⟨hm, by omega, hnx.put hne⟩ (by (try dsimp only); omega)
                · have hz : stepF (tabR ps) s1 x ps.length = 0 := by have h : ¬ ¬ ((stepF (tabR ps) s1 x ps.length : Nat) : Int) = 0 := h6; omega
                  refine wc_skip ?_
                  refine block_normal ?_
                  refine then_normal ?_
                  refine wc_region ?_
                  refine wl_y (y_move (by conv => lhs; whnf)) ?_
                  refine wl_y (y_add64 rfl rfl (by omega)) ?_
                  refine wl_y (y_assign (by conv => lhs; whnf)) ?_
                  refine wl_nil ?_
                  refine next_round (σ := Nat × List (Int × Value)) (x + 1, kv2) rfl (by repeat first | exact out_hav | refine out_look rfl ?_ | refine out_havIn rfl ?_) ⟨rfl, trivial⟩ ⟨hm, by omega, hnx.skip hz⟩ (by (try dsimp only); omega)
              · obtain rfl : x = 2 := by omega
                refine wc_exit ?_
                refine then_exit ?_
                refine then_exit ?_
                refine block_exit ?_
                refine block_normal ?_
                refine next_round (σ := List Nat × Bool × List (Int × Value)) (sn, false, kv2) rfl (by repeat first | exact out_hav | refine out_look rfl ?_ | refine out_havIn rfl ?_) ⟨rfl, trivial⟩ ⟨hm, by rw [hsn]; exact hnx.end_ hpq 0, by rw [hsn]; exact hao.not⟩ (by rw [hsn]; exact unseen_lt (List.getElem?_eq_some_iff.1 hpq).1 hps)
        · skip
          refine wl_y (y_extract rfl rfl) ?_
          refine wl_nil ?_
          refine then_normal ?_
          refine wc_seq ?_
          refine wc_cond_false rfl ?_
          refine wc_exit ?_
          refine then_exit ?_
          refine then_exit ?_
          refine block_exit ?_
          refine then_normal ?_
          refine wc_seq ?_
          refine wc_seq ?_
          refine wc_region ?_
          refine wl_y (y_move (by conv => lhs; whnf)) ?_
          refine wl_nil ?_
          refine then_normal ?_
          refine wc_cond rfl (fun h7 => ?_) (fun h7 => ?_)
          · have hdone := sets_done hks hall (hao.1 h7)
            refine wc_seq ?_
            refine wc_region ?_
            refine wl_y (y_move (by conv => lhs; whnf)) ?_
            refine wl_y (y_assign (by conv => lhs; whnf)) ?_
            refine wl_nil ?_
            refine then_normal ?_
            refine wc_ret ?_
            refine then_ret ?_
            refine block_ret ?_
            refine then_ret ?_
            refine then_ret ?_
            refine block_ret ?_
            refine then_ret ?_
            refine post_ret (results_fr rfl) ?_
            refine ⟨?_, hm.upd⟩
            unfold rMemV
            rw [memV_of (by omega) hdone hnod]; rfl
          · obtain ⟨s9, h91, h92, h93⟩ := hao.2 h7
            have hnd := doneB_not h91 h92 h93
            have hks2 := hnx.sets ho hks hall
            refine wc_skip ?_
            refine then_normal ?_
            refine wc_region ?_
            refine wl_y (y_move (by conv => lhs; whnf)) ?_
            refine wl_y (y_assign (by conv => lhs; whnf)) ?_
            refine wl_nil ?_
            refine block_normal ?_
            refine then_normal ?_
            refine wc_region ?_
            refine wl_y (y_move (by conv => lhs; whnf)) ?_
            refine wl_y (y_add64 rfl rfl (by omega)) ?_
            refine wl_y (y_assign (by conv => lhs; whnf)) ?_
            refine wl_nil ?_
            refine next_round (σ := Nat × List (Int × Value) × Nat) (m + 1, kv2, m20) rfl (by repeat first | exact out_hav | refine out_look rfl ?_ | refine out_havIn rfl ?_) ⟨rfl, rfl, trivial⟩ ⟨(hm.take 2).erase 0, hks2, allLt2 hnod hnd, by omega⟩ (by (try dsimp only); omega)
    · obtain rfl : m = 33 := by omega
      refine wc_exit ?_
      refine then_exit ?_
      refine then_exit ?_
      refine block_exit ?_
      refine then_normal ?_
      refine wc_seq ?_
      refine wc_region ?_
      refine wl_y (y_assign (by conv => lhs; whnf)) ?_
      refine wl_nil ?_
      refine then_normal ?_
      refine wc_ret ?_
      refine post_ret (results_fr rfl) ?_
      refine ⟨?_, hm.upd⟩
      unfold rMemV
      rw [memV_not hnod]; rfl
end Go.Proofs.Ytofpdjpenmhbnaa
namespace Go.Proofs.Ytofpdjpenmhbnaa
open Go Go.Kx

theorem ok27 : KeyOk Try.prog 27 (arrV .i64 (len := 2)) := keyOk_arr Try.underlying27 ti3 Try.underlying3
theorem tab_get {l : List (Int × Int)} {i : Nat} (h : i < l.length) : l[i]? = some (tabR l i 0, tabR l i 1) := by
  rw [List.getElem?_eq_getElem h]
  simp [tabR, pr, List.getD, h]

set_option maxHeartbeats 4000000 in
theorem returns_calls (w : World) (vl : Value) (ps : List (Int × Int)) (a b : Nat) (hl : SlAt w 2 vl ps.length (prs ps)) (ho : Okf ps.length (tabR ps)) (ha : a < ps.length) (hb : b < ps.length) (hne : a ≠ b) :
    Cl Try.prog 63 [vl, .int .i64 (a : Int), .int .i64 (b : Int)].toArray w (Ret w (.bool (dtPair (tabR ps) a b).isSome)) := by
  have hk := ho.k5
  have hm : Mem w [] [] w := Mem.init w
  refine cl_enter Try.func63 rfl Try.ntmps63 rfl ?_
  refine wc_seq ?_
  refine wc_region ?_
  refine wl_y (y_assign (by conv => lhs; whnf)) ?_
  refine wl_nil ?_
  refine then_normal ?_
  refine wc_seq ?_
  refine wc_region ?_
  refine wl_y (y_move (by conv => lhs; whnf)) ?_
  refine wl_y (y_move (by conv => lhs; whnf)) ?_
  refine wl_y (y_build2A rfl rfl Try.underlying27 ti27 ⟨_, ti3⟩ rfl rfl) ?_
  refine wl_alloc hm ti27 (fun W b7 hm hb7 hu => ?_)
  refine wl_storeBlk (i := 0) (vs := pcells ((a : Int), (b : Int))) hm rfl rfl rfl ti27 rfl rfl (by simp [pcells, Value.oneCell']) (fun W hm => ?_)
  refine wl_nil ?_
  refine then_normal ?_
  refine wc_seq ?_
  refine wc_region ?_
  refine wl_y (y_loadBlk (xs := pcells ((a : Int), (b : Int))) rfl (hm.at (i := 0) rfl) Try.underlying27 rfl ti27) ?_
  refine wl_lit1 (v := prV .i64 ((a : Int), (b : Int))) hm rfl Try.underlying22 ti27 rfl (by decide) (fun W v17 hm hu17 => ?_)
  refine wl_y (y_assign (by conv => lhs; whnf)) ?_
  refine wl_nil ?_
  refine then_normal ?_
  refine wc_seq ?_
  refine wc_region ?_
  refine wl_makeMap hm (arrV .i64 (len := 2)) (fun W m18 hm hm18 hu => ?_)
  refine wl_y (y_assign (by conv => lhs; whnf)) ?_
  refine wl_nil ?_
  refine then_normal ?_
  refine wc_seq ?_
  refine wc_seq ?_
  refine wc_region ?_
  refine wl_y (y_assign (by conv => lhs; whnf)) ?_
  refine wl_nil ?_
  refine then_normal ?_
  refine wc_block ?_
  have hm : Mem w [] [.blk b7 27 (pcells ((a : Int), (b : Int))), .own 27 2 v17 [((a : Int), (b : Int))].length (prs [((a : Int), (b : Int))]), mapEn (arrV .i64 (len := 2)) m18 (KV ([((a : Int), (b : Int))].drop 1))] W := hm
  refine wc_loop [6, 8, 10, 11, 12, 19, 20, 21, 22, 23, 24, 25, 26, 27, 28, 29, 30, 31, 32, 33, 34, 35, 36, 37, 38, 39, 40, 41, 42, 43, 44, 45, 46, 47, 48, 49, 50, 51, 52, 53, 54, 55, 56, 57, 58, 59, 60, 61, 62, 63, 64, 65, 66, 67, 68, 69, 70, 71] (fun ((i, l, v8) : Nat × List (Int × Int) × Value) => [(10, .int .i64 (i : Int)), (8, v8)]) (fun ((i, l, v8) : Nat × List (Int × Int) × Value) W => Mem w [] [.blk b7 27 (pcells ((a : Int), (b : Int))), .own 27 2 v8 l.length (prs l), mapEn (arrV .i64 (len := 2)) m18 (KV (l.drop 1))] W ∧ i ≤ l.length ∧ LS (tabR ps) ps.length ((a : Int), (b : Int)) i 0 l) (fun ((i, l, v8) : Nat × List (Int × Int) × Value) => 28 - i) ((0, [((a : Int), (b : Int))], v17) : Nat × List (Int × Int) × Value) ?_ ?_ ?_
  · exact ⟨rfl, rfl, trivial⟩
  · exact ⟨hm, Nat.zero_le _, LS.start (by simp only; omega)⟩
  · rintro ⟨i, l, v8⟩ u W ⟨hm, hi, hls⟩
    have hl27 := hls.len hk
    refine wc_seq ?_
    refine wc_seq ?_
    refine wc_region ?_
    refine wl_y (y_move (by conv => lhs; whnf)) ?_
    refine wl_y (y_move (by conv => lhs; whnf)) ?_
    refine wl_y (y_lenSl (by conv => lhs; whnf) (hm.slAt 1 rfl) Try.underlying22) ?_
    refine wl_y (y_lss rfl rfl) ?_
    refine wl_nil ?_
    refine then_normal ?_
    refine wc_cond_dec rfl (fun h1 => ?_) (fun h1 => ?_)
    · have hil : i < l.length := by omega
      refine wc_skip ?_
      refine then_normal ?_
      refine wc_seq ?_
      refine wc_block ?_
      refine wc_seq ?_
      refine wc_region ?_
      refine wl_y (y_assign (by conv => lhs; whnf)) ?_
      refine wl_nil ?_
      refine then_normal ?_
      refine wc_block ?_
      refine wc_loop [6, 8, 11, 12, 25, 26, 27, 28, 29, 30, 31, 32, 33, 34, 35, 36, 37, 38, 39, 40, 41, 42, 43, 44, 45, 46, 47, 48, 49, 50, 51, 52, 53, 54, 55, 56, 57, 58, 59, 60, 61, 62, 63, 64, 65, 66, 67, 68, 69, 70, 71] (fun ((x, l2, v82) : Nat × List (Int × Int) × Value) => [(11, .int .i64 (x : Int)), (8, v82)]) (fun ((x, l2, v82) : Nat × List (Int × Int) × Value) W => Mem w [] [.blk b7 27 (pcells ((a : Int), (b : Int))), .own 27 2 v82 l2.length (prs l2), mapEn (arrV .i64 (len := 2)) m18 (KV (l2.drop 1))] W ∧ x ≤ 2 ∧ i < l2.length ∧ LS (tabR ps) ps.length ((a : Int), (b : Int)) i x l2) (fun ((x, l2, v82) : Nat × List (Int × Int) × Value) => 2 - x) ((0, l, v8) : Nat × List (Int × Int) × Value) ?_ ?_ ?_
      · exact ⟨rfl, rfl, trivial⟩
      · exact ⟨hm, Nat.zero_le _, hil, hls⟩
      · rintro ⟨x, l2, v82⟩ u W ⟨hm, hx, hil2, hls⟩
        refine wc_seq ?_
        refine wc_seq ?_
        refine wc_region ?_
        refine wl_y (y_move (by conv => lhs; whnf)) ?_
        refine wl_y (y_lss rfl rfl) ?_
        refine wl_nil ?_
        refine then_normal ?_
        refine wc_cond_dec rfl (fun h2 => ?_) (fun h2 => ?_)
        · have hx2 : x < 2 := by omega
          have hyg := tab_get hil2
          have hyd := hls.dom _ (List.mem_of_getElem? hyg)
          simp only at hyd
          refine wc_skip ?_
          refine then_normal ?_
          refine wc_seq ?_
          refine wc_block ?_
          refine wc_seq ?_
          refine wc_draw (C := fun W => Mem w [] [.blk b7 27 (pcells ((a : Int), (b : Int))), .own 27 2 v82 l2.length (prs l2), mapEn (arrV .i64 (len := 2)) m18 (KV (l2.drop 1))] W) (some 22) mix (by kernel_rfl) (by kernel_rfl) (Mem.stable _ _ _) (hm.step (upd_drew _)) ?_
          refine al_y (by kernel_rfl) (fun W hm => y_move (by conv => lhs; whnf)) ?_
          refine al_y (by kernel_rfl) (fun W hm => y_move (by conv => lhs; whnf)) ?_
          refine al_y (by kernel_rfl) (fun W hm => y_move (by conv => lhs; whnf)) ?_
          refine al_y (by kernel_rfl) (fun W hm => y_indexAddr (by conv => lhs; whnf) rfl (hm.slAt 1 rfl) (by omega) Try.underlying22 ti27 (by decide)) ?_
          refine al_y (by kernel_rfl) (fun W hm => y_indexArrSl rfl rfl (hm.slAt 1 rfl) (by simp; omega) (by omega) Try.underlying27 ti3) ?_
          refine al_y (by kernel_rfl) (fun W hm => y_loadSl rfl (hm.slAt 1 rfl) (by first | exact tabR_at (x := 0) (by omega) (by decide) | exact tabR_at (x := 1) (by omega) (by decide)) Try.underlying3 rfl) ?_
          refine al_y (by kernel_rfl) (fun W hm => y_move (by conv => lhs; whnf)) ?_
          refine al_y (by kernel_rfl) (fun W hm => y_indexAddr (by conv => lhs; whnf) rfl (hl.step hm.upd) (by omega) Try.underlying22 ti27 (by decide)) ?_
          refine al_y (by kernel_rfl) (fun W hm => y_indexArrSl rfl rfl (hl.step hm.upd) (by simp; omega) (by omega) Try.underlying27 ti3) ?_
          refine al_y (by kernel_rfl) (fun W hm => y_loadSl rfl (hl.step hm.upd) (tabR_aI (by omega) (by omega)) Try.underlying3 rfl) ?_
          refine al_y (by kernel_rfl) (fun W hm => y_move (by conv => lhs; whnf)) ?_
          refine al_y (by kernel_rfl) (fun W hm => y_move (by conv => lhs; whnf)) ?_
          refine al_y (by kernel_rfl) (fun W hm => y_move (by conv => lhs; whnf)) ?_
          refine al_y (by kernel_rfl) (fun W hm => y_indexAddr (by conv => lhs; whnf) rfl (hm.slAt 1 rfl) (by omega) Try.underlying22 ti27 (by decide)) ?_
          refine al_y (by kernel_rfl) (fun W hm => y_indexArrSl rfl rfl (hm.slAt 1 rfl) (by simp; omega) (by omega) Try.underlying27 ti3) ?_
          refine al_y (by kernel_rfl) (fun W hm => y_loadSl rfl (hm.slAt 1 rfl) (by first | exact tabR_at (x := 0) (by omega) (by decide) | exact tabR_at (x := 1) (by omega) (by decide)) Try.underlying3 rfl) ?_
          refine al_y (by kernel_rfl) (fun W hm => y_move (by conv => lhs; whnf)) ?_
          refine al_y (by kernel_rfl) (fun W hm => y_indexAddr (by conv => lhs; whnf) rfl (hl.step hm.upd) (by omega) Try.underlying22 ti27 (by decide)) ?_
          refine al_y (by kernel_rfl) (fun W hm => y_indexArrSl rfl rfl (hl.step hm.upd) (by simp; omega) (by omega) Try.underlying27 ti3) ?_
          refine al_y (by kernel_rfl) (fun W hm => y_loadSl rfl (hl.step hm.upd) (tabR_aI (by omega) (by omega)) Try.underlying3 rfl) ?_
          refine al_y (by kernel_rfl) (fun W hm => y_build2A rfl rfl Try.underlying27 ti27 ⟨_, ti3⟩ rfl rfl) ?_
          refine al_loud (by kernel_rfl) (fun W hm => ?_)
          refine wl_alloc hm ti27 (fun W b12 hm hb12 hu => ?_)
          refine nx_keep hm (fun W h => h.take 3) ?_
          refine al_loud (by kernel_rfl) (fun W hm => ?_)
          refine wl_storeBlk (i := 3) (vs := pcells ((tabR ps (tabR l2 i 0).toNat x), (tabR ps (tabR l2 i 1).toNat x))) hm rfl rfl rfl ti27 rfl rfl (by simp [pcells, Value.oneCell']) (fun W hm => ?_)
          refine nx_store none hm rfl ?_
          refine al_nil (by kernel_rfl) (fun W hm => ?_)
          refine then_normal ?_
          refine wc_seq ?_
          refine wc_seq ?_
          refine wc_region ?_
          refine wl_y (y_indexArr rfl rfl (by omega) Try.underlying27 ti3) ?_
          refine wl_y (y_load (v := .int .i64 (tabR ps (tabR l2 i 0).toNat x)) rfl (hm.blk_cell 3 rfl rfl) Try.underlying3 rfl) ?_
          refine wl_y (y_lss rfl rfl) ?_
          refine wl_split rfl (fun h3 => ?_) (fun h3 => ?_)
          · have hnq : ¬ okQ (nq (tabR ps) (tabR l2 i 0, tabR l2 i 1) x) ∨ nq (tabR ps) (tabR l2 i 0, tabR l2 i 1) x ∈ l2.drop 1 := .inl (fun hh => by have := hh.1; have h : (tabR ps (tabR l2 i 0).toNat x) < 0 := h3; unfold nq at this; simp only at this; omega)
            refine wl_guard_no rfl ?_
            refine wl_guard_no rfl ?_
            refine wl_guard_no rfl ?_
            refine wl_y (y_pick_true rfl (by conv => lhs; whnf)) ?_
            refine wl_y (y_move (by conv => lhs; whnf)) ?_
            refine wl_guard_no rfl ?_
            refine wl_guard_no rfl ?_
            refine wl_guard_no rfl ?_
            refine wl_y (y_pick_true rfl (by conv => lhs; whnf)) ?_
            refine wl_nil ?_
            refine then_normal ?_
            refine wc_cond_true rfl ?_
            refine wc_exit ?_
            refine then_exit ?_
            refine block_exit ?_
            refine then_normal ?_
            refine wc_region ?_
            refine wl_y (y_move (by conv => lhs; whnf)) ?_
            refine wl_y (y_add64 rfl rfl (by omega)) ?_
            refine wl_y (y_assign (by conv => lhs; whnf)) ?_
            refine wl_nil ?_
            refine next_round (σ := Nat × List (Int × Int) × Value) (x + 1, l2, v82) rfl (by repeat first | exact out_hav | refine out_look rfl ?_ | refine out_havIn rfl ?_) ⟨rfl, rfl, trivial⟩ ⟨hm.take 3, by omega, hil2, hls.skip hyg hnq⟩ (by (try dsimp only); omega)
          · have hq1 : ¬ (tabR ps (tabR l2 i 0).toNat x) < 0 := h3
            refine wl_guard_yes rfl ?_
            refine wl_y (y_indexArr rfl rfl (by omega) Try.underlying27 ti3) ?_
            refine wl_guard_yes rfl ?_
            refine wl_y (y_load (v := .int .i64 (tabR ps (tabR l2 i 1).toNat x)) rfl (hm.blk_cell 3 rfl rfl) Try.underlying3 rfl) ?_
            refine wl_guard_yes rfl ?_
            refine wl_y (y_lss rfl rfl) ?_
            refine wl_y (y_pick_false rfl (by conv => lhs; whnf)) ?_
            refine wl_split rfl (fun h4 => ?_) (fun h4 => ?_)
            · have hnq : ¬ okQ (nq (tabR ps) (tabR l2 i 0, tabR l2 i 1) x) ∨ nq (tabR ps) (tabR l2 i 0, tabR l2 i 1) x ∈ l2.drop 1 := .inl (fun hh => by have := hh.2; have h : (tabR ps (tabR l2 i 1).toNat x) < 0 := h4; unfold nq at this; simp only at this; omega)
              refine wl_guard_no rfl ?_
              refine wl_guard_no rfl ?_
              refine wl_guard_no rfl ?_
              refine wl_y (y_pick_true rfl (by conv => lhs; whnf)) ?_
              refine wl_nil ?_
              refine then_normal ?_
              refine wc_cond_true rfl ?_
              refine wc_exit ?_
              refine then_exit ?_
              refine block_exit ?_
              refine then_normal ?_
              refine wc_region ?_
              refine wl_y (y_move (by conv => lhs; whnf)) ?_
              refine wl_y (y_add64 rfl rfl (by omega)) ?_
              refine wl_y (y_assign (by conv => lhs; whnf)) ?_
              refine wl_nil ?_
              refine next_round (σ := Nat × List (Int × Int) × Value) (x + 1, l2, v82) rfl (by repeat first | exact out_hav | refine out_look rfl ?_ | refine out_havIn rfl ?_) ⟨rfl, rfl, trivial⟩ ⟨hm.take 3, by omega, hil2, hls.skip hyg hnq⟩ (by (try dsimp only); omega)
            · have hq2 : ¬ (tabR ps (tabR l2 i 1).toNat x) < 0 := h4
              refine wl_guard_yes rfl ?_
              refine wl_y (y_move (by conv => lhs; whnf)) ?_
              refine wl_guard_yes rfl ?_
              refine wl_y (y_loadBlk (xs := pcells ((tabR ps (tabR l2 i 0).toNat x), (tabR ps (tabR l2 i 1).toNat x))) rfl (hm.at (i := 3) rfl) Try.underlying27 rfl ti27) ?_
              refine wl_guard_yes rfl ?_
              refine wl_y (v := .bool (decide (((tabR ps (tabR l2 i 0).toNat x), (tabR ps (tabR l2 i 1).toNat x)) ∈ l2.drop 1))) (by rw [← KV_get]; exact y_lookup (k := a2 ((tabR ps (tabR l2 i 0).toNat x), (tabR ps (tabR l2 i 1).toNat x))) (hm.at (i := 2) rfl) rfl rfl Try.underlying126 ok27 ti4) ?_
              refine wl_y (y_pick_false rfl (by conv => lhs; whnf)) ?_
              refine wl_nil ?_
              refine then_normal ?_
              refine wc_cond_dec rfl (fun h5 => ?_) (fun h5 => ?_)
              · have hnq : ¬ okQ (nq (tabR ps) (tabR l2 i 0, tabR l2 i 1) x) ∨ nq (tabR ps) (tabR l2 i 0, tabR l2 i 1) x ∈ l2.drop 1 := .inr h5
                refine wc_exit ?_
                refine then_exit ?_
                refine block_exit ?_
                refine then_normal ?_
                refine wc_region ?_
                refine wl_y (y_move (by conv => lhs; whnf)) ?_
                refine wl_y (y_add64 rfl rfl (by omega)) ?_
                refine wl_y (y_assign (by conv => lhs; whnf)) ?_
                refine wl_nil ?_
                refine next_round (σ := Nat × List (Int × Int) × Value) (x + 1, l2, v82) rfl (by repeat first | exact out_hav | refine out_look rfl ?_ | refine out_havIn rfl ?_) ⟨rfl, rfl, trivial⟩ ⟨hm.take 3, by omega, hil2, hls.skip hyg hnq⟩ (by (try dsimp only); omega)
              · have hnm : ((tabR ps (tabR l2 i 0).toNat x), (tabR ps (tabR l2 i 1).toNat x)) ∉ l2.drop 1 := h5
                have hokq : okQ (nq (tabR ps) (tabR l2 i 0, tabR l2 i 1) x) := ⟨Int.not_lt.1 hq1, Int.not_lt.1 hq2⟩
                refine wc_skip ?_
                refine then_normal ?_
                refine wc_seq ?_
                refine wc_seq ?_
                refine wc_region ?_
                refine wl_y (y_loadBlk (xs := pcells ((tabR ps (tabR l2 i 0).toNat x), (tabR ps (tabR l2 i 1).toNat x))) rfl (hm.at (i := 3) rfl) Try.underlying27 rfl ti27) ?_
                refine wl_y (y_loadBlk (xs := pcells ((a : Int), (b : Int))) rfl (hm.at (i := 0) rfl) Try.underlying27 rfl ti27) ?_
                refine wl_y (y_eqlPair rfl rfl (by kernel_rfl) Try.underlying27 ti3 Try.underlying3) ?_
                refine wl_nil ?_
                refine then_normal ?_
                refine wc_cond_dec rfl (fun h6 => ?_) (fun h6 => ?_)
                · have hrr := hls.found hyg hx2 hokq (Prod.ext (h6).1 (h6).2)
                  refine wc_seq ?_
                  refine wc_region ?_
                  refine wl_y (y_assign (by conv => lhs; whnf)) ?_
                  refine wl_nil ?_
                  refine then_normal ?_
                  refine wc_ret ?_
                  refine then_ret ?_
                  refine block_ret ?_
                  refine then_ret ?_
                  refine then_ret ?_
                  refine block_ret ?_
                  refine block_ret ?_
                  refine then_ret ?_
                  refine then_ret ?_
                  refine block_ret ?_
                  refine then_ret ?_
                  refine post_ret (results_fr rfl) ?_
                  refine ⟨?_, hm.upd⟩
                  rw [ret_some ho ha hb hne hrr]; rfl
                · have hns : nq (tabR ps) (tabR l2 i 0, tabR l2 i 1) x ≠ ((a : Int), (b : Int)) := fun e => h6 ⟨congrArg Prod.fst e, congrArg Prod.snd e⟩
                  have hl27 := hls.len hk
                  refine wc_skip ?_
                  refine then_normal ?_
                  refine wc_seq ?_
                  refine wc_region ?_
                  refine wl_y (y_move (by conv => lhs; whnf)) ?_
                  refine wl_y (y_loadBlk (xs := pcells ((tabR ps (tabR l2 i 0).toNat x), (tabR ps (tabR l2 i 1).toNat x))) rfl (hm.at (i := 3) rfl) Try.underlying27 rfl ti27) ?_
                  refine wl_mapUpdate (i := 2) (k := a2 ((tabR ps (tabR l2 i 0).toNat x), (tabR ps (tabR l2 i 1).toNat x))) (v := .bool true) hm rfl rfl rfl rfl Try.underlying126 ok27 (fun W hm => ?_)
                  rw [KV_set hnm, ← drop1_snoc hls.pos] at hm
                  refine wl_nil ?_
                  refine then_normal ?_
                  refine wc_region ?_
                  refine wl_y (y_move (by conv => lhs; whnf)) ?_
                  refine wl_y (y_loadBlk (xs := pcells ((tabR ps (tabR l2 i 0).toNat x), (tabR ps (tabR l2 i 1).toNat x))) rfl (hm.at (i := 3) rfl) Try.underlying27 rfl ti27) ?_
                  refine wl_lit1 (v := prV .i64 ((tabR ps (tabR l2 i 0).toNat x), (tabR ps (tabR l2 i 1).toNat x))) hm rfl Try.underlying22 ti27 rfl (by decide) (fun W v70 hm hu70 => ?_)
                  have hm : Mem w [] ([.blk b7 27 (pcells ((a : Int), (b : Int))), .own 27 2 v82 l2.length (prs l2), mapEn (arrV .i64 (len := 2)) m18 (KV ((l2 ++ [((tabR ps (tabR l2 i 0).toNat x), (tabR ps (tabR l2 i 1).toNat x))]).drop 1)), .blk b12 27 (pcells ((tabR ps (tabR l2 i 0).toNat x), (tabR ps (tabR l2 i 1).toNat x)))] ++ [.own 27 2 v70 1 [.int .i64 (tabR ps (tabR l2 i 0).toNat x), .int .i64 (tabR ps (tabR l2 i 1).toNat x)]]) W := hm
                  refine wl_appendTo (i := 1) hm rfl rfl rfl (hm.slAt 4 rfl) (prs_snoc _ _ _) Try.underlying22 ti27 rfl (by decide) (by simp [Value.oneCell']) (by omega) (fun W v71 hm hv71 => ?_)
                  have hm : Mem w [] [.blk b7 27 (pcells ((a : Int), (b : Int))), .own 27 2 v71 (l2.length + 1) (prs (l2 ++ [((tabR ps (tabR l2 i 0).toNat x), (tabR ps (tabR l2 i 1).toNat x))])), mapEn (arrV .i64 (len := 2)) m18 (KV ((l2 ++ [((tabR ps (tabR l2 i 0).toNat x), (tabR ps (tabR l2 i 1).toNat x))]).drop 1))] W := hm.take 3
                  rw [show l2.length + 1 = (l2 ++ [((tabR ps (tabR l2 i 0).toNat x), (tabR ps (tabR l2 i 1).toNat x))]).length by rw [List.length_append]; rfl] at hm
                  refine wl_y (y_assign (by conv => lhs; whnf)) ?_
                  refine wl_nil ?_
                  refine block_normal ?_
                  refine then_normal ?_
                  refine wc_region ?_
                  refine wl_y (y_move (by conv => lhs; whnf)) ?_
                  refine wl_y (y_add64 rfl rfl (by omega)) ?_
                  refine wl_y (y_assign (by conv => lhs; whnf)) ?_
                  refine wl_nil ?_
                  refine next_round (σ := Nat × List (Int × Int) × Value) (x + 1, l2 ++ [((tabR ps (tabR l2 i 0).toNat x), (tabR ps (tabR l2 i 1).toNat x))], v71) rfl (by repeat first | exact out_hav | refine out_look rfl ?_ | refine out_havIn rfl ?_) ⟨rfl, rfl, trivial⟩ ⟨hm, by omega, by rw [List.length_append]; omega, hls.push ho hyg hx2 hokq hnm hns⟩ (by (try dsimp only); omega)
        · obtain rfl : x = 2 := by omega
          refine wc_exit ?_
          refine then_exit ?_
          refine then_exit ?_
          refine block_exit ?_
          refine block_normal ?_
          refine then_normal ?_
          refine wc_region ?_
          refine wl_y (y_move (by conv => lhs; whnf)) ?_
          refine wl_y (y_add64 rfl rfl (by omega)) ?_
          refine wl_y (y_assign (by conv => lhs; whnf)) ?_
          refine wl_nil ?_
          refine next_round (σ := Nat × List (Int × Int) × Value) (i + 1, l2, v82) rfl (by repeat first | exact out_hav | refine out_look rfl ?_ | refine out_havIn rfl ?_) ⟨rfl, rfl, trivial⟩ ⟨hm, by omega, hls.outer⟩ (by (try dsimp only); omega)
    · have hnr := hls.inner (by omega)
      refine wc_exit ?_
      refine then_exit ?_
      refine then_exit ?_
      refine block_exit ?_
      refine then_normal ?_
      refine wc_seq ?_
      refine wc_region ?_
      refine wl_y (y_assign (by conv => lhs; whnf)) ?_
      refine wl_nil ?_
      refine then_normal ?_
      refine wc_ret ?_
      refine post_ret (results_fr rfl) ?_
      refine ⟨?_, hm.upd⟩
      rw [ret_none ho ha hb hne hnr]; rfl
end Go.Proofs.Ytofpdjpenmhbnaa
namespace Go.Proofs.Ytofpdjpenmhbnaa
open Go Go.Kx

set_option maxHeartbeats 4000000 in
theorem soficManning_calls (w : World) (vl : Value) (ps : List (Int × Int)) (m0 : Int) (j : Bool) (hl : SlAt w 2 vl ps.length (prs ps)) (hwf : (Lit.int .i64 m0).wf = true) :
    Cl Try.prog 12 [vl, .int .i64 m0, .bool j].toArray w (Ret w (.bool true)) := by
  have hm : Mem w [] [] w := Mem.init w
  refine cl_enter Try.func12 rfl Try.ntmps12 rfl ?_
  refine wc_seq ?_
  refine wc_region ?_
  refine wl_y (y_assign (by conv => lhs; whnf)) ?_
  refine wl_nil ?_
  refine then_normal ?_
  refine wc_seq ?_
  refine wc_region ?_
  refine wl_y (y_move (by conv => lhs; whnf)) ?_
  refine wl_y (y_move (by conv => lhs; whnf)) ?_
  refine wl_callM hm hb14 (tame_calls _ _ ps j (hl.step hm.upd)) rfl rfl (fun W v30 E hm hu hE => ?_)
  obtain ⟨qs, hTqs, rfl⟩ := hE
  have hokqs := hTqs.1
  have hl1qs := hokqs.1
  refine wl_y (y_assign (by conv => lhs; whnf)) ?_
  refine wl_nil ?_
  refine then_normal ?_
  refine wc_seq ?_
  refine wc_region ?_
  refine wl_y (y_move (by conv => lhs; whnf)) ?_
  refine wl_y (y_convW rfl Try.underlying3 Try.underlying39) ?_
  have hur := u64_range m0
  refine wl_y (y_rem rfl rfl (by omega)) ?_
  refine wl_y (y_conv rfl Try.underlying39 Try.underlying3 (IntWalk.i64_in _ (by omega))) ?_
  obtain ⟨mn, hmn, hm18⟩ : ∃ mn : Nat, 1 + IntKind.u64.wrap m0 % 8 = (mn : Int) ∧ 1 ≤ mn ∧ mn ≤ 8 := ⟨(1 + IntKind.u64.wrap m0 % 8).toNat, by omega, by omega, by omega⟩
  refine wl_y (v := .int .i64 (mn : Int)) (by rw [← hmn]; exact y_add64 rfl rfl (by omega)) ?_
  refine wl_y (y_assign (by conv => lhs; whnf)) ?_
  refine wl_nil ?_
  refine then_normal ?_
  refine wc_seq ?_
  refine wc_region ?_
  refine wl_y (y_move (by conv => lhs; whnf)) ?_
  refine wl_y (y_move (by conv => lhs; whnf)) ?_
  refine wl_callR hm hb23 (Rounds_calls _ _ qs mn (hm.slAt 0 rfl)) rfl rfl (fun W hm hu => ?_)
  refine wl_y (y_move (by conv => lhs; whnf)) ?_
  refine wl_y (y_extract rfl rfl) ?_
  refine wl_y (y_extract rfl rfl) ?_
  refine wl_y (y_assign (by conv => lhs; whnf)) ?_
  refine wl_y (y_assign (by conv => lhs; whnf)) ?_
  refine wl_nil ?_
  refine then_normal ?_
  refine wc_seq ?_
  refine wc_region ?_
  refine wl_y (y_move (by conv => lhs; whnf)) ?_
  refine wl_y (y_move (by conv => lhs; whnf)) ?_
  refine wl_callR hm hb24 (Signed_calls _ _ qs mn (hm.slAt 0 rfl)) rfl rfl (fun W hm hu => ?_)
  refine wl_y (y_move (by conv => lhs; whnf)) ?_
  refine wl_y (y_extract rfl rfl) ?_
  refine wl_y (y_extract rfl rfl) ?_
  refine wl_y (y_assign (by conv => lhs; whnf)) ?_
  refine wl_y (y_assign (by conv => lhs; whnf)) ?_
  refine wl_nil ?_
  refine then_normal ?_
  refine wc_seq ?_
  refine wc_region ?_
  refine wl_y (y_move (by conv => lhs; whnf)) ?_
  refine wl_callM hm hb31 (Form_yes _ _ qs (hm.slAt 0 rfl) hokqs) rfl rfl (fun W v50 E hm hu hE => ?_)
  obtain ⟨vs50, rfl, rfl⟩ := hE
  refine wl_y (y_move (by conv => lhs; whnf)) ?_
  refine wl_y (y_extract rfl rfl) ?_
  refine wl_y (y_extract rfl rfl) ?_
  refine wl_y (y_assign (by conv => lhs; whnf)) ?_
  refine wl_y (y_assign (by conv => lhs; whnf)) ?_
  refine wl_nil ?_
  refine then_normal ?_
  refine wc_seq ?_
  refine wc_seq ?_
  refine wc_region ?_
  have hman := manning hokqs (m := mn) (by omega)
  have hrf := rounds_form hokqs (m := mn) (by omega)
  have hri := rounds_in hokqs (m := mn) (by omega)
  have hsi := signed_in hokqs (m := mn) (by omega)
  have hwi := words_in hokqs (m := mn) (by omega)
  have hci := count_in hokqs (m := mn) (by omega)
  have hfi := forb_in hokqs (m := mn) (by omega)
  rw [Int.toNat_natCast] at hri hwi hci hfi
  have hr1 : (roundsV qs mn).1 = (rRoundsF (tabR qs) qs.length mn : Nat) := by rw [hri]
  have hc1 : (countV qs mn).1 = ((rWordsF (tabR qs) qs.length mn).length : Nat) := by rw [hci]
  have hrw := rounds_words (tabR qs) qs.length mn
  have hwl := rWordsF_len (tabR qs) qs.length mn
  have hp12 := pow12 (n := mn) (by omega)
  have hfl2 := rForbF_len (tabR qs) qs.length mn
  refine wl_y (y_move (by conv => lhs; whnf)) ?_
  refine wl_y (y_neq rfl rfl) ?_
  refine wl_split rfl (fun h1 => ?_) (fun h1 => ?_)
  · exact absurd (by rw [hri]) h1
  · skip
    refine wl_guard_yes rfl ?_
    refine wl_y (y_move (by conv => lhs; whnf)) ?_
    refine wl_guard_yes rfl ?_
    refine wl_y (y_neq rfl rfl) ?_
    refine wl_y (y_pick_false rfl (by conv => lhs; whnf)) ?_
    refine wl_split rfl (fun h2 => ?_) (fun h2 => ?_)
    · exact absurd (by rw [hsi]) h2
    · skip
      refine wl_guard_yes rfl ?_
      refine wl_y (y_move (by conv => lhs; whnf)) ?_
      refine wl_guard_yes rfl ?_
      refine wl_y (y_neq rfl rfl) ?_
      refine wl_y (y_pick_false rfl (by conv => lhs; whnf)) ?_
      refine wl_split rfl (fun h3 => ?_) (fun h3 => ?_)
      · exact absurd rfl h3
      · skip
        refine wl_guard_yes rfl ?_
        refine wl_y (y_move (by conv => lhs; whnf)) ?_
        refine wl_guard_yes rfl ?_
        refine wl_y (y_move (by conv => lhs; whnf)) ?_
        refine wl_guard_yes rfl ?_
        refine wl_y (y_neq rfl rfl) ?_
        refine wl_y (y_pick_false rfl (by conv => lhs; whnf)) ?_
        refine wl_split rfl (fun h4 => ?_) (fun h4 => ?_)
        · exact absurd hman.symm h4
        · skip
          refine wl_guard_yes rfl ?_
          refine wl_y (y_move (by conv => lhs; whnf)) ?_
          refine wl_guard_yes rfl ?_
          refine wl_callR (v := .bool true) hm hb49 (rCheck_yes W _ (formLV qs) (hm.slAt 1 rfl) (formLV_net hokqs)) rfl rfl (fun W hm hu => ?_)
          refine wl_guard_yes rfl ?_
          refine wl_y (y_not rfl) ?_
          refine wl_y (y_pick_false rfl (by conv => lhs; whnf)) ?_
          refine wl_nil ?_
          refine then_normal ?_
          refine wc_cond_false rfl ?_
          refine wc_skip ?_
          refine then_normal ?_
          refine wc_seq ?_
          refine wc_region ?_
          refine wl_y (y_move (by conv => lhs; whnf)) ?_
          refine wl_y (y_move (by conv => lhs; whnf)) ?_
          refine wl_callR hm hb23 (Rounds_calls _ _ (formLV qs) mn (hm.slAt 1 rfl)) rfl rfl (fun W hm hu => ?_)
          refine wl_y (y_move (by conv => lhs; whnf)) ?_
          refine wl_y (y_extract rfl rfl) ?_
          refine wl_y (y_extract rfl rfl) ?_
          refine wl_y (y_assign (by conv => lhs; whnf)) ?_
          refine wl_y (y_assign (by conv => lhs; whnf)) ?_
          refine wl_nil ?_
          refine then_normal ?_
          refine wc_seq ?_
          refine wc_region ?_
          refine wl_y (y_move (by conv => lhs; whnf)) ?_
          refine wl_y (y_move (by conv => lhs; whnf)) ?_
          refine wl_call hb45 (Words_calls _ _ qs mn (hm.slAt 0 rfl)) rfl rfl (fun e W h => ?_)
          obtain ⟨v82, rfl, hv82⟩ := h
          refine ⟨_, rfl, ?_⟩
          have hm := hm.call hv82
          refine wl_y (y_move (by conv => lhs; whnf)) ?_
          refine wl_y (y_extract rfl rfl) ?_
          refine wl_y (y_extract rfl rfl) ?_
          refine wl_y (y_assign (by conv => lhs; whnf)) ?_
          refine wl_y (y_assign (by conv => lhs; whnf)) ?_
          refine wl_nil ?_
          refine then_normal ?_
          refine wc_seq ?_
          refine wc_region ?_
          refine wl_y (y_move (by conv => lhs; whnf)) ?_
          refine wl_y (y_move (by conv => lhs; whnf)) ?_
          refine wl_callR hm hb44 (Count_calls _ _ qs mn (hm.slAt 0 rfl)) rfl rfl (fun W hm hu => ?_)
          refine wl_y (y_move (by conv => lhs; whnf)) ?_
          refine wl_y (y_extract rfl rfl) ?_
          refine wl_y (y_extract rfl rfl) ?_
          refine wl_y (y_assign (by conv => lhs; whnf)) ?_
          refine wl_y (y_assign (by conv => lhs; whnf)) ?_
          refine wl_nil ?_
          refine then_normal ?_
          refine wc_seq ?_
          refine wc_region ?_
          refine wl_y (y_move (by conv => lhs; whnf)) ?_
          refine wl_y (y_move (by conv => lhs; whnf)) ?_
          refine wl_call hb32 (Forbidden_calls _ _ qs mn (hm.slAt 0 rfl)) rfl rfl (fun e W h => ?_)
          obtain ⟨v94, rfl, hv94⟩ := h
          refine ⟨_, rfl, ?_⟩
          have hm := hm.call hv94
          refine wl_y (y_move (by conv => lhs; whnf)) ?_
          refine wl_y (y_extract rfl rfl) ?_
          refine wl_y (y_extract rfl rfl) ?_
          refine wl_y (y_assign (by conv => lhs; whnf)) ?_
          refine wl_y (y_assign (by conv => lhs; whnf)) ?_
          refine wl_nil ?_
          refine then_normal ?_
          refine wc_seq ?_
          refine wc_seq ?_
          refine wc_region ?_
          refine wl_y (y_move (by conv => lhs; whnf)) ?_
          refine wl_y (y_neq rfl rfl) ?_
          refine wl_split rfl (fun h5 => ?_) (fun h5 => ?_)
          · exact absurd (by rw [hrf, hri]) h5
          · skip
            refine wl_guard_yes rfl ?_
            refine wl_y (y_move (by conv => lhs; whnf)) ?_
            refine wl_guard_yes rfl ?_
            refine wl_y (y_neq rfl rfl) ?_
            refine wl_y (y_pick_false rfl (by conv => lhs; whnf)) ?_
            refine wl_split rfl (fun h6 => ?_) (fun h6 => ?_)
            · exact absurd (by rw [hwi]) h6
            · skip
              refine wl_guard_yes rfl ?_
              refine wl_y (y_move (by conv => lhs; whnf)) ?_
              refine wl_guard_yes rfl ?_
              refine wl_y (y_neq rfl rfl) ?_
              refine wl_y (y_pick_false rfl (by conv => lhs; whnf)) ?_
              refine wl_split rfl (fun h7 => ?_) (fun h7 => ?_)
              · exact absurd (by rw [hci]) h7
              · skip
                refine wl_guard_yes rfl ?_
                refine wl_y (y_move (by conv => lhs; whnf)) ?_
                refine wl_guard_yes rfl ?_
                refine wl_y (y_neq rfl rfl) ?_
                refine wl_y (y_pick_false rfl (by conv => lhs; whnf)) ?_
                refine wl_split rfl (fun h8 => ?_) (fun h8 => ?_)
                · exact absurd (by rw [hfi]) h8
                · skip
                  refine wl_guard_yes rfl ?_
                  refine wl_y (y_move (by conv => lhs; whnf)) ?_
                  refine wl_guard_yes rfl ?_
                  refine wl_y (y_move (by conv => lhs; whnf)) ?_
                  refine wl_guard_yes rfl ?_
                  refine wl_y (y_neq rfl rfl) ?_
                  refine wl_y (y_pick_false rfl (by conv => lhs; whnf)) ?_
                  refine wl_split rfl (fun h9 => ?_) (fun h9 => ?_)
                  · exact absurd (by rw [hrf]) h9
                  · skip
                    refine wl_guard_yes rfl ?_
                    refine wl_y (y_move (by conv => lhs; whnf)) ?_
                    refine wl_guard_yes rfl ?_
                    refine wl_y (y_lenSl rfl (hm.slAt 2 rfl) Try.underlying47) ?_
                    refine wl_guard_yes rfl ?_
                    refine wl_y (y_move (by conv => lhs; whnf)) ?_
                    refine wl_guard_yes rfl ?_
                    refine wl_y (y_neq rfl rfl) ?_
                    refine wl_y (y_pick_false rfl (by conv => lhs; whnf)) ?_
                    refine wl_split rfl (fun h10 => ?_) (fun h10 => ?_)
                    · exact absurd (by rw [hwi, hci]) h10
                    · skip
                      refine wl_guard_yes rfl ?_
                      refine wl_y (y_move (by conv => lhs; whnf)) ?_
                      refine wl_guard_yes rfl ?_
                      refine wl_y (y_move (by conv => lhs; whnf)) ?_
                      refine wl_guard_yes rfl ?_
                      refine wl_y (y_bitN rfl rfl (by omega)) ?_
                      refine wl_guard_yes rfl ?_
                      refine wl_y (y_gtr rfl rfl) ?_
                      refine wl_y (y_pick_false rfl (by conv => lhs; whnf)) ?_
                      refine wl_split rfl (fun h11 => ?_) (fun h11 => ?_)
                      · exact absurd h11 (by omega)
                      · skip
                        refine wl_guard_yes rfl ?_
                        refine wl_y (y_move (by conv => lhs; whnf)) ?_
                        refine wl_guard_yes rfl ?_
                        refine wl_y (y_move (by conv => lhs; whnf)) ?_
                        refine wl_guard_yes rfl ?_
                        refine wl_y (y_gtr rfl rfl) ?_
                        refine wl_y (y_pick_false rfl (by conv => lhs; whnf)) ?_
                        refine wl_nil ?_
                        refine then_normal ?_
                        refine wc_cond_dec rfl (fun h12 => ?_) (fun h12 => ?_)
                        · exact absurd h12 (by omega)
                        · skip
                          refine wc_skip ?_
                          refine then_normal ?_
                          refine wc_seq ?_
                          refine wc_seq ?_
                          refine wc_region ?_
                          refine wl_y (y_assign (by conv => lhs; whnf)) ?_
                          refine wl_nil ?_
                          refine then_normal ?_
                          refine wc_block ?_
                          rw [hwi, hfi] at hm
                          have hm : Mem w [] [.own 27 2 v30 qs.length (prs qs), .own 27 2 vs50 (formLV qs).length (prs (formLV qs)), .own 9 1 v82 (rWordsF (tabR qs) qs.length mn).length (strs (rWordsF (tabR qs) qs.length mn)), .own 9 1 v94 (rForbF (tabR qs) qs.length mn).length (strs (rForbF (tabR qs) qs.length mn))] W := hm
                          refine wc_loop [6, 22, 23, 24, 133, 134, 135, 136, 137, 138, 139, 140, 141, 142, 143, 144, 145, 146, 147, 148, 149, 150, 151, 152, 153] (fun (q : Nat) => [(22, .int .i64 (q : Int))]) (fun (q : Nat) W => Mem w [] [.own 27 2 v30 qs.length (prs qs), .own 27 2 vs50 (formLV qs).length (prs (formLV qs)), .own 9 1 v82 (rWordsF (tabR qs) qs.length mn).length (strs (rWordsF (tabR qs) qs.length mn)), .own 9 1 v94 (rForbF (tabR qs) qs.length mn).length (strs (rForbF (tabR qs) qs.length mn))] W ∧ q ≤ (rWordsF (tabR qs) qs.length mn).length) (fun (q : Nat) => (rWordsF (tabR qs) qs.length mn).length - q) ((0) : Nat) ?_ ?_ ?_
                          · exact ⟨rfl, trivial⟩
                          · exact ⟨hm, Nat.zero_le _⟩
                          · rintro q u W ⟨hm, hq⟩
                            refine wc_seq ?_
                            refine wc_seq ?_
                            refine wc_region ?_
                            refine wl_y (y_move (by conv => lhs; whnf)) ?_
                            refine wl_y (y_move (by conv => lhs; whnf)) ?_
                            refine wl_y (y_lenSl (by conv => lhs; whnf) (hm.slAt 2 rfl) Try.underlying47) ?_
                            refine wl_y (y_lss rfl rfl) ?_
                            refine wl_nil ?_
                            refine then_normal ?_
                            refine wc_cond_dec rfl (fun h13 => ?_) (fun h13 => ?_)
                            · have hisw := is_word hokqs (n := mn) (q := q) (by omega) (by omega)
                              refine wc_skip ?_
                              refine then_normal ?_
                              refine wc_seq ?_
                              refine wc_block ?_
                              refine wc_seq ?_
                              refine wc_region ?_
                              refine wl_y (y_move (by conv => lhs; whnf)) ?_
                              refine wl_y (y_move (by conv => lhs; whnf)) ?_
                              refine wl_y (y_move (by conv => lhs; whnf)) ?_
                              refine wl_y (y_indexAddr (by conv => lhs; whnf) rfl (hm.slAt 2 rfl) (by omega) Try.underlying47 ti9 (by decide)) ?_
                              refine wl_y (y_loadSl rfl (hm.slAt 2 rfl) (by first | exact strs_atN (by omega) | exact strs_atI (by omega)) Try.underlying9 rfl) ?_
                              refine wl_callR hm hb33 (Is_calls _ _ qs _ (hm.slAt 0 rfl)) rfl rfl (fun W hm hu => ?_)
                              refine wl_y (y_move (by conv => lhs; whnf)) ?_
                              refine wl_y (y_extract rfl rfl) ?_
                              refine wl_y (y_extract rfl rfl) ?_
                              refine wl_y (y_assign (by conv => lhs; whnf)) ?_
                              refine wl_y (y_assign (by conv => lhs; whnf)) ?_
                              refine wl_nil ?_
                              refine then_normal ?_
                              refine wc_seq ?_
                              refine wc_region ?_
                              refine wl_y (y_move (by conv => lhs; whnf)) ?_
                              refine wl_y (y_neq rfl rfl) ?_
                              refine wl_split rfl (fun h14 => ?_) (fun h14 => ?_)
                              · exact absurd (by rw [hisw]) h14
                              · skip
                                refine wl_guard_yes rfl ?_
                                refine wl_y (y_move (by conv => lhs; whnf)) ?_
                                refine wl_guard_yes rfl ?_
                                refine wl_y (y_not rfl) ?_
                                refine wl_y (y_pick_false rfl (by conv => lhs; whnf)) ?_
                                refine wl_nil ?_
                                refine then_normal ?_
                                refine wc_cond rfl (fun h15 => ?_) (fun h15 => ?_)
                                · exact absurd h15 (by rw [hisw]; decide)
                                · skip
                                  refine wc_skip ?_
                                  refine block_normal ?_
                                  refine then_normal ?_
                                  refine wc_region ?_
                                  refine wl_y (y_move (by conv => lhs; whnf)) ?_
                                  refine wl_y (y_add64 rfl rfl (by omega)) ?_
                                  refine wl_y (y_assign (by conv => lhs; whnf)) ?_
                                  refine wl_nil ?_
                                  refine next_round (σ := Nat) (q + 1) rfl (by repeat first | exact out_hav | refine out_look rfl ?_ | refine out_havIn rfl ?_) ⟨rfl, trivial⟩ ⟨hm, by omega⟩ (by (try dsimp only); omega)
                            · obtain rfl : q = (rWordsF (tabR qs) qs.length mn).length := by omega
                              refine wc_exit ?_
                              refine then_exit ?_
                              refine then_exit ?_
                              refine block_exit ?_
                              refine then_normal ?_
                              refine wc_seq ?_
                              refine wc_seq ?_
                              refine wc_region ?_
                              refine wl_y (y_assign (by conv => lhs; whnf)) ?_
                              refine wl_nil ?_
                              refine then_normal ?_
                              refine wc_block ?_
                              refine wc_loop [6, 25, 26, 27, 154, 155, 156, 157, 158, 159, 160, 161, 162, 163, 164, 165, 166, 167, 168, 169, 170, 171, 172, 173, 174, 175, 176, 177] (fun (q : Nat) => [(25, .int .i64 (q : Int))]) (fun (q : Nat) W => Mem w [] [.own 27 2 v30 qs.length (prs qs), .own 27 2 vs50 (formLV qs).length (prs (formLV qs)), .own 9 1 v82 (rWordsF (tabR qs) qs.length mn).length (strs (rWordsF (tabR qs) qs.length mn)), .own 9 1 v94 (rForbF (tabR qs) qs.length mn).length (strs (rForbF (tabR qs) qs.length mn))] W ∧ q ≤ (rForbF (tabR qs) qs.length mn).length) (fun (q : Nat) => (rForbF (tabR qs) qs.length mn).length - q) ((0) : Nat) ?_ ?_ ?_
                              · exact ⟨rfl, trivial⟩
                              · exact ⟨hm, Nat.zero_le _⟩
                              · rintro q u W ⟨hm, hq⟩
                                refine wc_seq ?_
                                refine wc_seq ?_
                                refine wc_region ?_
                                refine wl_y (y_move (by conv => lhs; whnf)) ?_
                                refine wl_y (y_move (by conv => lhs; whnf)) ?_
                                refine wl_y (y_lenSl (by conv => lhs; whnf) (hm.slAt 3 rfl) Try.underlying47) ?_
                                refine wl_y (y_lss rfl rfl) ?_
                                refine wl_split rfl (fun h16 => ?_) (fun h16 => ?_)
                                · skip
                                  refine wl_guard_yes rfl ?_
                                  refine wl_y (y_move (by conv => lhs; whnf)) ?_
                                  refine wl_guard_yes rfl ?_
                                  refine wl_y (y_lss rfl rfl) ?_
                                  refine wl_y (y_pick_true rfl (by conv => lhs; whnf)) ?_
                                  refine wl_nil ?_
                                  refine then_normal ?_
                                  refine wc_cond_dec rfl (fun h17 => ?_) (fun h17 => ?_)
                                  · have hisf := is_forb hokqs (n := mn) (q := q) (by omega) (by omega)
                                    refine wc_skip ?_
                                    refine then_normal ?_
                                    refine wc_seq ?_
                                    refine wc_block ?_
                                    refine wc_seq ?_
                                    refine wc_region ?_
                                    refine wl_y (y_move (by conv => lhs; whnf)) ?_
                                    refine wl_y (y_move (by conv => lhs; whnf)) ?_
                                    refine wl_y (y_move (by conv => lhs; whnf)) ?_
                                    refine wl_y (y_indexAddr (by conv => lhs; whnf) rfl (hm.slAt 3 rfl) (by omega) Try.underlying47 ti9 (by decide)) ?_
                                    refine wl_y (y_loadSl rfl (hm.slAt 3 rfl) (by first | exact strs_atN (by omega) | exact strs_atI (by omega)) Try.underlying9 rfl) ?_
                                    refine wl_callR hm hb33 (Is_calls _ _ qs _ (hm.slAt 0 rfl)) rfl rfl (fun W hm hu => ?_)
                                    refine wl_y (y_move (by conv => lhs; whnf)) ?_
                                    refine wl_y (y_extract rfl rfl) ?_
                                    refine wl_y (y_extract rfl rfl) ?_
                                    refine wl_y (y_assign (by conv => lhs; whnf)) ?_
                                    refine wl_y (y_assign (by conv => lhs; whnf)) ?_
                                    refine wl_nil ?_
                                    refine then_normal ?_
                                    refine wc_seq ?_
                                    refine wc_region ?_
                                    refine wl_y (y_move (by conv => lhs; whnf)) ?_
                                    refine wl_y (y_neq rfl rfl) ?_
                                    refine wl_split rfl (fun h18 => ?_) (fun h18 => ?_)
                                    · exact absurd (by rw [hisf]) h18
                                    · skip
                                      refine wl_guard_yes rfl ?_
                                      refine wl_y (y_move (by conv => lhs; whnf)) ?_
                                      refine wl_y (y_pick_false rfl (by conv => lhs; whnf)) ?_
                                      refine wl_nil ?_
                                      refine then_normal ?_
                                      refine wc_cond rfl (fun h19 => ?_) (fun h19 => ?_)
                                      · exact absurd h19 (by rw [hisf]; decide)
                                      · skip
                                        refine wc_skip ?_
                                        refine block_normal ?_
                                        refine then_normal ?_
                                        refine wc_region ?_
                                        refine wl_y (y_move (by conv => lhs; whnf)) ?_
                                        refine wl_y (y_add64 rfl rfl (by omega)) ?_
                                        refine wl_y (y_assign (by conv => lhs; whnf)) ?_
                                        refine wl_nil ?_
                                        refine next_round (σ := Nat) (q + 1) rfl (by repeat first | exact out_hav | refine out_look rfl ?_ | refine out_havIn rfl ?_) ⟨rfl, trivial⟩ ⟨hm, by omega⟩ (by (try dsimp only); omega)
                                  · skip
                                    refine wc_exit ?_
                                    refine then_exit ?_
                                    refine then_exit ?_
                                    refine block_exit ?_
                                    refine then_normal ?_
                                    refine wc_seq ?_
                                    refine wc_region ?_
                                    refine wl_callR hm hb18 (awake_calls _) rfl rfl (fun W hm hu => ?_)
                                    refine wl_y (y_assign (by conv => lhs; whnf)) ?_
                                    refine wl_nil ?_
                                    refine then_normal ?_
                                    refine wc_ret ?_
                                    refine post_ret (results_fr rfl) ?_
                                    exact ⟨rfl, hm.upd⟩
                                · skip
                                  refine wl_guard_no rfl ?_
                                  refine wl_guard_no rfl ?_
                                  refine wl_y (y_pick_false rfl (by conv => lhs; whnf)) ?_
                                  refine wl_nil ?_
                                  refine then_normal ?_
                                  refine wc_cond_false rfl ?_
                                  refine wc_exit ?_
                                  refine then_exit ?_
                                  refine then_exit ?_
                                  refine block_exit ?_
                                  refine then_normal ?_
                                  refine wc_seq ?_
                                  refine wc_region ?_
                                  refine wl_callR hm hb18 (awake_calls _) rfl rfl (fun W hm hu => ?_)
                                  refine wl_y (y_assign (by conv => lhs; whnf)) ?_
                                  refine wl_nil ?_
                                  refine then_normal ?_
                                  refine wc_ret ?_
                                  refine post_ret (results_fr rfl) ?_
                                  exact ⟨rfl, hm.upd⟩
end Go.Proofs.Ytofpdjpenmhbnaa
namespace Go.Proofs.Ytofpdjpenmhbnaa
open Go Go.Kx
theorem hb63 : HasBody Try.prog 63 := hasBody Try.func63 (by kernel_rfl) (by kernel_rfl)
set_option maxHeartbeats 4000000 in
theorem rHasDoubt_calls (w : World) (vl : Value) (ps : List (Int × Int)) (hl : SlAt w 2 vl ps.length (prs ps)) (ho : Okf ps.length (tabR ps)) :
    Cl Try.prog 21 [vl].toArray w (Ret w (.bool (dtB (tabR ps) ps.length))) := by
  have hk := ho.k5
  have hm : Mem w [] [] w := Mem.init w
  refine cl_enter Try.func21 rfl Try.ntmps21 rfl ?_
  refine wc_seq ?_
  refine wc_region ?_
  refine wl_y (y_assign (by conv => lhs; whnf)) ?_
  refine wl_nil ?_
  refine then_normal ?_
  refine wc_seq ?_
  refine wc_region ?_
  refine wl_y (y_move (by conv => lhs; whnf)) ?_
  refine wl_y (y_lenSl (by conv => lhs; whnf) (hl.step hm.upd) Try.underlying22) ?_
  refine wl_y (y_assign (by conv => lhs; whnf)) ?_
  refine wl_nil ?_
  refine then_normal ?_
  refine wc_seq ?_
  refine wc_seq ?_
  refine wc_region ?_
  refine wl_y (y_assign (by conv => lhs; whnf)) ?_
  refine wl_nil ?_
  refine then_normal ?_
  refine wc_block ?_
  refine wc_loop [2, 4, 5, 8, 9, 10, 11, 12, 13, 14, 15, 16, 17, 18, 19, 20, 21, 22, 23, 24, 25, 26] (fun (a : Nat) => [(4, .int .i64 (a : Int))]) (fun (a : Nat) W => Mem w [] [] W ∧ a ≤ ps.length ∧ ∀ a' b, a' < a → b < ps.length → a' ≠ b → (dtPair (tabR ps) a' b).isSome = false) (fun (a : Nat) => ps.length - a) ((0) : Nat) ?_ ?_ ?_
  · exact ⟨rfl, trivial⟩
  · exact ⟨hm, Nat.zero_le _, fun a' b h => absurd h (Nat.not_lt_zero a')⟩
  · rintro a u W ⟨hm, ha, has⟩
    refine wc_seq ?_
    refine wc_seq ?_
    refine wc_region ?_
    refine wl_y (y_move (by conv => lhs; whnf)) ?_
    refine wl_y (y_move (by conv => lhs; whnf)) ?_
    refine wl_y (y_lss rfl rfl) ?_
    refine wl_nil ?_
    refine then_normal ?_
    refine wc_cond_dec rfl (fun h1 => ?_) (fun h1 => ?_)
    · have hak : a < ps.length := by omega
      refine wc_skip ?_
      refine then_normal ?_
      refine wc_seq ?_
      refine wc_block ?_
      refine wc_seq ?_
      refine wc_region ?_
      refine wl_y (y_assign (by conv => lhs; whnf)) ?_
      refine wl_nil ?_
      refine then_normal ?_
      refine wc_block ?_
      refine wc_loop [2, 5, 13, 14, 15, 16, 17, 18, 19, 20, 21, 22, 23, 24, 25, 26] (fun (b : Nat) => [(5, .int .i64 (b : Int))]) (fun (b : Nat) W => Mem w [] [] W ∧ b ≤ ps.length ∧ ∀ b', b' < b → a ≠ b' → (dtPair (tabR ps) a b').isSome = false) (fun (b : Nat) => ps.length - b) ((0) : Nat) ?_ ?_ ?_
      · exact ⟨rfl, trivial⟩
      · exact ⟨hm, Nat.zero_le _, fun b' h => absurd h (Nat.not_lt_zero b')⟩
      · rintro b u W ⟨hm, hb, hbs⟩
        refine wc_seq ?_
        refine wc_seq ?_
        refine wc_region ?_
        refine wl_y (y_move (by conv => lhs; whnf)) ?_
        refine wl_y (y_move (by conv => lhs; whnf)) ?_
        refine wl_y (y_lss rfl rfl) ?_
        refine wl_nil ?_
        refine then_normal ?_
        refine wc_cond_dec rfl (fun h2 => ?_) (fun h2 => ?_)
        · have hbk : b < ps.length := by omega
          refine wc_skip ?_
          refine then_normal ?_
          refine wc_seq ?_
          refine wc_block ?_
          refine wc_seq ?_
          refine wc_region ?_
          refine wl_y (y_move (by conv => lhs; whnf)) ?_
          refine wl_y (y_move (by conv => lhs; whnf)) ?_
          refine wl_y (y_neq rfl rfl) ?_
          refine wl_split rfl (fun h3 => ?_) (fun h3 => ?_)
          · have hne : a ≠ b := fun e => h3 (congrArg Nat.cast e)
            refine wl_guard_yes rfl ?_
            refine wl_y (y_move (by conv => lhs; whnf)) ?_
            refine wl_guard_yes rfl ?_
            refine wl_y (y_move (by conv => lhs; whnf)) ?_
            refine wl_guard_yes rfl ?_
            refine wl_y (y_move (by conv => lhs; whnf)) ?_
            refine wl_guard_yes rfl ?_
            refine wl_callR hm hb63 (returns_calls _ _ ps a b (hl.step hm.upd) ho hak hbk hne) rfl rfl (fun W hm hu => ?_)
            refine wl_y (y_pick_true rfl (by conv => lhs; whnf)) ?_
            refine wl_nil ?_
            refine then_normal ?_
            refine wc_cond rfl (fun h4 => ?_) (fun h4 => ?_)
            · have hyes := dtB_yes ho hak hbk hne h4
              refine wc_seq ?_
              refine wc_region ?_
              refine wl_y (y_assign (by conv => lhs; whnf)) ?_
              refine wl_nil ?_
              refine then_normal ?_
              refine wc_ret ?_
              refine block_ret ?_
              refine then_ret ?_
              refine then_ret ?_
              refine block_ret ?_
              refine block_ret ?_
              refine then_ret ?_
              refine then_ret ?_
              refine block_ret ?_
              refine then_ret ?_
              refine post_ret (results_fr rfl) ?_
              refine ⟨?_, hm.upd⟩
              rw [hyes]; rfl
            · have hab2 : ∀ b', b' < b + 1 → a ≠ b' → (dtPair (tabR ps) a b').isSome = false := fun b' h1 h2 => (Nat.lt_or_ge b' b).elim (fun g => hbs b' g h2) (fun g => (show b = b' by omega) ▸ h4)
              refine wc_skip ?_
              refine block_normal ?_
              refine then_normal ?_
              refine wc_region ?_
              refine wl_y (y_move (by conv => lhs; whnf)) ?_
              refine wl_y (y_add64 rfl rfl (by omega)) ?_
              refine wl_y (y_assign (by conv => lhs; whnf)) ?_
              refine wl_nil ?_
              refine next_round (σ := Nat) (b + 1) rfl (by repeat first | exact out_hav | refine out_look rfl ?_ | refine out_havIn rfl ?_) ⟨rfl, trivial⟩ ⟨hm, by omega, hab2⟩ (by (try dsimp only); omega)
          · have hab2 : ∀ b', b' < b + 1 → a ≠ b' → (dtPair (tabR ps) a b').isSome = false := fun b' h1 h2 => hbs b' (by have h : ¬ ¬ (a : Int) = b := h3; omega) h2
            refine wl_guard_no rfl ?_
            refine wl_guard_no rfl ?_
            refine wl_guard_no rfl ?_
            refine wl_guard_no rfl ?_
            refine wl_y (y_pick_false rfl (by conv => lhs; whnf)) ?_
            refine wl_nil ?_
            refine then_normal ?_
            refine wc_cond_false rfl ?_
            refine wc_skip ?_
            refine block_normal ?_
            refine then_normal ?_
            refine wc_region ?_
            refine wl_y (y_move (by conv => lhs; whnf)) ?_
            refine wl_y (y_add64 rfl rfl (by omega)) ?_
            refine wl_y (y_assign (by conv => lhs; whnf)) ?_
            refine wl_nil ?_
            refine next_round (σ := Nat) (b + 1) rfl (by repeat first | exact out_hav | refine out_look rfl ?_ | refine out_havIn rfl ?_) ⟨rfl, trivial⟩ ⟨hm, by omega, hab2⟩ (by (try dsimp only); omega)
        · have has2 : ∀ a' b', a' < a + 1 → b' < ps.length → a' ≠ b' → (dtPair (tabR ps) a' b').isSome = false := fun a' b' h1 h2 h3 => (Nat.lt_or_ge a' a).elim (fun g => has a' b' g h2 h3) (fun g => (show a = a' by omega) ▸ hbs b' (by omega) ((show a = a' by omega) ▸ h3))
          refine wc_exit ?_
          refine then_exit ?_
          refine then_exit ?_
          refine block_exit ?_
          refine block_normal ?_
          refine then_normal ?_
          refine wc_region ?_
          refine wl_y (y_move (by conv => lhs; whnf)) ?_
          refine wl_y (y_add64 rfl rfl (by omega)) ?_
          refine wl_y (y_assign (by conv => lhs; whnf)) ?_
          refine wl_nil ?_
          refine next_round (σ := Nat) (a + 1) rfl (by repeat first | exact out_hav | refine out_look rfl ?_ | refine out_havIn rfl ?_) ⟨rfl, trivial⟩ ⟨hm, by omega, has2⟩ (by (try dsimp only); omega)
    · have hno := dtB_not ho (fun a' b h1 h2 h3 => has a' b (by omega) h2 h3)
      refine wc_exit ?_
      refine then_exit ?_
      refine then_exit ?_
      refine block_exit ?_
      refine then_normal ?_
      refine wc_seq ?_
      refine wc_region ?_
      refine wl_y (y_assign (by conv => lhs; whnf)) ?_
      refine wl_nil ?_
      refine then_normal ?_
      refine wc_ret ?_
      refine post_ret (results_fr rfl) ?_
      refine ⟨?_, hm.upd⟩
      rw [hno]; rfl
end Go.Proofs.Ytofpdjpenmhbnaa
namespace Go.Proofs.Ytofpdjpenmhbnaa
open Go Go.Kx
theorem hb20 : HasBody Try.prog 20 := hasBody Try.func20 (by kernel_rfl) (by kernel_rfl)
theorem hb21 : HasBody Try.prog 21 := hasBody Try.func21 (by kernel_rfl) (by kernel_rfl)
theorem rDoubtT_calls (w : World) (vl : Value) (ps : List (Int × Int)) (s : ByteArray) (a b : Int) (hl : SlAt w 2 vl ps.length (prs ps)) (ho : Okf ps.length (tabR ps)) (hsz : s.size ≤ 140737488355232) (h : rDoubtB ps s a b = true) :
    Cl Try.prog 22 [vl, .string s, prV .i64 (a, b)].toArray w (Ret w (.bool true)) := by
  have hc := rDoubt_calls w vl ps s a b hl ho hsz
  rwa [h] at hc

set_option maxHeartbeats 4000000 in
theorem soficMemories_calls (w : World) (vl : Value) (ps : List (Int × Int)) (j : Bool) (hl : SlAt w 2 vl ps.length (prs ps)) :
    Cl Try.prog 3 [vl, .bool j].toArray w (Ret w (.bool true)) := by
  have hm : Mem w [] [] w := Mem.init w
  refine cl_enter Try.func3 rfl Try.ntmps3 rfl ?_
  refine wc_seq ?_
  refine wc_region ?_
  refine wl_y (y_assign (by conv => lhs; whnf)) ?_
  refine wl_nil ?_
  refine then_normal ?_
  refine wc_seq ?_
  refine wc_region ?_
  refine wl_y (y_move (by conv => lhs; whnf)) ?_
  refine wl_y (y_move (by conv => lhs; whnf)) ?_
  refine wl_callM hm hb14 (tame_calls _ _ ps j (hl.step hm.upd)) rfl rfl (fun W v17 E hm hu hE => ?_)
  obtain ⟨qs, hTqs, rfl⟩ := hE
  have hokqs := hTqs.1
  have hl1qs := hokqs.1
  refine wl_y (y_assign (by conv => lhs; whnf)) ?_
  refine wl_nil ?_
  refine then_normal ?_
  refine wc_seq ?_
  refine wc_region ?_
  refine wl_y (y_move (by conv => lhs; whnf)) ?_
  refine wl_callR hm hb15 (Memory_calls _ _ qs (hm.slAt 0 rfl)) rfl rfl (fun W hm hu => ?_)
  refine wl_y (y_move (by conv => lhs; whnf)) ?_
  refine wl_y (y_extract rfl rfl) ?_
  refine wl_y (y_extract rfl rfl) ?_
  refine wl_y (y_extract rfl rfl) ?_
  refine wl_y (y_assign (by conv => lhs; whnf)) ?_
  refine wl_y (y_assign (by conv => lhs; whnf)) ?_
  refine wl_y (y_assign (by conv => lhs; whnf)) ?_
  refine wl_nil ?_
  refine then_normal ?_
  refine wc_seq ?_
  refine wc_region ?_
  refine wl_y (y_move (by conv => lhs; whnf)) ?_
  refine wl_callR hm hb16 (Doubt_calls _ _ qs (hm.slAt 0 rfl)) rfl rfl (fun W hm hu => ?_)
  refine wl_y (y_move (by conv => lhs; whnf)) ?_
  refine wl_y (y_extract rfl rfl) ?_
  refine wl_y (y_extract rfl rfl) ?_
  refine wl_y (y_extract rfl rfl) ?_
  refine wl_y (y_extract rfl rfl) ?_
  refine wl_alloc hm ti27 (fun W b10 hm hb10 hu => ?_)
  refine wl_y (y_assign (by conv => lhs; whnf)) ?_
  refine wl_storeBlk (i := 1) (vs := pcells (doubtV qs).2.1) hm rfl rfl rfl ti27 rfl rfl (by simp [pcells, Value.oneCell']) (fun W hm => ?_)
  refine wl_y (y_assign (by conv => lhs; whnf)) ?_
  refine wl_y (y_assign (by conv => lhs; whnf)) ?_
  refine wl_nil ?_
  refine then_normal ?_
  refine wc_seq ?_
  refine wc_seq ?_
  refine wc_region ?_
  refine wl_y (y_move (by conv => lhs; whnf)) ?_
  refine wl_callR hm hb17 (rHangs_calls _ _ qs (hm.slAt 0 rfl) hokqs.okf) rfl rfl (fun W hm hu => ?_)
  refine wl_y (y_not rfl) ?_
  refine wl_nil ?_
  refine then_normal ?_
  refine wc_cond rfl (fun h1 => ?_) (fun h1 => ?_)
  · have hhf : hangsF (tabR qs) qs.length = false := by simpa using h1
    refine wc_seq ?_
    refine wc_region ?_
    have hmv : memoryV qs = (0, false, 5) := by simp [memoryV, hokqs, hhf]
    have hdv : doubtV qs = (⟨#[]⟩, (0, 0), false, 5) := by simp [doubtV, hokqs, hhf]
    rw [hmv, hdv]
    rw [hdv] at hm
    refine wl_y (y_move (by conv => lhs; whnf)) ?_
    refine wl_y (v := .bool true) (y_eqT rfl rfl) ?_
    refine wl_y (y_move (by conv => lhs; whnf)) ?_
    refine wl_guard_yes rfl ?_
    refine wl_y (y_move (by conv => lhs; whnf)) ?_
    refine wl_guard_yes rfl ?_
    refine wl_y (v := .bool true) (y_eqT rfl rfl) ?_
    refine wl_y (y_pick_true rfl (by conv => lhs; whnf)) ?_
    refine wl_y (y_move (by conv => lhs; whnf)) ?_
    refine wl_guard_yes rfl ?_
    refine wl_y (y_move (by conv => lhs; whnf)) ?_
    refine wl_guard_yes rfl ?_
    refine wl_y (v := .bool true) (y_not (p := false) rfl) ?_
    refine wl_y (y_pick_true rfl (by conv => lhs; whnf)) ?_
    refine wl_y (y_move (by conv => lhs; whnf)) ?_
    refine wl_guard_yes rfl ?_
    refine wl_y (y_move (by conv => lhs; whnf)) ?_
    refine wl_guard_yes rfl ?_
    refine wl_y (v := .bool true) (y_not (p := false) rfl) ?_
    refine wl_y (y_pick_true rfl (by conv => lhs; whnf)) ?_
    refine wl_y (y_move (by conv => lhs; whnf)) ?_
    refine wl_guard_yes rfl ?_
    refine wl_y (y_move (by conv => lhs; whnf)) ?_
    refine wl_guard_yes rfl ?_
    refine wl_y (y_move (by conv => lhs; whnf)) ?_
    refine wl_guard_yes rfl ?_
    refine wl_y (v := .int .i64 0) (y_lenStr (s := ⟨#[]⟩) rfl Try.underlying9) ?_
    refine wl_guard_yes rfl ?_
    refine wl_y (v := .int .i64 0) (y_add64 (a := 0) (c := 0) rfl rfl (by omega)) ?_
    refine wl_guard_yes rfl ?_
    refine wl_y (v := .bool true) (y_eqT rfl rfl) ?_
    refine wl_y (y_pick_true rfl (by conv => lhs; whnf)) ?_
    refine wl_y (y_move (by conv => lhs; whnf)) ?_
    refine wl_guard_yes rfl ?_
    refine wl_y (y_loadBlk (xs := pcells (0, 0)) rfl (hm.at (i := 1) rfl) Try.underlying27 rfl ti27) ?_
    refine wl_guard_yes rfl ?_
    refine wl_y (y_buildL (cells := #[.int .i64 0, .int .i64 0]) rfl (by kernel_rfl)) ?_
    refine wl_guard_yes rfl ?_
    refine wl_y (v := .bool true) (y_eqlPair (a := 0) (c := 0) (a' := 0) (c' := 0) rfl rfl (by kernel_rfl) Try.underlying27 ti3 Try.underlying3) ?_
    refine wl_y (y_pick_true rfl (by conv => lhs; whnf)) ?_
    refine wl_y (y_move (by conv => lhs; whnf)) ?_
    refine wl_guard_yes rfl ?_
    refine wl_callR (v := .bool true) hm hb18 (awake_calls W) rfl rfl (fun W hm hu => ?_)
    refine wl_y (y_pick_true rfl (by conv => lhs; whnf)) ?_
    refine wl_y (y_assign (by conv => lhs; whnf)) ?_
    refine wl_nil ?_
    refine then_normal ?_
    refine wc_ret ?_
    refine then_ret ?_
    refine post_ret (results_fr rfl) ?_
    exact ⟨rfl, hm.upd⟩
  · have hht : hangsF (tabR qs) qs.length = true := by simpa using h1
    refine wc_skip ?_
    refine then_normal ?_
    refine wc_seq ?_
    refine wc_region ?_
    refine wl_y (y_move (by conv => lhs; whnf)) ?_
    refine wl_call hb19 (rForm_calls _ _ qs (hm.slAt 0 rfl) hokqs.okf) rfl rfl (fun e W h => ?_)
    obtain ⟨v64, rfl, hv64⟩ := h
    refine ⟨_, rfl, ?_⟩
    have hm := hm.call hv64
    refine wl_y (y_assign (by conv => lhs; whnf)) ?_
    refine wl_nil ?_
    refine then_normal ?_
    refine wc_seq ?_
    refine wc_region ?_
    have hf1 : 1 ≤ (formLV qs).length := (formLV_net hokqs).1.1
    have hfo := formLV_okf hokqs
    obtain ⟨g1, g2, g3, g4, g5, g6, g7⟩ := memories hokqs hht
    refine wl_y (y_move (by conv => lhs; whnf)) ?_
    refine wl_callR hm hb20 (rMemory_calls _ _ (formLV qs) (hm.slAt 2 rfl) hfo hf1) rfl rfl (fun W hm hu => ?_)
    refine wl_y (y_assign (by conv => lhs; whnf)) ?_
    refine wl_nil ?_
    refine then_normal ?_
    refine wc_seq ?_
    refine wc_seq ?_
    refine wc_region ?_
    refine wl_y (y_move (by conv => lhs; whnf)) ?_
    refine wl_y (y_neq rfl rfl) ?_
    refine wl_split rfl (fun h2 => ?_) (fun h2 => ?_)
    · exact absurd g1 h2
    · skip
      refine wl_guard_yes rfl ?_
      refine wl_y (y_move (by conv => lhs; whnf)) ?_
      refine wl_guard_yes rfl ?_
      refine wl_y (y_neq rfl rfl) ?_
      refine wl_y (y_pick_false rfl (by conv => lhs; whnf)) ?_
      refine wl_split rfl (fun h3 => ?_) (fun h3 => ?_)
      · exact absurd g2 h3
      · skip
        refine wl_guard_yes rfl ?_
        refine wl_y (y_move (by conv => lhs; whnf)) ?_
        refine wl_guard_yes rfl ?_
        refine wl_y (y_move (by conv => lhs; whnf)) ?_
        refine wl_guard_yes rfl ?_
        refine wl_y (y_geq rfl rfl) ?_
        refine wl_guard_yes rfl ?_
        refine wl_y (y_neqB rfl rfl Try.underlying4) ?_
        refine wl_y (y_pick_false rfl (by conv => lhs; whnf)) ?_
        refine wl_split rfl (fun h4 => ?_) (fun h4 => ?_)
        · exact absurd g3 h4
        · skip
          refine wl_guard_yes rfl ?_
          refine wl_y (y_move (by conv => lhs; whnf)) ?_
          refine wl_guard_yes rfl ?_
          refine wl_y (y_move (by conv => lhs; whnf)) ?_
          refine wl_guard_yes rfl ?_
          refine wl_y (y_max rfl rfl) ?_
          refine wl_guard_yes rfl ?_
          refine wl_y (y_neq rfl rfl) ?_
          refine wl_y (y_pick_false rfl (by conv => lhs; whnf)) ?_
          refine wl_split rfl (fun h5 => ?_) (fun h5 => ?_)
          · exact absurd g4 h5
          · skip
            refine wl_guard_yes rfl ?_
            refine wl_y (y_move (by conv => lhs; whnf)) ?_
            refine wl_guard_yes rfl ?_
            refine wl_y (y_move (by conv => lhs; whnf)) ?_
            refine wl_guard_yes rfl ?_
            refine wl_callR hm hb21 (rHasDoubt_calls _ _ (formLV qs) (hm.slAt 2 rfl) hfo) rfl rfl (fun W hm hu => ?_)
            refine wl_guard_yes rfl ?_
            refine wl_y (y_neqB rfl rfl Try.underlying4) ?_
            refine wl_y (y_pick_false rfl (by conv => lhs; whnf)) ?_
            refine wl_nil ?_
            refine then_normal ?_
            refine wc_cond_dec rfl (fun h6 => ?_) (fun h6 => ?_)
            · exact absurd g5 h6
            · skip
              refine wc_skip ?_
              refine then_normal ?_
              refine wc_seq ?_
              refine wc_seq ?_
              refine wc_region ?_
              refine wl_y (y_move (by conv => lhs; whnf)) ?_
              refine wl_nil ?_
              refine then_normal ?_
              refine wc_cond rfl (fun h7 => ?_) (fun h7 => ?_)
              · obtain ⟨e1, e2⟩ := g6 (by rw [← g5]; exact h7)
                refine wc_seq ?_
                refine wc_region ?_
                refine wl_y (y_move (by conv => lhs; whnf)) ?_
                refine wl_y (y_lenStr (by conv => lhs; whnf) Try.underlying9) ?_
                refine wl_y (y_leq rfl rfl) ?_
                refine wl_split rfl (fun h8 => ?_) (fun h8 => ?_)
                · skip
                  refine wl_guard_yes rfl ?_
                  refine wl_y (y_move (by conv => lhs; whnf)) ?_
                  refine wl_guard_yes rfl ?_
                  refine wl_y (y_move (by conv => lhs; whnf)) ?_
                  refine wl_guard_yes rfl ?_
                  refine wl_y (y_loadBlk (xs := pcells (doubtV qs).2.1) rfl (hm.at (i := 1) rfl) Try.underlying27 rfl ti27) ?_
                  refine wl_guard_yes rfl ?_
                  refine wl_callR (v := .bool true) hm hb22 (rDoubtT_calls W _ (formLV qs) (doubtV qs).1 (doubtV qs).2.1.1 (doubtV qs).2.1.2 (hm.slAt 2 rfl) hfo (by omega) e2) rfl rfl (fun W hm hu => ?_)
                  refine wl_y (y_pick_true rfl (by conv => lhs; whnf)) ?_
                  refine wl_y (y_move (by conv => lhs; whnf)) ?_
                  refine wl_guard_yes rfl ?_
                  refine wl_callR (v := .bool true) hm hb18 (awake_calls W) rfl rfl (fun W hm hu => ?_)
                  refine wl_y (y_pick_true rfl (by conv => lhs; whnf)) ?_
                  refine wl_y (y_assign (by conv => lhs; whnf)) ?_
                  refine wl_nil ?_
                  refine then_normal ?_
                  refine wc_ret ?_
                  refine then_ret ?_
                  refine post_ret (results_fr rfl) ?_
                  exact ⟨rfl, hm.upd⟩
                · exact absurd (by omega) h8
              · obtain ⟨e1, e2⟩ := g7 (by rw [← g5]; exact h7)
                refine wc_skip ?_
                refine then_normal ?_
                refine wc_seq ?_
                refine wc_region ?_
                rw [e1]
                rw [e2] at hm
                refine wl_y (y_move (by conv => lhs; whnf)) ?_
                refine wl_y (v := .int .i64 0) (y_lenStr (s := ⟨#[]⟩) rfl Try.underlying9) ?_
                refine wl_y (v := .bool true) (y_eqT rfl rfl) ?_
                refine wl_y (y_move (by conv => lhs; whnf)) ?_
                refine wl_guard_yes rfl ?_
                refine wl_y (y_loadBlk (xs := pcells (0, 0)) rfl (hm.at (i := 1) rfl) Try.underlying27 rfl ti27) ?_
                refine wl_guard_yes rfl ?_
                refine wl_y (y_buildL (cells := #[.int .i64 0, .int .i64 0]) rfl (by kernel_rfl)) ?_
                refine wl_guard_yes rfl ?_
                refine wl_y (v := .bool true) (y_eqlPair (a := 0) (c := 0) (a' := 0) (c' := 0) rfl rfl (by kernel_rfl) Try.underlying27 ti3 Try.underlying3) ?_
                refine wl_y (y_pick_true rfl (by conv => lhs; whnf)) ?_
                refine wl_y (y_move (by conv => lhs; whnf)) ?_
                refine wl_guard_yes rfl ?_
                refine wl_callR (v := .bool true) hm hb18 (awake_calls W) rfl rfl (fun W hm hu => ?_)
                refine wl_y (y_pick_true rfl (by conv => lhs; whnf)) ?_
                refine wl_y (y_assign (by conv => lhs; whnf)) ?_
                refine wl_nil ?_
                refine then_normal ?_
                refine wc_ret ?_
                refine post_ret (results_fr rfl) ?_
                exact ⟨rfl, hm.upd⟩
end Go.Proofs.Ytofpdjpenmhbnaa
