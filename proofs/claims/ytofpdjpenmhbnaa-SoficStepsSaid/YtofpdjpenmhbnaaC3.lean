import Derived.Test.YtofpdjpenmhbnaaC2
set_option linter.unusedVariables false
set_option linter.unusedSimpArgs false
set_option linter.unusedSectionVars false
namespace Go.Proofs.Ytofpdjpenmhbnaa
open Go Go.Kx
theorem hb17 : HasBody Try.prog 17 := hasBody Try.func17 (by kernel_rfl) (by kernel_rfl)
theorem hb27 : HasBody Try.prog 27 := hasBody Try.func27 (by kernel_rfl) (by kernel_rfl)
theorem hb40 : HasBody Try.prog 40 := hasBody Try.func40 (by kernel_rfl) (by kernel_rfl)
theorem hb43 : HasBody Try.prog 43 := hasBody Try.func43 (by kernel_rfl) (by kernel_rfl)
theorem hb50 : HasBody Try.prog 50 := hasBody Try.func50 (by kernel_rfl) (by kernel_rfl)
theorem hb51 : HasBody Try.prog 51 := hasBody Try.func51 (by kernel_rfl) (by kernel_rfl)
theorem hb52 : HasBody Try.prog 52 := hasBody Try.func52 (by kernel_rfl) (by kernel_rfl)
theorem few_callsQ (w : World) (vl : Value) (ps qs : List (Int × Int)) (hl : SlAt w 2 vl ps.length (prs ps)) (hq : ps.take 7 = qs) :
    Cl Try.prog 50 [vl].toArray w (fun e w' => ∃ v E, e = .returned v ∧ Mem w [] E w' ∧ E = [.own 27 2 v qs.length (prs qs)]) := by
  subst hq; exact few_calls w vl ps hl
theorem rCheck_no (w : World) (vl : Value) (ps : List (Int × Int)) (hl : SlAt w 2 vl ps.length (prs ps)) (hok : ¬ NetOk ps) : Cl Try.prog 49 [vl].toArray w (Ret w (.bool false)) := by
  have h := rCheck_calls w vl ps hl
  rwa [netB_no hok] at h
theorem rCheck_yes (w : World) (vl : Value) (ps : List (Int × Int)) (hl : SlAt w 2 vl ps.length (prs ps)) (hok : NetOk ps) : Cl Try.prog 49 [vl].toArray w (Ret w (.bool true)) := by
  have h := rCheck_calls w vl ps hl
  rwa [netB_yes hok] at h
theorem Is_no (w : World) (vl : Value) (ps : List (Int × Int)) (s : ByteArray) (hl : SlAt w 2 vl ps.length (prs ps)) (hok : ¬ NetOk ps) : Cl Try.prog 33 [vl, .string s].toArray w (Ret w (.tuple #[.bool false, .int .i64 70])) := by
  have h := Is_calls w vl ps s hl
  rwa [show isV ps s = (false, 70) by simp [isV, endsV, hok]] at h
theorem Is_nil (w : World) (vl : Value) (ps : List (Int × Int)) (hl : SlAt w 2 vl ps.length (prs ps)) (hok : NetOk ps) : Cl Try.prog 33 [vl, .string ⟨#[]⟩].toArray w (Ret w (.tuple #[.bool true, .int .i64 0])) := by
  have h := Is_calls w vl ps ⟨#[]⟩ hl
  have hp : 2 ≤ 2 ^ ps.length := Nat.pow_le_pow_right (n := 2) (by decide) hok.1.1
  have e : endsV ps ⟨#[]⟩ = (((2 ^ ps.length - 1 : Nat) : Int), 0) := by
    unfold endsV
    rw [if_pos hok, if_pos (by decide)]; rfl
  have e2 : isV ps ⟨#[]⟩ = (true, 0) := by
    unfold isV
    rw [e]
    show (decide (¬ ((2 ^ ps.length - 1 : Nat) : Int) = 0), (0 : Int)) = (true, 0)
    rw [decide_eq_true (by omega)]
  rwa [e2] at h
theorem netOk_evenP : NetOk [(0, 1), (-1, 0)] := by decide +kernel

set_option maxHeartbeats 4000000 in
theorem soficChecks_no (w : World) (vl : Value) (ps qs : List (Int × Int)) (s : ByteArray) (hl : SlAt w 2 vl ps.length (prs ps)) (hq : ps.take 7 = qs) (hok : ¬ NetOk qs) :
    Cl Try.prog 13 [vl, .string s].toArray w (Ret w (.bool true)) := by
  have hm : Mem w [] [] w := Mem.init w
  refine cl_enter Try.func13 rfl Try.ntmps13 rfl ?_
  refine wc_seq ?_
  refine wc_region ?_
  refine wl_y (y_assign (by conv => lhs; whnf)) ?_
  refine wl_nil ?_
  refine then_normal ?_
  refine wc_seq ?_
  refine wc_region ?_
  refine wl_y (y_move (by conv => lhs; whnf)) ?_
  refine wl_callM hm hb50 (few_callsQ _ _ ps qs (hl.step hm.upd) hq) rfl rfl (fun W v47 E hm hu hE => ?_)
  obtain rfl := hE
  refine wl_y (y_assign (by conv => lhs; whnf)) ?_
  refine wl_nil ?_
  refine then_normal ?_
  refine wc_seq ?_
  refine wc_region ?_
  refine wl_y (y_assign (by conv => lhs; whnf)) ?_
  refine wl_nil ?_
  refine then_normal ?_
  refine wc_seq ?_
  refine wc_seq ?_
  refine wc_region ?_
  refine wl_y (y_move (by conv => lhs; whnf)) ?_
  refine wl_callR (v := .bool false) hm hb49 (rCheck_no W _ qs (hm.slAt 0 rfl) hok) rfl rfl (fun W hm hu => ?_)
  refine wl_y (y_not rfl) ?_
  refine wl_nil ?_
  refine then_normal ?_
  refine wc_cond_true rfl ?_
  refine wc_region ?_
  refine wl_y (y_assign (by conv => lhs; whnf)) ?_
  refine wl_nil ?_
  refine then_normal ?_
  refine wc_seq ?_
  refine wc_seq ?_
  refine wc_region ?_
  refine wl_y (y_move (by conv => lhs; whnf)) ?_
  refine wl_callR hm hb51 (Check_no _ _ qs (hm.slAt 0 rfl) hok) rfl rfl (fun W hm hu => ?_)
  refine wl_y (y_move (by conv => lhs; whnf)) ?_
  refine wl_y (y_neq rfl rfl) ?_
  refine wl_nil ?_
  refine then_normal ?_
  refine wc_cond_dec rfl (fun h1 => ?_) (fun h1 => ?_)
  · exact absurd rfl h1
  · skip
    refine wc_skip ?_
    refine then_normal ?_
    refine wc_seq ?_
    refine wc_region ?_
    refine wl_y (y_move (by conv => lhs; whnf)) ?_
    refine wl_callR hm hb33 (Is_no _ _ qs _ (hm.slAt 0 rfl) hok) rfl rfl (fun W hm hu => ?_)
    refine wl_y (y_move (by conv => lhs; whnf)) ?_
    refine wl_y (y_extract rfl rfl) ?_
    refine wl_y (y_extract rfl rfl) ?_
    refine wl_y (y_assign (by conv => lhs; whnf)) ?_
    refine wl_y (y_assign (by conv => lhs; whnf)) ?_
    refine wl_nil ?_
    refine then_normal ?_
    refine wc_seq ?_
    refine wc_region ?_
    refine wl_y (y_move (by conv => lhs; whnf)) ?_
    refine wl_callR hm hb52 (Hangs_no _ _ qs (hm.slAt 0 rfl) hok) rfl rfl (fun W hm hu => ?_)
    refine wl_y (y_move (by conv => lhs; whnf)) ?_
    refine wl_y (y_extract rfl rfl) ?_
    refine wl_y (y_extract rfl rfl) ?_
    refine wl_y (y_assign (by conv => lhs; whnf)) ?_
    refine wl_y (y_assign (by conv => lhs; whnf)) ?_
    refine wl_nil ?_
    refine then_normal ?_
    refine wc_seq ?_
    refine wc_region ?_
    refine wl_y (y_move (by conv => lhs; whnf)) ?_
    refine wl_callM hm hb36 (Equal_no _ _ qs (hm.slAt 0 rfl) hok) rfl rfl (fun W v67 E hm hu hE => ?_)
    obtain ⟨vs67, rfl, rfl⟩ := hE
    refine wl_y (y_move (by conv => lhs; whnf)) ?_
    refine wl_y (y_extract rfl rfl) ?_
    refine wl_y (y_extract rfl rfl) ?_
    refine wl_y (y_assign (by conv => lhs; whnf)) ?_
    refine wl_y (y_assign (by conv => lhs; whnf)) ?_
    refine wl_nil ?_
    refine then_normal ?_
    refine wc_seq ?_
    refine wc_seq ?_
    refine wc_region ?_
    refine wl_y (y_move (by conv => lhs; whnf)) ?_
    refine wl_y (y_eql rfl rfl) ?_
    refine wl_nil ?_
    refine then_normal ?_
    refine wc_cond_dec rfl (fun h2 => ?_) (fun h2 => ?_)
    · exact absurd h2 (by decide)
    · skip
      refine wc_skip ?_
      refine then_normal ?_
      refine wc_seq ?_
      refine wc_region ?_
      refine wl_y (y_move (by conv => lhs; whnf)) ?_
      refine wl_y (y_move (by conv => lhs; whnf)) ?_
      refine wl_callR hm hb34 (Ends_no _ _ qs s (hm.slAt 0 rfl) hok) rfl rfl (fun W hm hu => ?_)
      refine wl_y (y_move (by conv => lhs; whnf)) ?_
      refine wl_y (y_extract rfl rfl) ?_
      refine wl_y (y_extract rfl rfl) ?_
      refine wl_y (y_assign (by conv => lhs; whnf)) ?_
      refine wl_y (y_assign (by conv => lhs; whnf)) ?_
      refine wl_nil ?_
      refine then_normal ?_
      refine wc_seq ?_
      refine wc_region ?_
      refine wl_y (y_move (by conv => lhs; whnf)) ?_
      refine wl_callR hm hb44 (Count_no _ _ qs _ (hm.slAt 0 rfl) hok) rfl rfl (fun W hm hu => ?_)
      refine wl_y (y_move (by conv => lhs; whnf)) ?_
      refine wl_y (y_extract rfl rfl) ?_
      refine wl_y (y_extract rfl rfl) ?_
      refine wl_y (y_assign (by conv => lhs; whnf)) ?_
      refine wl_y (y_assign (by conv => lhs; whnf)) ?_
      refine wl_nil ?_
      refine then_normal ?_
      refine wc_seq ?_
      refine wc_region ?_
      refine wl_y (y_move (by conv => lhs; whnf)) ?_
      refine wl_call hb45 (Words_no _ _ qs _ (hm.slAt 0 rfl) hok) rfl rfl (fun e W h => ?_)
      obtain ⟨v107, rfl, hv107⟩ := h
      refine ⟨_, rfl, ?_⟩
      have hm := hm.call hv107
      refine wl_y (y_move (by conv => lhs; whnf)) ?_
      refine wl_y (y_extract rfl rfl) ?_
      refine wl_y (y_extract rfl rfl) ?_
      refine wl_y (y_assign (by conv => lhs; whnf)) ?_
      refine wl_y (y_assign (by conv => lhs; whnf)) ?_
      refine wl_nil ?_
      refine then_normal ?_
      refine wc_seq ?_
      refine wc_region ?_
      refine wl_y (y_move (by conv => lhs; whnf)) ?_
      refine wl_callM hm hb31 (Form_no _ _ qs (hm.slAt 0 rfl) hok) rfl rfl (fun W v112 E hm hu hE => ?_)
      obtain ⟨vs112, rfl, rfl⟩ := hE
      refine wl_y (y_move (by conv => lhs; whnf)) ?_
      refine wl_y (y_extract rfl rfl) ?_
      refine wl_y (y_extract rfl rfl) ?_
      refine wl_y (y_assign (by conv => lhs; whnf)) ?_
      refine wl_y (y_assign (by conv => lhs; whnf)) ?_
      refine wl_nil ?_
      refine then_normal ?_
      refine wc_seq ?_
      refine wc_region ?_
      refine wl_y (y_move (by conv => lhs; whnf)) ?_
      refine wl_callR hm hb40 (Apart_no _ _ qs _ _ (hm.slAt 0 rfl) hok) rfl rfl (fun W hm hu => ?_)
      refine wl_y (y_move (by conv => lhs; whnf)) ?_
      refine wl_y (y_extract rfl rfl) ?_
      refine wl_y (y_extract rfl rfl) ?_
      refine wl_y (y_extract rfl rfl) ?_
      refine wl_y (y_assign (by conv => lhs; whnf)) ?_
      refine wl_y (y_assign (by conv => lhs; whnf)) ?_
      refine wl_y (y_assign (by conv => lhs; whnf)) ?_
      refine wl_nil ?_
      refine then_normal ?_
      refine wc_seq ?_
      refine wc_region ?_
      refine wl_y (y_move (by conv => lhs; whnf)) ?_
      refine wl_callR hm hb27 (Tells_no _ _ qs (hm.slAt 0 rfl) hok) rfl rfl (fun W hm hu => ?_)
      refine wl_y (y_move (by conv => lhs; whnf)) ?_
      refine wl_y (y_extract rfl rfl) ?_
      refine wl_y (y_extract rfl rfl) ?_
      refine wl_y (y_extract rfl rfl) ?_
      refine wl_y (y_assign (by conv => lhs; whnf)) ?_
      refine wl_y (y_assign (by conv => lhs; whnf)) ?_
      refine wl_y (y_assign (by conv => lhs; whnf)) ?_
      refine wl_nil ?_
      refine then_normal ?_
      refine wc_seq ?_
      refine wc_region ?_
      refine wl_y (y_move (by conv => lhs; whnf)) ?_
      refine wl_callR hm hb15 (Memory_no _ _ qs (hm.slAt 0 rfl) hok) rfl rfl (fun W hm hu => ?_)
      refine wl_y (y_move (by conv => lhs; whnf)) ?_
      refine wl_y (y_extract rfl rfl) ?_
      refine wl_y (y_extract rfl rfl) ?_
      refine wl_y (y_extract rfl rfl) ?_
      refine wl_y (y_assign (by conv => lhs; whnf)) ?_
      refine wl_y (y_assign (by conv => lhs; whnf)) ?_
      refine wl_y (y_assign (by conv => lhs; whnf)) ?_
      refine wl_nil ?_
      refine then_normal ?_
      refine wc_seq ?_
      refine wc_region ?_
      refine wl_y (y_move (by conv => lhs; whnf)) ?_
      refine wl_callR hm hb16 (Doubt_no _ _ qs (hm.slAt 0 rfl) hok) rfl rfl (fun W hm hu => ?_)
      refine wl_y (y_move (by conv => lhs; whnf)) ?_
      refine wl_y (y_extract rfl rfl) ?_
      refine wl_y (y_extract rfl rfl) ?_
      refine wl_y (y_extract rfl rfl) ?_
      refine wl_y (y_extract rfl rfl) ?_
      refine wl_alloc hm ti27 (fun W b31 hm hb31 hu => ?_)
      refine wl_y (y_assign (by conv => lhs; whnf)) ?_
      refine wl_storeBlk (i := 4) (vs := pcells (0, 0)) hm rfl rfl rfl ti27 rfl rfl (by simp [pcells, Value.oneCell']) (fun W hm => ?_)
      refine wl_y (y_assign (by conv => lhs; whnf)) ?_
      refine wl_y (y_assign (by conv => lhs; whnf)) ?_
      refine wl_nil ?_
      refine then_normal ?_
      refine wc_seq ?_
      refine wc_region ?_
      refine wl_y (y_move (by conv => lhs; whnf)) ?_
      refine wl_call hb32 (Forbidden_no _ _ qs _ (hm.slAt 0 rfl) hok) rfl rfl (fun e W h => ?_)
      obtain ⟨v142, rfl, hv142⟩ := h
      refine ⟨_, rfl, ?_⟩
      have hm := hm.call hv142
      refine wl_y (y_move (by conv => lhs; whnf)) ?_
      refine wl_y (y_extract rfl rfl) ?_
      refine wl_y (y_extract rfl rfl) ?_
      refine wl_y (y_assign (by conv => lhs; whnf)) ?_
      refine wl_y (y_assign (by conv => lhs; whnf)) ?_
      refine wl_nil ?_
      refine then_normal ?_
      refine wc_seq ?_
      refine wc_region ?_
      refine wl_y (y_move (by conv => lhs; whnf)) ?_
      refine wl_callR hm hb23 (Rounds_no _ _ qs _ (hm.slAt 0 rfl) hok) rfl rfl (fun W hm hu => ?_)
      refine wl_y (y_move (by conv => lhs; whnf)) ?_
      refine wl_y (y_extract rfl rfl) ?_
      refine wl_y (y_extract rfl rfl) ?_
      refine wl_y (y_assign (by conv => lhs; whnf)) ?_
      refine wl_y (y_assign (by conv => lhs; whnf)) ?_
      refine wl_nil ?_
      refine then_normal ?_
      refine wc_seq ?_
      refine wc_region ?_
      refine wl_y (y_move (by conv => lhs; whnf)) ?_
      refine wl_callR hm hb24 (Signed_no _ _ qs _ (hm.slAt 0 rfl) hok) rfl rfl (fun W hm hu => ?_)
      refine wl_y (y_move (by conv => lhs; whnf)) ?_
      refine wl_y (y_extract rfl rfl) ?_
      refine wl_y (y_extract rfl rfl) ?_
      refine wl_y (y_assign (by conv => lhs; whnf)) ?_
      refine wl_y (y_assign (by conv => lhs; whnf)) ?_
      refine wl_nil ?_
      refine then_normal ?_
      refine wc_seq ?_
      refine wc_region ?_
      refine wl_y (y_move (by conv => lhs; whnf)) ?_
      refine wl_callM hm hb53 (even_calls _) rfl rfl (fun W v157 E hm hu hE => ?_)
      obtain rfl := hE
      refine wl_callR hm hb43 (SameL_no _ _ _ qs (hm.slAt 0 rfl) hok) rfl rfl (fun W hm hu => ?_)
      refine wl_y (y_move (by conv => lhs; whnf)) ?_
      refine wl_y (y_extract rfl rfl) ?_
      refine wl_y (y_extract rfl rfl) ?_
      refine wl_y (y_extract rfl rfl) ?_
      refine wl_y (y_assign (by conv => lhs; whnf)) ?_
      refine wl_y (y_assign (by conv => lhs; whnf)) ?_
      refine wl_y (y_assign (by conv => lhs; whnf)) ?_
      refine wl_nil ?_
      refine then_normal ?_
      refine wc_seq ?_
      refine wc_region ?_
      refine wl_callM hm hb53 (even_calls _) rfl rfl (fun W v163 E hm hu hE => ?_)
      obtain rfl := hE
      refine wl_y (y_move (by conv => lhs; whnf)) ?_
      refine wl_callR hm hb43 (SameR_no _ _ _ [(0, 1), (-1, 0)] qs (hm.slAt 7 rfl) netOk_evenP (hm.slAt 0 rfl) hok) rfl rfl (fun W hm hu => ?_)
      refine wl_y (y_move (by conv => lhs; whnf)) ?_
      refine wl_y (y_extract rfl rfl) ?_
      refine wl_y (y_extract rfl rfl) ?_
      refine wl_y (y_extract rfl rfl) ?_
      refine wl_y (y_assign (by conv => lhs; whnf)) ?_
      refine wl_y (y_assign (by conv => lhs; whnf)) ?_
      refine wl_y (y_assign (by conv => lhs; whnf)) ?_
      refine wl_nil ?_
      refine then_normal ?_
      refine wc_seq ?_
      refine wc_region ?_
      refine wl_y (y_move (by conv => lhs; whnf)) ?_
      refine wl_y (y_move (by conv => lhs; whnf)) ?_
      refine wl_y (v := .bool true) (y_eqT rfl rfl) ?_
      refine wl_y (y_move (by conv => lhs; whnf)) ?_
      refine wl_guard_yes rfl ?_
      refine wl_y (y_move (by conv => lhs; whnf)) ?_
      refine wl_guard_yes rfl ?_
      refine wl_y (y_move (by conv => lhs; whnf)) ?_
      refine wl_guard_yes rfl ?_
      refine wl_y (v := .bool true) (y_eqT rfl rfl) ?_
      refine wl_y (y_pick_true rfl (by conv => lhs; whnf)) ?_
      refine wl_y (y_move (by conv => lhs; whnf)) ?_
      refine wl_guard_yes rfl ?_
      refine wl_y (y_move (by conv => lhs; whnf)) ?_
      refine wl_guard_yes rfl ?_
      refine wl_y (y_move (by conv => lhs; whnf)) ?_
      refine wl_guard_yes rfl ?_
      refine wl_y (v := .bool true) (y_eqT rfl rfl) ?_
      refine wl_y (y_pick_true rfl (by conv => lhs; whnf)) ?_
      refine wl_y (y_move (by conv => lhs; whnf)) ?_
      refine wl_guard_yes rfl ?_
      refine wl_y (y_move (by conv => lhs; whnf)) ?_
      refine wl_guard_yes rfl ?_
      refine wl_y (y_move (by conv => lhs; whnf)) ?_
      refine wl_guard_yes rfl ?_
      refine wl_y (v := .bool true) (y_eqT rfl rfl) ?_
      refine wl_y (y_pick_true rfl (by conv => lhs; whnf)) ?_
      refine wl_y (y_move (by conv => lhs; whnf)) ?_
      refine wl_guard_yes rfl ?_
      refine wl_y (y_move (by conv => lhs; whnf)) ?_
      refine wl_guard_yes rfl ?_
      refine wl_y (y_move (by conv => lhs; whnf)) ?_
      refine wl_guard_yes rfl ?_
      refine wl_y (v := .bool true) (y_eqT rfl rfl) ?_
      refine wl_y (y_pick_true rfl (by conv => lhs; whnf)) ?_
      refine wl_y (y_move (by conv => lhs; whnf)) ?_
      refine wl_guard_yes rfl ?_
      refine wl_y (y_move (by conv => lhs; whnf)) ?_
      refine wl_guard_yes rfl ?_
      refine wl_y (y_move (by conv => lhs; whnf)) ?_
      refine wl_guard_yes rfl ?_
      refine wl_y (v := .bool true) (y_eqT rfl rfl) ?_
      refine wl_y (y_pick_true rfl (by conv => lhs; whnf)) ?_
      refine wl_y (y_move (by conv => lhs; whnf)) ?_
      refine wl_guard_yes rfl ?_
      refine wl_y (y_move (by conv => lhs; whnf)) ?_
      refine wl_guard_yes rfl ?_
      refine wl_y (y_move (by conv => lhs; whnf)) ?_
      refine wl_guard_yes rfl ?_
      refine wl_y (v := .bool true) (y_eqT rfl rfl) ?_
      refine wl_y (y_pick_true rfl (by conv => lhs; whnf)) ?_
      refine wl_y (y_move (by conv => lhs; whnf)) ?_
      refine wl_guard_yes rfl ?_
      refine wl_y (y_move (by conv => lhs; whnf)) ?_
      refine wl_guard_yes rfl ?_
      refine wl_y (y_move (by conv => lhs; whnf)) ?_
      refine wl_guard_yes rfl ?_
      refine wl_y (v := .bool true) (y_eqT rfl rfl) ?_
      refine wl_y (y_pick_true rfl (by conv => lhs; whnf)) ?_
      refine wl_y (y_move (by conv => lhs; whnf)) ?_
      refine wl_guard_yes rfl ?_
      refine wl_y (y_move (by conv => lhs; whnf)) ?_
      refine wl_guard_yes rfl ?_
      refine wl_y (y_move (by conv => lhs; whnf)) ?_
      refine wl_guard_yes rfl ?_
      refine wl_y (v := .bool true) (y_eqT rfl rfl) ?_
      refine wl_y (y_pick_true rfl (by conv => lhs; whnf)) ?_
      refine wl_y (y_move (by conv => lhs; whnf)) ?_
      refine wl_guard_yes rfl ?_
      refine wl_y (y_move (by conv => lhs; whnf)) ?_
      refine wl_guard_yes rfl ?_
      refine wl_y (y_move (by conv => lhs; whnf)) ?_
      refine wl_guard_yes rfl ?_
      refine wl_y (v := .bool true) (y_eqT rfl rfl) ?_
      refine wl_y (y_pick_true rfl (by conv => lhs; whnf)) ?_
      refine wl_y (y_move (by conv => lhs; whnf)) ?_
      refine wl_guard_yes rfl ?_
      refine wl_y (y_move (by conv => lhs; whnf)) ?_
      refine wl_guard_yes rfl ?_
      refine wl_y (y_move (by conv => lhs; whnf)) ?_
      refine wl_guard_yes rfl ?_
      refine wl_y (v := .bool true) (y_eqT rfl rfl) ?_
      refine wl_y (y_pick_true rfl (by conv => lhs; whnf)) ?_
      refine wl_y (y_move (by conv => lhs; whnf)) ?_
      refine wl_guard_yes rfl ?_
      refine wl_y (y_move (by conv => lhs; whnf)) ?_
      refine wl_guard_yes rfl ?_
      refine wl_y (y_move (by conv => lhs; whnf)) ?_
      refine wl_guard_yes rfl ?_
      refine wl_y (v := .bool true) (y_eqT rfl rfl) ?_
      refine wl_y (y_pick_true rfl (by conv => lhs; whnf)) ?_
      refine wl_y (y_move (by conv => lhs; whnf)) ?_
      refine wl_guard_yes rfl ?_
      refine wl_y (y_move (by conv => lhs; whnf)) ?_
      refine wl_guard_yes rfl ?_
      refine wl_y (y_move (by conv => lhs; whnf)) ?_
      refine wl_guard_yes rfl ?_
      refine wl_y (v := .bool true) (y_eqT rfl rfl) ?_
      refine wl_y (y_pick_true rfl (by conv => lhs; whnf)) ?_
      refine wl_y (y_move (by conv => lhs; whnf)) ?_
      refine wl_guard_yes rfl ?_
      refine wl_y (y_move (by conv => lhs; whnf)) ?_
      refine wl_guard_yes rfl ?_
      refine wl_y (y_move (by conv => lhs; whnf)) ?_
      refine wl_guard_yes rfl ?_
      refine wl_y (v := .bool true) (y_eqT rfl rfl) ?_
      refine wl_y (y_pick_true rfl (by conv => lhs; whnf)) ?_
      refine wl_y (y_move (by conv => lhs; whnf)) ?_
      refine wl_guard_yes rfl ?_
      refine wl_y (y_move (by conv => lhs; whnf)) ?_
      refine wl_guard_yes rfl ?_
      refine wl_y (y_move (by conv => lhs; whnf)) ?_
      refine wl_guard_yes rfl ?_
      refine wl_y (v := .bool true) (y_eqT rfl rfl) ?_
      refine wl_y (y_pick_true rfl (by conv => lhs; whnf)) ?_
      refine wl_y (y_move (by conv => lhs; whnf)) ?_
      refine wl_guard_yes rfl ?_
      refine wl_y (y_move (by conv => lhs; whnf)) ?_
      refine wl_guard_yes rfl ?_
      refine wl_y (y_move (by conv => lhs; whnf)) ?_
      refine wl_guard_yes rfl ?_
      refine wl_y (v := .bool true) (y_eqT rfl rfl) ?_
      refine wl_y (y_pick_true rfl (by conv => lhs; whnf)) ?_
      refine wl_y (y_move (by conv => lhs; whnf)) ?_
      refine wl_guard_yes rfl ?_
      refine wl_y (y_move (by conv => lhs; whnf)) ?_
      refine wl_guard_yes rfl ?_
      refine wl_y (v := .bool true) (y_not (p := false) rfl) ?_
      refine wl_y (y_pick_true rfl (by conv => lhs; whnf)) ?_
      refine wl_y (y_move (by conv => lhs; whnf)) ?_
      refine wl_guard_yes rfl ?_
      refine wl_y (y_move (by conv => lhs; whnf)) ?_
      refine wl_guard_yes rfl ?_
      refine wl_y (v := .bool true) (y_not (p := false) rfl) ?_
      refine wl_y (y_pick_true rfl (by conv => lhs; whnf)) ?_
      refine wl_y (y_move (by conv => lhs; whnf)) ?_
      refine wl_guard_yes rfl ?_
      refine wl_y (y_move (by conv => lhs; whnf)) ?_
      refine wl_guard_yes rfl ?_
      refine wl_y (v := .bool true) (y_not (p := false) rfl) ?_
      refine wl_y (y_pick_true rfl (by conv => lhs; whnf)) ?_
      refine wl_y (y_move (by conv => lhs; whnf)) ?_
      refine wl_guard_yes rfl ?_
      refine wl_y (y_move (by conv => lhs; whnf)) ?_
      refine wl_guard_yes rfl ?_
      refine wl_y (v := .bool true) (y_not (p := false) rfl) ?_
      refine wl_y (y_pick_true rfl (by conv => lhs; whnf)) ?_
      refine wl_y (y_move (by conv => lhs; whnf)) ?_
      refine wl_guard_yes rfl ?_
      refine wl_y (y_move (by conv => lhs; whnf)) ?_
      refine wl_guard_yes rfl ?_
      refine wl_y (v := .bool true) (y_not (p := false) rfl) ?_
      refine wl_y (y_pick_true rfl (by conv => lhs; whnf)) ?_
      refine wl_y (y_move (by conv => lhs; whnf)) ?_
      refine wl_guard_yes rfl ?_
      refine wl_y (y_move (by conv => lhs; whnf)) ?_
      refine wl_guard_yes rfl ?_
      refine wl_y (v := .bool true) (y_not (p := false) rfl) ?_
      refine wl_y (y_pick_true rfl (by conv => lhs; whnf)) ?_
      refine wl_y (y_move (by conv => lhs; whnf)) ?_
      refine wl_guard_yes rfl ?_
      refine wl_y (y_move (by conv => lhs; whnf)) ?_
      refine wl_guard_yes rfl ?_
      refine wl_y (v := .bool true) (y_not (p := false) rfl) ?_
      refine wl_y (y_pick_true rfl (by conv => lhs; whnf)) ?_
      refine wl_y (y_move (by conv => lhs; whnf)) ?_
      refine wl_guard_yes rfl ?_
      refine wl_y (y_move (by conv => lhs; whnf)) ?_
      refine wl_guard_yes rfl ?_
      refine wl_y (v := .bool true) (y_not (p := false) rfl) ?_
      refine wl_y (y_pick_true rfl (by conv => lhs; whnf)) ?_
      refine wl_y (y_move (by conv => lhs; whnf)) ?_
      refine wl_guard_yes rfl ?_
      refine wl_y (y_loadBlk (xs := pcells (0, 0)) rfl (hm.at (i := 4) rfl) Try.underlying27 rfl ti27) ?_
      refine wl_guard_yes rfl ?_
      refine wl_y (y_buildL (cells := #[.int .i64 0, .int .i64 0]) rfl (by kernel_rfl)) ?_
      refine wl_guard_yes rfl ?_
      refine wl_y (v := .bool true) (y_eqlPair (a := 0) (c := 0) (a' := 0) (c' := 0) rfl rfl (by kernel_rfl) Try.underlying27 ti3 Try.underlying3) ?_
      refine wl_y (y_pick_true rfl (by conv => lhs; whnf)) ?_
      refine wl_y (y_move (by conv => lhs; whnf)) ?_
      refine wl_guard_yes rfl ?_
      refine wl_y (y_move (by conv => lhs; whnf)) ?_
      refine wl_guard_yes rfl ?_
      refine wl_y (y_move (by conv => lhs; whnf)) ?_
      refine wl_guard_yes rfl ?_
      refine wl_y (y_add64 rfl rfl (by omega)) ?_
      refine wl_guard_yes rfl ?_
      refine wl_y (y_move (by conv => lhs; whnf)) ?_
      refine wl_guard_yes rfl ?_
      refine wl_y (y_add64 rfl rfl (by omega)) ?_
      refine wl_guard_yes rfl ?_
      refine wl_y (y_move (by conv => lhs; whnf)) ?_
      refine wl_guard_yes rfl ?_
      refine wl_y (y_add64 rfl rfl (by omega)) ?_
      refine wl_guard_yes rfl ?_
      refine wl_y (y_move (by conv => lhs; whnf)) ?_
      refine wl_guard_yes rfl ?_
      refine wl_y (y_add64 rfl rfl (by omega)) ?_
      refine wl_guard_yes rfl ?_
      refine wl_y (y_move (by conv => lhs; whnf)) ?_
      refine wl_guard_yes rfl ?_
      refine wl_y (v := .int .i64 0) (y_lenSl (m := 0) rfl (hm.slAt 1 rfl) Try.underlying55) ?_
      refine wl_guard_yes rfl ?_
      refine wl_y (y_add64 rfl rfl (by omega)) ?_
      refine wl_guard_yes rfl ?_
      refine wl_y (y_move (by conv => lhs; whnf)) ?_
      refine wl_guard_yes rfl ?_
      refine wl_y (v := .int .i64 0) (y_lenSl (m := 0) rfl (hm.slAt 2 rfl) Try.underlying47) ?_
      refine wl_guard_yes rfl ?_
      refine wl_y (y_add64 rfl rfl (by omega)) ?_
      refine wl_guard_yes rfl ?_
      refine wl_y (y_move (by conv => lhs; whnf)) ?_
      refine wl_guard_yes rfl ?_
      refine wl_y (v := .int .i64 0) (y_lenSl (m := 0) rfl (hm.slAt 3 rfl) Try.underlying22) ?_
      refine wl_guard_yes rfl ?_
      refine wl_y (y_add64 rfl rfl (by omega)) ?_
      refine wl_guard_yes rfl ?_
      refine wl_y (y_move (by conv => lhs; whnf)) ?_
      refine wl_guard_yes rfl ?_
      refine wl_y (v := .int .i64 0) (y_lenStr (s := ⟨#[]⟩) rfl Try.underlying9) ?_
      refine wl_guard_yes rfl ?_
      refine wl_y (y_add64 rfl rfl (by omega)) ?_
      refine wl_guard_yes rfl ?_
      refine wl_y (y_move (by conv => lhs; whnf)) ?_
      refine wl_guard_yes rfl ?_
      refine wl_y (v := .int .i64 0) (y_lenStr (s := ⟨#[]⟩) rfl Try.underlying9) ?_
      refine wl_guard_yes rfl ?_
      refine wl_y (y_add64 rfl rfl (by omega)) ?_
      refine wl_guard_yes rfl ?_
      refine wl_y (y_move (by conv => lhs; whnf)) ?_
      refine wl_guard_yes rfl ?_
      refine wl_y (v := .int .i64 0) (y_lenStr (s := ⟨#[]⟩) rfl Try.underlying9) ?_
      refine wl_guard_yes rfl ?_
      refine wl_y (y_add64 rfl rfl (by omega)) ?_
      refine wl_guard_yes rfl ?_
      refine wl_y (y_move (by conv => lhs; whnf)) ?_
      refine wl_guard_yes rfl ?_
      refine wl_y (v := .int .i64 0) (y_lenSl (m := 0) rfl (hm.slAt 5 rfl) Try.underlying47) ?_
      refine wl_guard_yes rfl ?_
      refine wl_y (y_add64 rfl rfl (by omega)) ?_
      refine wl_guard_yes rfl ?_
      refine wl_y (y_move (by conv => lhs; whnf)) ?_
      refine wl_guard_yes rfl ?_
      refine wl_y (v := .int .i64 0) (y_lenStr (s := ⟨#[]⟩) rfl Try.underlying9) ?_
      refine wl_guard_yes rfl ?_
      refine wl_y (y_add64 rfl rfl (by omega)) ?_
      refine wl_guard_yes rfl ?_
      refine wl_y (y_move (by conv => lhs; whnf)) ?_
      refine wl_guard_yes rfl ?_
      refine wl_y (v := .int .i64 0) (y_lenStr (s := ⟨#[]⟩) rfl Try.underlying9) ?_
      refine wl_guard_yes rfl ?_
      refine wl_y (y_add64 rfl rfl (by omega)) ?_
      refine wl_guard_yes rfl ?_
      refine wl_y (v := .bool true) (y_eqT rfl rfl) ?_
      refine wl_y (y_pick_true rfl (by conv => lhs; whnf)) ?_
      refine wl_y (y_move (by conv => lhs; whnf)) ?_
      refine wl_guard_yes rfl ?_
      refine wl_callR (v := .bool true) hm hb18 (awake_calls W) rfl rfl (fun W hm hu => ?_)
      refine wl_y (y_pick_true rfl (by conv => lhs; whnf)) ?_
      refine wl_y (y_assign (by conv => lhs; whnf)) ?_
      refine wl_nil ?_
      refine then_normal ?_
      refine wc_ret ?_
      refine post_ret (results_fr rfl) ?_
      exact ⟨rfl, hm.upd⟩

theorem y_eqBT {P : Program} {ρ : Operand → Value} {T t t' : TypeId} {W : World} {x y : Operand} {p : Bool} (hx : ρ x = .bool p) (hy : ρ y = .bool p) (ht : P.underlying t = some .bool) : Y P ρ (.binOp .eql t x y t') T (.bool true) W := by
  have h := y_eqlB (P := P) (T := T) (W := W) (t := t) (t' := t') hx hy ht
  rwa [decide_eq_true rfl] at h

set_option maxHeartbeats 4000000 in
theorem soficChecks_yes (w : World) (vl : Value) (ps qs : List (Int × Int)) (s : ByteArray) (hl : SlAt w 2 vl ps.length (prs ps)) (hq : ps.take 7 = qs) (hok : NetOk qs) :
    Cl Try.prog 13 [vl, .string s].toArray w (Ret w (.bool true)) := by
  have hm : Mem w [] [] w := Mem.init w
  refine cl_enter Try.func13 rfl Try.ntmps13 rfl ?_
  refine wc_seq ?_
  refine wc_region ?_
  refine wl_y (y_assign (by conv => lhs; whnf)) ?_
  refine wl_nil ?_
  refine then_normal ?_
  refine wc_seq ?_
  refine wc_region ?_
  refine wl_y (y_move (by conv => lhs; whnf)) ?_
  refine wl_callM hm hb50 (few_callsQ _ _ ps qs (hl.step hm.upd) hq) rfl rfl (fun W v47 E hm hu hE => ?_)
  obtain rfl := hE
  refine wl_y (y_assign (by conv => lhs; whnf)) ?_
  refine wl_nil ?_
  refine then_normal ?_
  refine wc_seq ?_
  refine wc_region ?_
  refine wl_y (y_assign (by conv => lhs; whnf)) ?_
  refine wl_nil ?_
  refine then_normal ?_
  refine wc_seq ?_
  refine wc_seq ?_
  refine wc_region ?_
  refine wl_y (y_move (by conv => lhs; whnf)) ?_
  refine wl_callR (v := .bool true) hm hb49 (rCheck_yes W _ qs (hm.slAt 0 rfl) hok) rfl rfl (fun W hm hu => ?_)
  refine wl_y (y_not rfl) ?_
  refine wl_nil ?_
  refine then_normal ?_
  refine wc_cond_false rfl ?_
  refine wc_skip ?_
  refine then_normal ?_
  refine wc_seq ?_
  refine wc_seq ?_
  refine wc_region ?_
  refine wl_y (y_move (by conv => lhs; whnf)) ?_
  refine wl_callR hm hb51 (Check_yes _ _ qs (hm.slAt 0 rfl) hok) rfl rfl (fun W hm hu => ?_)
  refine wl_y (y_move (by conv => lhs; whnf)) ?_
  refine wl_y (y_neq rfl rfl) ?_
  refine wl_nil ?_
  refine then_normal ?_
  refine wc_cond_dec rfl (fun h1 => ?_) (fun h1 => ?_)
  · exact absurd rfl h1
  · skip
    refine wc_skip ?_
    refine then_normal ?_
    refine wc_seq ?_
    refine wc_region ?_
    refine wl_y (y_move (by conv => lhs; whnf)) ?_
    refine wl_callR hm hb33 (Is_nil _ _ qs (hm.slAt 0 rfl) hok) rfl rfl (fun W hm hu => ?_)
    refine wl_y (y_move (by conv => lhs; whnf)) ?_
    refine wl_y (y_extract rfl rfl) ?_
    refine wl_y (y_extract rfl rfl) ?_
    refine wl_y (y_assign (by conv => lhs; whnf)) ?_
    refine wl_y (y_assign (by conv => lhs; whnf)) ?_
    refine wl_nil ?_
    refine then_normal ?_
    refine wc_seq ?_
    refine wc_region ?_
    refine wl_y (y_move (by conv => lhs; whnf)) ?_
    refine wl_callR hm hb52 (Hangs_yes _ _ qs (hm.slAt 0 rfl) hok) rfl rfl (fun W hm hu => ?_)
    refine wl_y (y_move (by conv => lhs; whnf)) ?_
    refine wl_y (y_extract rfl rfl) ?_
    refine wl_y (y_extract rfl rfl) ?_
    refine wl_y (y_assign (by conv => lhs; whnf)) ?_
    refine wl_y (y_assign (by conv => lhs; whnf)) ?_
    refine wl_nil ?_
    refine then_normal ?_
    refine wc_seq ?_
    refine wc_region ?_
    refine wl_y (y_move (by conv => lhs; whnf)) ?_
    refine wl_callM hm hb36 (Equal_yes _ _ qs (hm.slAt 0 rfl) hok) rfl rfl (fun W v67 E hm hu hE => ?_)
    obtain ⟨vs67, rfl, rfl⟩ := hE
    refine wl_y (y_move (by conv => lhs; whnf)) ?_
    refine wl_y (y_extract rfl rfl) ?_
    refine wl_y (y_extract rfl rfl) ?_
    refine wl_y (y_assign (by conv => lhs; whnf)) ?_
    refine wl_y (y_assign (by conv => lhs; whnf)) ?_
    refine wl_nil ?_
    refine then_normal ?_
    refine wc_seq ?_
    refine wc_seq ?_
    refine wc_region ?_
    refine wl_y (y_move (by conv => lhs; whnf)) ?_
    refine wl_y (y_eql rfl rfl) ?_
    refine wl_nil ?_
    refine then_normal ?_
    refine wc_cond_dec rfl (fun h2 => ?_) (fun h2 => ?_)
    · skip
      refine wc_seq ?_
      refine wc_region ?_
      refine wl_y (y_move (by conv => lhs; whnf)) ?_
      refine wl_y (v := .bool true) (y_eqT rfl rfl) ?_
      refine wl_y (y_move (by conv => lhs; whnf)) ?_
      refine wl_guard_yes rfl ?_
      refine wl_y (v := .bool true) (y_move rfl) ?_
      refine wl_y (y_pick_true rfl (by conv => lhs; whnf)) ?_
      refine wl_y (y_move (by conv => lhs; whnf)) ?_
      refine wl_guard_yes rfl ?_
      refine wl_y (y_move (by conv => lhs; whnf)) ?_
      refine wl_guard_yes rfl ?_
      refine wl_y (v := .bool true) (y_eqT rfl rfl) ?_
      refine wl_y (y_pick_true rfl (by conv => lhs; whnf)) ?_
      refine wl_y (y_move (by conv => lhs; whnf)) ?_
      refine wl_guard_yes rfl ?_
      refine wl_y (y_move (by conv => lhs; whnf)) ?_
      refine wl_guard_yes rfl ?_
      refine wl_y (y_move (by conv => lhs; whnf)) ?_
      refine wl_guard_yes rfl ?_
      refine wl_callR hm hb17 (rHangs_calls _ _ qs (hm.slAt 0 rfl) hok.okf) rfl rfl (fun W hm hu => ?_)
      refine wl_guard_yes rfl ?_
      refine wl_y (v := .bool true) (y_eqBT rfl rfl Try.underlying4) ?_
      refine wl_y (y_pick_true rfl (by conv => lhs; whnf)) ?_
      refine wl_y (y_move (by conv => lhs; whnf)) ?_
      refine wl_guard_yes rfl ?_
      refine wl_y (y_move (by conv => lhs; whnf)) ?_
      refine wl_guard_yes rfl ?_
      refine wl_y (v := .bool true) (y_eqT rfl rfl) ?_
      refine wl_y (y_pick_true rfl (by conv => lhs; whnf)) ?_
      refine wl_y (y_move (by conv => lhs; whnf)) ?_
      refine wl_guard_yes rfl ?_
      refine wl_callR (v := .bool true) hm hb18 (awake_calls W) rfl rfl (fun W hm hu => ?_)
      refine wl_y (y_pick_true rfl (by conv => lhs; whnf)) ?_
      refine wl_y (y_assign (by conv => lhs; whnf)) ?_
      refine wl_nil ?_
      refine then_normal ?_
      refine wc_ret ?_
      refine then_ret ?_
      refine post_ret (results_fr rfl) ?_
      exact ⟨rfl, hm.upd⟩
    · exact absurd rfl h2

theorem soficChecks_calls (w : World) (vl : Value) (ps : List (Int × Int)) (s : ByteArray) (hl : SlAt w 2 vl ps.length (prs ps)) :
    Cl Try.prog 13 [vl, .string s].toArray w (Ret w (.bool true)) := by
  by_cases hok : NetOk (ps.take 7)
  · exact soficChecks_yes w vl ps _ s hl rfl hok
  · exact soficChecks_no w vl ps _ s hl rfl hok
end Go.Proofs.Ytofpdjpenmhbnaa
namespace Go.Proofs.Ytofpdjpenmhbnaa
open Go Go.Kx

set_option maxHeartbeats 4000000 in
theorem soficSteps_calls (w : World) (vl : Value) (ps : List (Int × Int)) (hl : SlAt w 2 vl ps.length (prs ps)) :
    Cl Try.prog 6 [vl].toArray w (Ret w (.bool true)) := by
  have hm : Mem w [] [] w := Mem.init w
  refine cl_enter Try.func6 rfl Try.ntmps6 rfl ?_
  refine wc_seq ?_
  refine wc_region ?_
  refine wl_y (y_assign (by conv => lhs; whnf)) ?_
  refine wl_nil ?_
  refine then_normal ?_
  refine wc_seq ?_
  refine wc_region ?_
  refine wl_y (y_move (by conv => lhs; whnf)) ?_
  refine wl_callM hm hb14 (tame_calls _ _ ps true (hl.step hm.upd)) rfl rfl (fun W v17 E hm hu hE => ?_)
  obtain ⟨qs, hTqs, rfl⟩ := hE
  have hokqs := hTqs.1
  have hl1qs := hokqs.1
  refine wl_y (y_assign (by conv => lhs; whnf)) ?_
  refine wl_nil ?_
  refine then_normal ?_
  refine wc_seq ?_
  refine wc_region ?_
  refine wl_y (y_move (by conv => lhs; whnf)) ?_
  refine wl_callM hm hb31 (Form_yes _ _ qs (hm.slAt 0 rfl) hokqs) rfl rfl (fun W v20 E hm hu hE => ?_)
  obtain ⟨vs20, rfl, rfl⟩ := hE
  refine wl_y (y_move (by conv => lhs; whnf)) ?_
  refine wl_y (y_extract rfl rfl) ?_
  refine wl_y (y_extract rfl rfl) ?_
  refine wl_y (y_assign (by conv => lhs; whnf)) ?_
  refine wl_y (y_assign (by conv => lhs; whnf)) ?_
  refine wl_nil ?_
  refine then_normal ?_
  refine wc_seq ?_
  refine wc_region ?_
  refine wl_y (y_move (by conv => lhs; whnf)) ?_
  refine wl_callR hm hb15 (Memory_calls _ _ qs (hm.slAt 0 rfl)) rfl rfl (fun W hm hu => ?_)
  refine wl_y (y_move (by conv => lhs; whnf)) ?_
  refine wl_y (y_extract rfl rfl) ?_
  refine wl_y (y_extract rfl rfl) ?_
  refine wl_y (y_extract rfl rfl) ?_
  refine wl_y (y_assign (by conv => lhs; whnf)) ?_
  refine wl_y (y_assign (by conv => lhs; whnf)) ?_
  refine wl_y (y_assign (by conv => lhs; whnf)) ?_
  refine wl_nil ?_
  refine then_normal ?_
  refine wc_seq ?_
  refine wc_region ?_
  refine wl_y (y_move (by conv => lhs; whnf)) ?_
  refine wl_callR hm hb16 (Doubt_calls _ _ qs (hm.slAt 0 rfl)) rfl rfl (fun W hm hu => ?_)
  refine wl_y (y_move (by conv => lhs; whnf)) ?_
  refine wl_y (y_extract rfl rfl) ?_
  refine wl_y (y_extract rfl rfl) ?_
  refine wl_y (y_extract rfl rfl) ?_
  refine wl_y (y_extract rfl rfl) ?_
  refine wl_alloc hm ti27 (fun W b10 hm hb10 hu => ?_)
  refine wl_y (y_assign (by conv => lhs; whnf)) ?_
  refine wl_storeBlk (i := 2) (vs := pcells (doubtV qs).2.1) hm rfl rfl rfl ti27 rfl rfl (by simp [pcells, Value.oneCell']) (fun W hm => ?_)
  refine wl_y (y_assign (by conv => lhs; whnf)) ?_
  refine wl_y (y_assign (by conv => lhs; whnf)) ?_
  refine wl_nil ?_
  refine then_normal ?_
  refine wc_seq ?_
  refine wc_seq ?_
  refine wc_region ?_
  obtain ⟨hmm1, hmm2, hmm3, hmm4⟩ := mem_facts hokqs (Tamed.hangs hTqs)
  have hfl := formLV_len qs
  have hfk : formK (tabR qs) qs.length ≤ qs.length := rk_le _ _
  refine wl_y (y_move (by conv => lhs; whnf)) ?_
  refine wl_y (y_neq rfl rfl) ?_
  refine wl_split rfl (fun h1 => ?_) (fun h1 => ?_)
  · exact absurd rfl h1
  · skip
    refine wl_guard_yes rfl ?_
    refine wl_y (y_move (by conv => lhs; whnf)) ?_
    refine wl_guard_yes rfl ?_
    refine wl_y (y_neq rfl rfl) ?_
    refine wl_y (y_pick_false rfl (by conv => lhs; whnf)) ?_
    refine wl_split rfl (fun h2 => ?_) (fun h2 => ?_)
    · exact absurd hmm1 h2
    · skip
      refine wl_guard_yes rfl ?_
      refine wl_y (y_move (by conv => lhs; whnf)) ?_
      refine wl_guard_yes rfl ?_
      refine wl_y (y_neq rfl rfl) ?_
      refine wl_y (y_pick_false rfl (by conv => lhs; whnf)) ?_
      refine wl_split rfl (fun h3 => ?_) (fun h3 => ?_)
      · exact absurd hmm2 h3
      · skip
        refine wl_guard_yes rfl ?_
        refine wl_y (y_move (by conv => lhs; whnf)) ?_
        refine wl_guard_yes rfl ?_
        refine wl_y (y_move (by conv => lhs; whnf)) ?_
        refine wl_guard_yes rfl ?_
        refine wl_y (y_eqlB rfl rfl Try.underlying4) ?_
        refine wl_y (y_pick_false rfl (by conv => lhs; whnf)) ?_
        refine wl_split rfl (fun h4 => ?_) (fun h4 => ?_)
        · exact absurd h4 (by rw [hmm3]; cases (doubtV qs).2.2.1 <;> decide)
        · skip
          refine wl_guard_yes rfl ?_
          refine wl_y (y_move (by conv => lhs; whnf)) ?_
          refine wl_guard_yes rfl ?_
          refine wl_y (v := .int .i64 ((formLV qs).length : Nat)) (y_lenSl (m := (formLV qs).length) rfl (hm.slAt 1 rfl) Try.underlying22) ?_
          refine wl_guard_yes rfl ?_
          refine wl_y (y_gtr rfl rfl) ?_
          refine wl_y (y_pick_false rfl (by conv => lhs; whnf)) ?_
          refine wl_nil ?_
          refine then_normal ?_
          refine wc_cond_dec rfl (fun h5 => ?_) (fun h5 => ?_)
          · exact absurd h5 (by omega)
          · skip
            refine wc_skip ?_
            refine then_normal ?_
            refine wc_seq ?_
            refine wc_seq ?_
            refine wc_region ?_
            refine wl_y (y_move (by conv => lhs; whnf)) ?_
            refine wl_y (y_not rfl) ?_
            refine wl_nil ?_
            refine then_normal ?_
            refine wc_cond rfl (fun h6 => ?_) (fun h6 => ?_)
            · skip
              refine wc_seq ?_
              refine wc_region ?_
              refine wl_callR hm hb18 (awake_calls _) rfl rfl (fun W hm hu => ?_)
              refine wl_y (y_assign (by conv => lhs; whnf)) ?_
              refine wl_nil ?_
              refine then_normal ?_
              refine wc_ret ?_
              refine then_ret ?_
              refine post_ret (results_fr rfl) ?_
              exact ⟨rfl, hm.upd⟩
            · have hmi : (memoryV qs).2.1 = true := by simpa using h6
              obtain ⟨mm, hm1, hm2, hm3, hm4⟩ := hmm4 hmi
              have hf1 : 1 ≤ (formLV qs).length := (formLV_net hokqs).1.1
              refine wc_skip ?_
              refine then_normal ?_
              refine wc_seq ?_
              refine wc_seq ?_
              refine wc_region ?_
              refine wl_y (y_move (by conv => lhs; whnf)) ?_
              refine wl_y (y_lss rfl rfl) ?_
              refine wl_split rfl (fun h7 => ?_) (fun h7 => ?_)
              · exact absurd h7 (by omega)
              · skip
                refine wl_guard_yes rfl ?_
                refine wl_y (y_move (by conv => lhs; whnf)) ?_
                refine wl_guard_yes rfl ?_
                refine wl_y (y_mul64 rfl rfl (by omega)) ?_
                refine wl_guard_yes rfl ?_
                refine wl_y (y_move (by conv => lhs; whnf)) ?_
                refine wl_guard_yes rfl ?_
                refine wl_y (v := .int .i64 ((formLV qs).length : Nat)) (y_lenSl (m := (formLV qs).length) rfl (hm.slAt 1 rfl) Try.underlying22) ?_
                refine wl_guard_yes rfl ?_
                refine wl_y (y_move (by conv => lhs; whnf)) ?_
                refine wl_guard_yes rfl ?_
                refine wl_y (v := .int .i64 ((formLV qs).length : Nat)) (y_lenSl (m := (formLV qs).length) rfl (hm.slAt 1 rfl) Try.underlying22) ?_
                refine wl_guard_yes rfl ?_
                refine wl_y (y_sub64 rfl rfl (by omega)) ?_
                refine wl_guard_yes rfl ?_
                have hprod : ((formLV qs).length : Int) * (((formLV qs).length : Int) - 1) = (((formLV qs).length * ((formLV qs).length - 1) : Nat) : Int) := by rw [Int.natCast_mul, Int.natCast_sub (by omega)]; rfl
                have hsq : (formLV qs).length * ((formLV qs).length - 1) ≤ 5 * 4 := Nat.mul_le_mul (by omega) (by omega)
                refine wl_y (y_mul64 rfl rfl (by rw [hprod]; omega)) ?_
                refine wl_guard_yes rfl ?_
                refine wl_y (y_gtr rfl rfl) ?_
                refine wl_y (y_pick_false rfl (by conv => lhs; whnf)) ?_
                refine wl_nil ?_
                refine then_normal ?_
                refine wc_cond_dec rfl (fun h8 => ?_) (fun h8 => ?_)
                · exact absurd h8 (by rw [hprod]; omega)
                · skip
                  refine wc_skip ?_
                  refine then_normal ?_
                  refine wc_seq ?_
                  refine wc_seq ?_
                  refine wc_region ?_
                  refine wl_y (y_move (by conv => lhs; whnf)) ?_
                  refine wl_y (y_add64 rfl rfl (by omega)) ?_
                  refine wl_y (y_assign (by conv => lhs; whnf)) ?_
                  refine wl_nil ?_
                  refine then_normal ?_
                  refine wc_block ?_
                  refine wc_loop [2, 13, 14, 15, 74, 75, 76, 77, 78, 79, 80, 81, 82, 83, 84, 85, 86, 87, 88, 89, 90] (fun (x : Int) => [(13, .int .i64 x)]) (fun (x : Int) W => Mem w [] [.own 27 2 v17 qs.length (prs qs), .own 27 2 vs20 (formLV qs).length (prs (formLV qs)), .blk b10 27 (pcells (doubtV qs).2.1)] W ∧ (mm : Int) + 2 ≤ x ∧ x ≤ 13) (fun (x : Int) => (14 - x).toNat) (((memoryV qs).1 + 2) : Int) ?_ ?_ ?_
                  · exact ⟨rfl, trivial⟩
                  · exact ⟨hm, by omega, by omega⟩
                  · rintro x u W ⟨hm, hx1, hx2⟩
                    refine wc_seq ?_
                    refine wc_seq ?_
                    refine wc_region ?_
                    refine wl_y (y_move (by conv => lhs; whnf)) ?_
                    refine wl_y (y_leq rfl rfl) ?_
                    refine wl_nil ?_
                    refine then_normal ?_
                    refine wc_cond_dec rfl (fun h9 => ?_) (fun h9 => ?_)
                    · have hfv := forb_in hokqs (m := x) (by omega)
                      refine wc_skip ?_
                      refine then_normal ?_
                      refine wc_seq ?_
                      refine wc_block ?_
                      refine wc_seq ?_
                      refine wc_region ?_
                      refine wl_y (y_move (by conv => lhs; whnf)) ?_
                      refine wl_y (y_move (by conv => lhs; whnf)) ?_
                      refine wl_call hb32 (Forbidden_calls _ _ qs x (hm.slAt 0 rfl)) rfl rfl (fun e W h => ?_)
                      obtain ⟨v81, rfl, hv81⟩ := h
                      refine ⟨_, rfl, ?_⟩
                      have hm := hm.call hv81
                      refine wl_y (y_move (by conv => lhs; whnf)) ?_
                      refine wl_y (y_extract rfl rfl) ?_
                      refine wl_y (y_extract rfl rfl) ?_
                      refine wl_y (y_assign (by conv => lhs; whnf)) ?_
                      refine wl_y (y_assign (by conv => lhs; whnf)) ?_
                      refine wl_nil ?_
                      refine then_normal ?_
                      refine wc_seq ?_
                      refine wc_region ?_
                      refine wl_y (y_move (by conv => lhs; whnf)) ?_
                      refine wl_y (y_neq rfl rfl) ?_
                      refine wl_split rfl (fun h10 => ?_) (fun h10 => ?_)
                      · exact absurd (by rw [hfv]) h10
                      · skip
                        refine wl_guard_yes rfl ?_
                        refine wl_y (y_move (by conv => lhs; whnf)) ?_
                        refine wl_guard_yes rfl ?_
                        refine wl_y (y_lenSl rfl (hm.slAt 3 rfl) Try.underlying47) ?_
                        refine wl_guard_yes rfl ?_
                        refine wl_y (y_neq rfl rfl) ?_
                        refine wl_y (y_pick_false rfl (by conv => lhs; whnf)) ?_
                        refine wl_nil ?_
                        refine then_normal ?_
                        refine wc_cond_dec rfl (fun h11 => ?_) (fun h11 => ?_)
                        · exact absurd (by rw [hfv, hm4 _ (by omega)]; rfl) h11
                        · skip
                          refine wc_skip ?_
                          refine block_normal ?_
                          refine then_normal ?_
                          refine wc_region ?_
                          refine wl_y (y_move (by conv => lhs; whnf)) ?_
                          refine wl_y (y_add64 rfl rfl (by omega)) ?_
                          refine wl_y (y_assign (by conv => lhs; whnf)) ?_
                          refine wl_nil ?_
                          refine next_round (σ := Int) (x + 1) rfl (by repeat first | exact out_hav | refine out_look rfl ?_ | refine out_havIn rfl ?_) ⟨rfl, trivial⟩ ⟨hm.take 3, by omega, by omega⟩ (by (try dsimp only); omega)
                    · skip
                      refine wc_exit ?_
                      refine then_exit ?_
                      refine then_exit ?_
                      refine block_exit ?_
                      refine then_normal ?_
                      refine wc_seq ?_
                      refine wc_region ?_
                      refine wl_callR hm hb18 (awake_calls _) rfl rfl (fun W hm hu => ?_)
                      refine wl_y (y_assign (by conv => lhs; whnf)) ?_
                      refine wl_nil ?_
                      refine then_normal ?_
                      refine wc_ret ?_
                      refine post_ret (results_fr rfl) ?_
                      exact ⟨rfl, hm.upd⟩
end Go.Proofs.Ytofpdjpenmhbnaa
