import Derived.Test.YtofpdjpenmhbnaaProg
import Derived.Test.YtofpdjpenmhbnaaB0
set_option linter.unusedVariables false
set_option linter.unusedSimpArgs false
set_option linter.unusedSectionVars false
namespace Go.Proofs.Ytofpdjpenmhbnaa
open Go Go.Kx
theorem ti3 : TI Try.prog 3 (.int .i64 0) 1 8 := by show _ = _; kernel_rfl
theorem ti27 : TI Try.prog 27 (.agg #[.int .i64 0, .int .i64 0]) 2 16 := by show _ = _; kernel_rfl
theorem ti92 : TI Try.prog 92 (.agg #[.int .i64 0, .int .i64 0, .int .i64 0, .int .i64 0, .int .i64 0, .int .i64 0, .int .i64 0, .int .i64 0, .int .i64 0, .int .i64 0]) 10 80 := by show _ = _; kernel_rfl
theorem mix : Try.prog.follows .mixedOrders = true := by kernel_rfl
def netCells (k : Nat) (nx : List Int) : List Value := .int .i64 k :: ints nx
structure NetAt (W : World) (b k : Nat) (nx : List Int) : Prop where
  at_ : (En.blk b 94 (netCells k nx)).holds W
  len : nx.length = 10
theorem NetAt.step {W W' : World} {b k : Nat} {nx : List Int} (h : NetAt W b k nx) (hu : Upd [] W W') : NetAt W' b k nx := ⟨h.at_.kept (fun b' hb => hu.block b' (h.at_.lt hb) (by simp)), h.len⟩
theorem NetAt.next {W : World} {b k : Nat} {nx : List Int} (h : NetAt W b k nx) {i x : Nat} (hi : i < 5) (hx : x < 2) : W.cell? ⟨b, 0 + 1 + (i : Int).toNat * 2 + (x : Int).toNat * 1, none⟩ = some (.int .i64 (tabN nx i x)) := by
  refine blk_cell h.at_ ?_
  have e : 0 + 1 + (i : Int).toNat * 2 + (x : Int).toNat * 1 = (2 * i + x) + 1 := by simp; omega
  have hl : 2 * i + x < nx.length := by rw [h.len]; omega
  rw [e, netCells, List.getElem?_cons_succ, ints_at hl]
  rfl

set_option maxHeartbeats 4000000 in
theorem step_calls (w : World) (bn k : Nat) (nx : List Int) (set x : Nat) (hn : NetAt w bn k nx) (ho : Okf k (tabN nx)) (hs : set < 32) (hx : x < 2) :
    Cl Try.prog 60 [.pointer (some ⟨bn, 0, none⟩), .int .i64 (set : Int), .int .i64 (x : Int)].toArray w (Ret w (.int .i64 (stepF (tabN nx) set x k : Int))) := by
  have hk := ho.k5
  have hm : Mem w [] [] w := Mem.init w
  refine cl_enter Try.func60 rfl Try.ntmps60 rfl ?_
  refine wc_seq ?_
  refine wc_region ?_
  refine wl_y (y_assign (by conv => lhs; whnf)) ?_
  refine wl_nil ?_
  refine then_normal ?_
  refine wc_seq ?_
  refine wc_region ?_
  refine wl_y (y_assign (by conv => lhs; whnf)) ?_
  refine wl_nil ?_
  refine then_normal ?_
  refine wc_seq ?_
  refine wc_seq ?_
  refine wc_region ?_
  refine wl_y (y_move (by conv => lhs; whnf)) ?_
  refine wl_y (y_nilCheck rfl) ?_
  refine wl_y (y_fieldAddr (off := 0) (ft := 3) rfl Try.underlying94 rfl ti3) ?_
  refine wl_y (y_load (v := .int .i64 (k : Int)) rfl (blk_cell (hn.step hm.upd).at_ rfl) Try.underlying3 rfl) ?_
  refine wl_y (y_move (by conv => lhs; whnf)) ?_
  refine wl_nil ?_
  refine then_normal ?_
  refine wc_block ?_
  refine wc_loop [7, 8, 9, 14, 15, 16, 17, 18, 19, 20, 21, 22, 23, 24, 25, 26, 27, 28, 29, 30, 31, 32, 33, 34, 35, 36, 37, 38, 39, 40] (fun ((i, out) : Nat × Nat) => [(14, .int .i64 (i : Int)), (7, .int .i64 (out : Int))]) (fun ((i, out) : Nat × Nat) W => Mem w [] [] W ∧ i ≤ k ∧ out = stepF (tabN nx) set x i) (fun ((i, out) : Nat × Nat) => k - i) ((0, 0) : Nat × Nat) ?_ ?_ ?_
  · exact ⟨rfl, rfl, trivial⟩
  · exact ⟨hm, Nat.zero_le _, rfl⟩
  · rintro ⟨i, out⟩ u W ⟨hm, hi, rfl⟩
    refine wc_seq ?_
    refine wc_region ?_
    refine wl_y (y_lss rfl rfl) ?_
    refine wl_nil ?_
    refine then_normal ?_
    refine wc_seq ?_
    refine wc_cond_dec rfl (fun h1 => ?_) (fun h1 => ?_)
    · have hik : i < k := by omega
      have h1x := ho.lo i x hik hx
      have h2x := ho.hi i x hik hx
      have hp := two_pow_small h2x hk
      have hst := stepF_lt ho set x hx i hi
      have h32 := pow_le_32 hk
      have hsh : set >>> i ≤ set := Nat.shiftRight_le ..
      have ha := Nat.and_one_is_mod (set >>> i)
      refine wc_skip ?_
      refine then_normal ?_
      refine wc_seq ?_
      refine wc_block ?_
      refine wc_seq ?_
      refine wc_region ?_
      refine wl_y (y_move (by conv => lhs; whnf)) ?_
      refine wl_y (y_assign (by conv => lhs; whnf)) ?_
      refine wl_nil ?_
      refine then_normal ?_
      refine wc_seq ?_
      refine wc_region ?_
      refine wl_y (y_move (by conv => lhs; whnf)) ?_
      refine wl_y (y_move (by conv => lhs; whnf)) ?_
      refine wl_y (y_move (by conv => lhs; whnf)) ?_
      refine wl_y (y_nilCheck rfl) ?_
      refine wl_y (y_fieldAddr (off := 1) (ft := 92) rfl Try.underlying94 rfl ti92) ?_
      refine wl_y (y_indexArr rfl rfl (by omega) Try.underlying92 ti27) ?_
      refine wl_y (y_indexArr rfl rfl (by omega) Try.underlying27 ti3) ?_
      refine wl_y (y_load (v := .int .i64 (tabN nx i x)) rfl ((hn.step hm.upd).next (by omega) (by omega)) Try.underlying3 rfl) ?_
      refine wl_y (y_assign (by conv => lhs; whnf)) ?_
      refine wl_nil ?_
      refine then_normal ?_
      refine wc_seq ?_
      refine wc_region ?_
      refine wl_y (y_move (by conv => lhs; whnf)) ?_
      refine wl_y (y_move (by conv => lhs; whnf)) ?_
      refine wl_y (y_conv rfl Try.underlying3 Try.underlying39 (IntWalk.u64_in _ (by omega))) ?_
      refine wl_y (y_shrN rfl rfl (by omega)) ?_
      refine wl_y (y_and1 rfl rfl (by omega)) ?_
      refine wl_y (y_eql rfl rfl) ?_
      refine wl_split rfl (fun h2 => ?_) (fun h2 => ?_)
      · skip
        refine wl_guard_yes rfl ?_
        refine wl_y (y_move (by conv => lhs; whnf)) ?_
        refine wl_guard_yes rfl ?_
        refine wl_y (y_geq rfl rfl) ?_
        refine wl_y (y_pick_true rfl (by conv => lhs; whnf)) ?_
        refine wl_nil ?_
        refine then_normal ?_
        refine wc_cond_dec rfl (fun h3 => ?_) (fun h3 => ?_)
        · skip
          refine wc_region ?_
          refine wl_y (y_move (by conv => lhs; whnf)) ?_
          refine wl_y (y_move (by conv => lhs; whnf)) ?_
          refine wl_y (y_conv rfl Try.underlying3 Try.underlying39 (IntWalk.u64_in _ (by omega))) ?_
          refine wl_y (y_bitI rfl rfl (by omega)) ?_
          refine wl_y (y_orN rfl rfl (by omega)) ?_
          refine wl_y (y_assign (by conv => lhs; whnf)) ?_
          refine wl_nil ?_
          refine block_normal ?_
          refine then_normal ?_
          refine wc_region ?_
          refine wl_y (y_add64 rfl rfl (by omega)) ?_
          refine wl_y (y_move (by conv => lhs; whnf)) ?_
          refine wl_nil ?_
          refine next_round (σ := Nat × Nat) (i + 1, stepF (tabN nx) set x (i + 1)) rfl (by repeat first | exact out_hav | refine out_look rfl ?_ | refine out_havIn rfl ?_) ⟨rfl, (by first | (rw [stepF_pos (f := tabN nx) (by omega) (by omega)]; rfl) | (rw [stepF_neg (f := tabN nx) (by omega)]; rfl)), trivial⟩ ⟨hm, by omega, rfl⟩ (by (try dsimp only); omega)
        · skip
          refine wc_skip ?_
          refine block_normal ?_
          refine then_normal ?_
          refine wc_region ?_
          refine wl_y (y_add64 rfl rfl (by omega)) ?_
          refine wl_y (y_move (by conv => lhs; whnf)) ?_
          refine wl_nil ?_
          refine next_round (σ := Nat × Nat) (i + 1, stepF (tabN nx) set x (i + 1)) rfl (by repeat first | exact out_hav | refine out_look rfl ?_ | refine out_havIn rfl ?_) ⟨rfl, (by first | (rw [stepF_pos (f := tabN nx) (by omega) (by omega)]; rfl) | (rw [stepF_neg (f := tabN nx) (by omega)]; rfl)), trivial⟩ ⟨hm, by omega, rfl⟩ (by (try dsimp only); omega)
      · skip
        refine wl_guard_no rfl ?_
        refine wl_guard_no rfl ?_
        refine wl_y (y_pick_false rfl (by conv => lhs; whnf)) ?_
        refine wl_nil ?_
        refine then_normal ?_
        refine wc_cond_false rfl ?_
        refine wc_skip ?_
        refine block_normal ?_
        refine then_normal ?_
        refine wc_region ?_
        refine wl_y (y_add64 rfl rfl (by omega)) ?_
        refine wl_y (y_move (by conv => lhs; whnf)) ?_
        refine wl_nil ?_
        refine next_round (σ := Nat × Nat) (i + 1, stepF (tabN nx) set x (i + 1)) rfl (by repeat first | exact out_hav | refine out_look rfl ?_ | refine out_havIn rfl ?_) ⟨rfl, (by first | (rw [stepF_pos (f := tabN nx) (by omega) (by omega)]; rfl) | (rw [stepF_neg (f := tabN nx) (by omega)]; rfl)), trivial⟩ ⟨hm, by omega, rfl⟩ (by (try dsimp only); omega)
    · obtain rfl : i = k := by omega
      refine wc_exit ?_
      refine then_exit ?_
      refine then_exit ?_
      refine block_exit ?_
      refine then_normal ?_
      refine wc_seq ?_
      refine wc_region ?_
      refine wl_y (y_move (by conv => lhs; whnf)) ?_
      refine wl_y (y_assign (by conv => lhs; whnf)) ?_
      refine wl_nil ?_
      refine then_normal ?_
      refine wc_ret ?_
      refine post_ret (results_fr rfl) ?_
      exact ⟨rfl, hm.upd⟩

set_option maxHeartbeats 4000000 in
theorem rstep_calls (w : World) (vl : Value) (ps : List (Int × Int)) (set x : Nat) (hl : SlAt w 2 vl ps.length (prs ps)) (ho : Okf ps.length (tabR ps)) (hs : set < 32) (hx : x < 2) :
    Cl Try.prog 61 [vl, .int .i64 (set : Int), .int .i64 (x : Int)].toArray w (Ret w (.int .i64 (stepF (tabR ps) set x ps.length : Int))) := by
  have hk := ho.k5
  have hm : Mem w [] [] w := Mem.init w
  refine cl_enter Try.func61 rfl Try.ntmps61 rfl ?_
  refine wc_seq ?_
  refine wc_region ?_
  refine wl_y (y_assign (by conv => lhs; whnf)) ?_
  refine wl_nil ?_
  refine then_normal ?_
  refine wc_seq ?_
  refine wc_region ?_
  refine wl_y (y_assign (by conv => lhs; whnf)) ?_
  refine wl_nil ?_
  refine then_normal ?_
  refine wc_seq ?_
  refine wc_seq ?_
  refine wc_region ?_
  refine wl_y (y_assign (by conv => lhs; whnf)) ?_
  refine wl_nil ?_
  refine then_normal ?_
  refine wc_block ?_
  refine wc_loop [7, 8, 9, 10, 11, 12, 13, 14, 15, 16, 17, 18, 19, 20, 21, 22, 23, 24, 25, 26, 27, 28, 29, 30, 31, 32, 33, 34, 35, 36, 37] (fun ((i, out) : Nat × Nat) => [(8, .int .i64 (i : Int)), (7, .int .i64 (out : Int))]) (fun ((i, out) : Nat × Nat) W => Mem w [] [] W ∧ i ≤ ps.length ∧ out = stepF (tabR ps) set x i) (fun ((i, out) : Nat × Nat) => ps.length - i) ((0, 0) : Nat × Nat) ?_ ?_ ?_
  · exact ⟨rfl, rfl, trivial⟩
  · exact ⟨hm, Nat.zero_le _, rfl⟩
  · rintro ⟨i, out⟩ u W ⟨hm, hi, rfl⟩
    refine wc_seq ?_
    refine wc_seq ?_
    refine wc_region ?_
    refine wl_y (y_move (by conv => lhs; whnf)) ?_
    refine wl_y (y_move (by conv => lhs; whnf)) ?_
    refine wl_y (y_lenSl (by conv => lhs; whnf) (hl.step hm.upd) Try.underlying22) ?_
    refine wl_y (y_lss rfl rfl) ?_
    refine wl_nil ?_
    refine then_normal ?_
    refine wc_cond_dec rfl (fun h1 => ?_) (fun h1 => ?_)
    · have hik : i < ps.length := by omega
      have h1x : -1 ≤ tabR ps i x := ho.lo i x hik hx
      have h2x : tabR ps i x < ps.length := ho.hi i x hik hx
      have hp := two_pow_small h2x hk
      have hst := stepF_lt ho set x hx i hi
      have h32 := pow_le_32 hk
      have hsh : set >>> i ≤ set := Nat.shiftRight_le ..
      refine wc_skip ?_
      refine then_normal ?_
      refine wc_seq ?_
      refine wc_block ?_
      refine wc_seq ?_
      refine wc_region ?_
      refine wl_y (y_move (by conv => lhs; whnf)) ?_
      refine wl_y (y_move (by conv => lhs; whnf)) ?_
      refine wl_y (y_shrN rfl rfl (by omega)) ?_
      refine wl_y ((by first | exact y_rem2 rfl rfl | exact y_rem rfl rfl (by omega))) ?_
      refine wl_y (y_eql rfl rfl) ?_
      refine wl_split rfl (fun h2 => ?_) (fun h2 => ?_)
      · skip
        refine wl_guard_yes rfl ?_
        refine wl_y (y_move (by conv => lhs; whnf)) ?_
        refine wl_guard_yes rfl ?_
        refine wl_y (y_move (by conv => lhs; whnf)) ?_
        refine wl_guard_yes rfl ?_
        refine wl_y (y_move (by conv => lhs; whnf)) ?_
        refine wl_guard_yes rfl ?_
        refine wl_y (y_indexAddr (by conv => lhs; whnf) rfl (hl.step hm.upd) (by omega) Try.underlying22 ti27 (by decide)) ?_
        refine wl_guard_yes rfl ?_
        refine wl_y (y_indexArrSl rfl rfl (hl.step hm.upd) (by simp; omega) (by omega) Try.underlying27 ti3) ?_
        refine wl_guard_yes rfl ?_
        refine wl_y (y_loadSl rfl (hl.step hm.upd) (tabR_at (by omega) (by omega)) Try.underlying3 rfl) ?_
        refine wl_guard_yes rfl ?_
        refine wl_y (y_geq rfl rfl) ?_
        refine wl_y (y_pick_true rfl (by conv => lhs; whnf)) ?_
        refine wl_nil ?_
        refine then_normal ?_
        refine wc_cond_dec rfl (fun h3 => ?_) (fun h3 => ?_)
        · skip
          refine wc_region ?_
          refine wl_y (y_move (by conv => lhs; whnf)) ?_
          refine wl_y (y_move (by conv => lhs; whnf)) ?_
          refine wl_y (y_move (by conv => lhs; whnf)) ?_
          refine wl_y (y_move (by conv => lhs; whnf)) ?_
          refine wl_y (y_indexAddr (by conv => lhs; whnf) rfl (hl.step hm.upd) (by omega) Try.underlying22 ti27 (by decide)) ?_
          refine wl_y (y_indexArrSl rfl rfl (hl.step hm.upd) (by simp; omega) (by omega) Try.underlying27 ti3) ?_
          refine wl_y (y_loadSl rfl (hl.step hm.upd) (tabR_at (by omega) (by omega)) Try.underlying3 rfl) ?_
          refine wl_y (y_bitI rfl rfl (by omega)) ?_
          refine wl_y (y_orN rfl rfl (by omega)) ?_
          refine wl_y (y_assign (by conv => lhs; whnf)) ?_
          refine wl_nil ?_
          refine block_normal ?_
          refine then_normal ?_
          refine wc_region ?_
          refine wl_y (y_move (by conv => lhs; whnf)) ?_
          refine wl_y (y_add64 rfl rfl (by omega)) ?_
          refine wl_y (y_assign (by conv => lhs; whnf)) ?_
          refine wl_nil ?_
          refine next_round (σ := Nat × Nat) (i + 1, stepF (tabR ps) set x (i + 1)) rfl (by repeat first | exact out_hav | refine out_look rfl ?_ | refine out_havIn rfl ?_) ⟨rfl, (by first | (rw [stepF_pos (f := tabR ps) (by omega) (by omega)]; rfl) | (rw [stepF_neg (f := tabR ps) (by omega)]; rfl)), trivial⟩ ⟨hm, by omega, rfl⟩ (by (try dsimp only); omega)
        · skip
          refine wc_skip ?_
          refine block_normal ?_
          refine then_normal ?_
          refine wc_region ?_
          refine wl_y (y_move (by conv => lhs; whnf)) ?_
          refine wl_y (y_add64 rfl rfl (by omega)) ?_
          refine wl_y (y_assign (by conv => lhs; whnf)) ?_
          refine wl_nil ?_
          refine next_round (σ := Nat × Nat) (i + 1, stepF (tabR ps) set x (i + 1)) rfl (by repeat first | exact out_hav | refine out_look rfl ?_ | refine out_havIn rfl ?_) ⟨rfl, (by first | (rw [stepF_pos (f := tabR ps) (by omega) (by omega)]; rfl) | (rw [stepF_neg (f := tabR ps) (by omega)]; rfl)), trivial⟩ ⟨hm, by omega, rfl⟩ (by (try dsimp only); omega)
      · skip
        refine wl_guard_no rfl ?_
        refine wl_guard_no rfl ?_
        refine wl_guard_no rfl ?_
        refine wl_guard_no rfl ?_
        refine wl_guard_no rfl ?_
        refine wl_guard_no rfl ?_
        refine wl_guard_no rfl ?_
        refine wl_y (y_pick_false rfl (by conv => lhs; whnf)) ?_
        refine wl_nil ?_
        refine then_normal ?_
        refine wc_cond_false rfl ?_
        refine wc_skip ?_
        refine block_normal ?_
        refine then_normal ?_
        refine wc_region ?_
        refine wl_y (y_move (by conv => lhs; whnf)) ?_
        refine wl_y (y_add64 rfl rfl (by omega)) ?_
        refine wl_y (y_assign (by conv => lhs; whnf)) ?_
        refine wl_nil ?_
        refine next_round (σ := Nat × Nat) (i + 1, stepF (tabR ps) set x (i + 1)) rfl (by repeat first | exact out_hav | refine out_look rfl ?_ | refine out_havIn rfl ?_) ⟨rfl, (by first | (rw [stepF_pos (f := tabR ps) (by omega) (by omega)]; rfl) | (rw [stepF_neg (f := tabR ps) (by omega)]; rfl)), trivial⟩ ⟨hm, by omega, rfl⟩ (by (try dsimp only); omega)
    · obtain rfl : i = ps.length := by omega
      refine wc_exit ?_
      refine then_exit ?_
      refine then_exit ?_
      refine block_exit ?_
      refine then_normal ?_
      refine wc_seq ?_
      refine wc_region ?_
      refine wl_y (y_move (by conv => lhs; whnf)) ?_
      refine wl_y (y_assign (by conv => lhs; whnf)) ?_
      refine wl_nil ?_
      refine then_normal ?_
      refine wc_ret ?_
      refine post_ret (results_fr rfl) ?_
      exact ⟨rfl, hm.upd⟩
end Go.Proofs.Ytofpdjpenmhbnaa
namespace Go.Proofs.Ytofpdjpenmhbnaa
open Go Go.Kx
theorem hb42 : HasBody Try.prog 42 := hasBody Try.func42 (by kernel_rfl) (by kernel_rfl)
theorem hb58 : HasBody Try.prog 58 := hasBody Try.func58 (by kernel_rfl) (by kernel_rfl)
theorem hb60 : HasBody Try.prog 60 := hasBody Try.func60 (by kernel_rfl) (by kernel_rfl)
theorem hb61 : HasBody Try.prog 61 := hasBody Try.func61 (by kernel_rfl) (by kernel_rfl)
set_option maxHeartbeats 4000000 in
theorem all_calls (w : World) (bn k : Nat) (nx : List Int) (hn : NetAt w bn k nx) (h5 : k ≤ 5) :
    Cl Try.prog 58 [.pointer (some ⟨bn, 0, none⟩)].toArray w (Ret w (.int .i64 ((2 ^ k - 1 : Nat) : Int))) := by
  have h32 := pow_le_32 h5
  have hp := Nat.two_pow_pos k
  have hm : Mem w [] [] w := Mem.init w
  refine cl_enter Try.func58 rfl Try.ntmps58 rfl ?_
  refine wc_seq ?_
  refine wc_region ?_
  refine wl_y (y_assign (by conv => lhs; whnf)) ?_
  refine wl_nil ?_
  refine then_normal ?_
  refine wc_seq ?_
  refine wc_region ?_
  refine wl_y (y_move (by conv => lhs; whnf)) ?_
  refine wl_y (y_nilCheck rfl) ?_
  refine wl_y (y_fieldAddr (off := 0) (ft := 3) rfl Try.underlying94 rfl ti3) ?_
  refine wl_y (y_load rfl (blk_cell (hn.step hm.upd).at_ rfl) Try.underlying3 rfl) ?_
  refine wl_y (y_conv rfl Try.underlying3 Try.underlying39 (IntWalk.u64_in _ (by omega))) ?_
  refine wl_y (y_bitN rfl rfl (by omega)) ?_
  refine wl_y (y_sub1N rfl rfl (by omega)) ?_
  refine wl_y (y_assign (by conv => lhs; whnf)) ?_
  refine wl_nil ?_
  refine then_normal ?_
  refine wc_ret ?_
  refine post_ret (results_fr rfl) ?_
  exact ⟨rfl, hm.upd⟩

set_option maxHeartbeats 4000000 in
theorem From_calls (w : World) (vl : Value) (ps : List (Int × Int)) (set : Nat) (s : ByteArray) (hl : SlAt w 2 vl ps.length (prs ps)) (ho : Okf ps.length (tabR ps)) (hs : set < 2 ^ ps.length) (hle : Lets s) (hsz : s.size ≤ 140737488355232) :
    Cl Try.prog 42 [vl, .int .i64 (set : Int), .string s].toArray w (Ret w (.int .i64 (fromTo (tabR ps) ps.length set s s.size : Int))) := by
  have hk := ho.k5
  have h32 := pow_le_32 hk
  have hm : Mem w [] [] w := Mem.init w
  refine cl_enter Try.func42 rfl Try.ntmps42 rfl ?_
  refine wc_seq ?_
  refine wc_region ?_
  refine wl_y (y_assign (by conv => lhs; whnf)) ?_
  refine wl_nil ?_
  refine then_normal ?_
  refine wc_seq ?_
  refine wc_seq ?_
  refine wc_region ?_
  refine wl_y (y_assign (by conv => lhs; whnf)) ?_
  refine wl_nil ?_
  refine then_normal ?_
  refine wc_block ?_
  refine wc_loop [1, 7, 8, 9, 10, 11, 12, 13, 14, 15, 16, 17, 18, 19, 20, 21] (fun (i : Nat) => [(7, .int .i64 (i : Int)), (1, .int .i64 (fromTo (tabR ps) ps.length set s i : Int))]) (fun (i : Nat) W => Mem w [] [] W ∧ i ≤ s.size) (fun (i : Nat) => s.size - i) ((0) : Nat) ?_ ?_ ?_
  · exact ⟨rfl, rfl, trivial⟩
  · exact ⟨hm, Nat.zero_le _⟩
  · rintro i u W ⟨hm, hi⟩
    refine wc_seq ?_
    refine wc_seq ?_
    refine wc_region ?_
    refine wl_y (y_move (by conv => lhs; whnf)) ?_
    refine wl_y (y_move (by conv => lhs; whnf)) ?_
    refine wl_y (y_lenStr (by conv => lhs; whnf) Try.underlying9) ?_
    refine wl_y (y_lss rfl rfl) ?_
    refine wl_nil ?_
    refine then_normal ?_
    refine wc_cond_dec rfl (fun h1 => ?_) (fun h1 => ?_)
    · have hik : i < s.size := by omega
      have hb := hle i hik
      have hlt := fromTo_lt ho hs hle i hi
      refine wc_skip ?_
      refine then_normal ?_
      refine wc_seq ?_
      refine wc_block ?_
      refine wc_region ?_
      refine wl_y (y_move (by conv => lhs; whnf)) ?_
      refine wl_y (y_move (by conv => lhs; whnf)) ?_
      refine wl_y (y_move (by conv => lhs; whnf)) ?_
      refine wl_y (y_move (by conv => lhs; whnf)) ?_
      refine wl_y (y_indexStr (by conv => lhs; whnf) rfl (by omega) Try.underlying9) ?_
      refine wl_y (y_sub97 rfl rfl (by omega)) ?_
      refine wl_y (y_conv rfl Try.underlying5 Try.underlying3 (IntWalk.i64_in _ (by omega))) ?_
      refine wl_callR hm hb61 (rstep_calls _ _ _ _ _ (hl.step hm.upd) ho (by omega) (by omega)) rfl rfl (fun W hm hu => ?_)
      refine wl_y (y_assign (by conv => lhs; whnf)) ?_
      refine wl_nil ?_
      refine block_normal ?_
      refine then_normal ?_
      refine wc_region ?_
      refine wl_y (y_move (by conv => lhs; whnf)) ?_
      refine wl_y (y_add64 rfl rfl (by omega)) ?_
      refine wl_y (y_assign (by conv => lhs; whnf)) ?_
      refine wl_nil ?_
      refine next_round (σ := Nat) (i + 1) rfl (by repeat first | exact out_hav | refine out_look rfl ?_ | refine out_havIn rfl ?_) ⟨rfl, rfl, trivial⟩ ⟨hm, by omega⟩ (by (try dsimp only); omega)
    · obtain rfl : i = s.size := by omega
      refine wc_exit ?_
      refine then_exit ?_
      refine then_exit ?_
      refine block_exit ?_
      refine then_normal ?_
      refine wc_seq ?_
      refine wc_region ?_
      refine wl_y (y_move (by conv => lhs; whnf)) ?_
      refine wl_y (y_assign (by conv => lhs; whnf)) ?_
      refine wl_nil ?_
      refine then_normal ?_
      refine wc_ret ?_
      refine post_ret (results_fr rfl) ?_
      exact ⟨rfl, hm.upd⟩

set_option maxHeartbeats 4000000 in
theorem rEnds_calls (w : World) (vl : Value) (ps : List (Int × Int)) (s : ByteArray) (hl : SlAt w 2 vl ps.length (prs ps)) (ho : Okf ps.length (tabR ps)) (hle : Lets s) (hsz : s.size ≤ 140737488355232) :
    Cl Try.prog 29 [vl, .string s].toArray w (Ret w (.int .i64 (fromTo (tabR ps) ps.length (2 ^ ps.length - 1) s s.size : Int))) := by
  have hk := ho.k5
  have h32 := pow_le_32 hk
  have hp := Nat.two_pow_pos ps.length
  have hm : Mem w [] [] w := Mem.init w
  refine cl_enter Try.func29 rfl Try.ntmps29 rfl ?_
  refine wc_seq ?_
  refine wc_region ?_
  refine wl_y (y_assign (by conv => lhs; whnf)) ?_
  refine wl_nil ?_
  refine then_normal ?_
  refine wc_seq ?_
  refine wc_region ?_
  refine wl_y (y_move (by conv => lhs; whnf)) ?_
  refine wl_y (y_move (by conv => lhs; whnf)) ?_
  refine wl_y (y_lenSl (by conv => lhs; whnf) (hl.step hm.upd) Try.underlying22) ?_
  refine wl_y (y_bitN rfl rfl (by omega)) ?_
  refine wl_y (y_sub1N rfl rfl (by omega)) ?_
  refine wl_y (y_move (by conv => lhs; whnf)) ?_
  refine wl_callR hm hb42 (From_calls _ _ _ _ _ (hl.step hm.upd) ho (by omega) hle hsz) rfl rfl (fun W hm hu => ?_)
  refine wl_y (y_assign (by conv => lhs; whnf)) ?_
  refine wl_nil ?_
  refine then_normal ?_
  refine wc_ret ?_
  refine post_ret (results_fr rfl) ?_
  exact ⟨rfl, hm.upd⟩

set_option maxHeartbeats 4000000 in
theorem hangs_calls (w : World) (bn k : Nat) (nx : List Int) (hn : NetAt w bn k nx) (ho : Okf k (tabN nx)) :
    Cl Try.prog 55 [.pointer (some ⟨bn, 0, none⟩)].toArray w (Ret w (.bool (hangsF (tabN nx) k))) := by
  have hk := ho.k5
  have h32 := pow_le_32 hk
  have hp := Nat.two_pow_pos k
  have hm : Mem w [] [] w := Mem.init w
  refine cl_enter Try.func55 rfl Try.ntmps55 rfl ?_
  refine wc_seq ?_
  refine wc_region ?_
  refine wl_y (y_assign (by conv => lhs; whnf)) ?_
  refine wl_nil ?_
  refine then_normal ?_
  refine wc_seq ?_
  refine wc_seq ?_
  refine wc_region ?_
  refine wl_y (y_move (by conv => lhs; whnf)) ?_
  refine wl_y (y_nilCheck rfl) ?_
  refine wl_y (y_fieldAddr (off := 0) (ft := 3) rfl Try.underlying94 rfl ti3) ?_
  refine wl_y (y_load rfl (blk_cell (hn.step hm.upd).at_ rfl) Try.underlying3 rfl) ?_
  refine wl_y (y_move (by conv => lhs; whnf)) ?_
  refine wl_nil ?_
  refine then_normal ?_
  refine wc_block ?_
  refine wc_loop [2, 3, 4, 9, 10, 11, 12, 13, 14, 15, 16, 17, 18, 19, 20, 21, 22, 23, 24, 25, 26, 27, 28, 29, 30, 31, 32, 33, 34, 35, 36, 37, 38, 39, 40, 41, 42, 43] (fun (v : Nat) => [(9, .int .i64 (v : Int))]) (fun (v : Nat) W => Mem w [] [] W ∧ v ≤ k ∧ hangsTo (tabN nx) k v = true) (fun (v : Nat) => k - v) ((0) : Nat) ?_ ?_ ?_
  · exact ⟨rfl, trivial⟩
  · exact ⟨hm, Nat.zero_le _, rfl⟩
  · rintro v u W ⟨hm, hv, hh⟩
    refine wc_seq ?_
    refine wc_region ?_
    refine wl_y (y_lss rfl rfl) ?_
    refine wl_nil ?_
    refine then_normal ?_
    refine wc_seq ?_
    refine wc_cond_dec rfl (fun h1 => ?_) (fun h1 => ?_)
    · have hv5 : v < k := by omega
      have h1s := one_shl_lt hv5 hk
      have hq0 := stepF_lt ho (2 ^ v) 0 (by decide) k (Nat.le_refl _)
      have hq1 := stepF_lt ho (2 ^ v) 1 (by decide) k (Nat.le_refl _)
      refine wc_skip ?_
      refine then_normal ?_
      refine wc_seq ?_
      refine wc_block ?_
      refine wc_seq ?_
      refine wc_region ?_
      refine wl_y (y_move (by conv => lhs; whnf)) ?_
      refine wl_y (y_assign (by conv => lhs; whnf)) ?_
      refine wl_nil ?_
      refine then_normal ?_
      refine wc_seq ?_
      refine wc_region ?_
      refine wl_y (y_move (by conv => lhs; whnf)) ?_
      refine wl_y (y_move (by conv => lhs; whnf)) ?_
      refine wl_y (y_conv rfl Try.underlying3 Try.underlying39 (IntWalk.u64_in _ (by omega))) ?_
      refine wl_y (y_bitN rfl rfl (by omega)) ?_
      refine wl_callR hm hb60 (step_calls _ _ _ _ _ 0 (hn.step hm.upd) ho (by omega) (by decide)) rfl rfl (fun W hm hu => ?_)
      refine wl_y (y_move (by conv => lhs; whnf)) ?_
      refine wl_y (y_move (by conv => lhs; whnf)) ?_
      refine wl_y (y_conv rfl Try.underlying3 Try.underlying39 (IntWalk.u64_in _ (by omega))) ?_
      refine wl_y (y_bitN rfl rfl (by omega)) ?_
      refine wl_callR hm hb60 (step_calls _ _ _ _ _ 1 (hn.step hm.upd) ho (by omega) (by decide)) rfl rfl (fun W hm hu => ?_)
      refine wl_y (y_orN rfl rfl (by omega)) ?_
      refine wl_y (y_assign (by conv => lhs; whnf)) ?_
      refine wl_nil ?_
      refine then_normal ?_
      refine wc_seq ?_
      refine wc_seq ?_
      refine wc_region ?_
      refine wl_y (y_move (by conv => lhs; whnf)) ?_
      refine wl_y (y_nilCheck rfl) ?_
      refine wl_y (y_fieldAddr (off := 0) (ft := 3) rfl Try.underlying94 rfl ti3) ?_
      refine wl_y (y_load rfl (blk_cell (hn.step hm.upd).at_ rfl) Try.underlying3 rfl) ?_
      refine wl_y (y_move (by conv => lhs; whnf)) ?_
      refine wl_nil ?_
      refine then_normal ?_
      refine wc_block ?_
      refine wc_loop [4, 27, 28, 29, 30, 31, 32, 33, 34, 35, 36, 37, 38] (fun (r : Nat) => [(27, .int .i64 (r : Int)), (4, .int .i64 (reachF (tabN nx) k v r : Int))]) (fun (r : Nat) W => Mem w [] [] W ∧ r ≤ k) (fun (r : Nat) => k - r) ((0) : Nat) ?_ ?_ ?_
      · exact ⟨rfl, rfl, trivial⟩
      · exact ⟨hm, Nat.zero_le _⟩
      · rintro r u W ⟨hm, hrl⟩
        refine wc_seq ?_
        refine wc_region ?_
        refine wl_y (y_lss rfl rfl) ?_
        refine wl_nil ?_
        refine then_normal ?_
        refine wc_seq ?_
        refine wc_cond_dec rfl (fun h2 => ?_) (fun h2 => ?_)
        · have hr := reachF_lt ho v r
          have hq2 := stepF_lt ho (reachF (tabN nx) k v r) 0 (by decide) k (Nat.le_refl _)
          have hq3 := stepF_lt ho (reachF (tabN nx) k v r) 1 (by decide) k (Nat.le_refl _)
          have hq4 : stepF (tabN nx) (reachF (tabN nx) k v r) 0 k ||| stepF (tabN nx) (reachF (tabN nx) k v r) 1 k < 2 ^ k := Nat.or_lt_two_pow hq2 hq3
          refine wc_skip ?_
          refine then_normal ?_
          refine wc_seq ?_
          refine wc_block ?_
          refine wc_region ?_
          refine wl_y (y_move (by conv => lhs; whnf)) ?_
          refine wl_y (y_move (by conv => lhs; whnf)) ?_
          refine wl_y (y_move (by conv => lhs; whnf)) ?_
          refine wl_callR hm hb60 (step_calls _ _ _ _ _ 0 (hn.step hm.upd) ho (by omega) (by decide)) rfl rfl (fun W hm hu => ?_)
          refine wl_y (y_move (by conv => lhs; whnf)) ?_
          refine wl_y (y_move (by conv => lhs; whnf)) ?_
          refine wl_callR hm hb60 (step_calls _ _ _ _ _ 1 (hn.step hm.upd) ho (by omega) (by decide)) rfl rfl (fun W hm hu => ?_)
          refine wl_y (y_orN rfl rfl (by omega)) ?_
          refine wl_y (y_orN rfl rfl (by omega)) ?_
          refine wl_y (y_assign (by conv => lhs; whnf)) ?_
          refine wl_nil ?_
          refine block_normal ?_
          refine then_normal ?_
          refine wc_region ?_
          refine wl_y (y_add64 rfl rfl (by omega)) ?_
          refine wl_y (y_move (by conv => lhs; whnf)) ?_
          refine wl_nil ?_
          refine next_round (σ := Nat) (r + 1) rfl (by repeat first | exact out_hav | refine out_look rfl ?_ | refine out_havIn rfl ?_) ⟨rfl, (by simp only [reachF, Nat.or_assoc]; rfl), trivial⟩ ⟨hm, by omega⟩ (by (try dsimp only); omega)
        · obtain rfl : r = k := by omega
          have hr := reachF_lt ho v r
          refine wc_exit ?_
          refine then_exit ?_
          refine then_exit ?_
          refine block_exit ?_
          refine then_normal ?_
          refine wc_seq ?_
          refine wc_region ?_
          refine wl_y (y_move (by conv => lhs; whnf)) ?_
          refine wl_y (y_move (by conv => lhs; whnf)) ?_
          refine wl_callR hm hb58 (all_calls _ _ _ _ (hn.step hm.upd) ho.k5) rfl rfl (fun W hm hu => ?_)
          refine wl_y (y_neq rfl rfl) ?_
          refine wl_nil ?_
          refine then_normal ?_
          refine wc_cond_dec rfl (fun h3 => ?_) (fun h3 => ?_)
          · have hno := hangs_no (f := tabN nx) hv5 (by omega)
            refine wc_seq ?_
            refine wc_region ?_
            refine wl_y (y_assign (by conv => lhs; whnf)) ?_
            refine wl_nil ?_
            refine then_normal ?_
            refine wc_ret ?_
            refine block_ret ?_
            refine then_ret ?_
            refine then_ret ?_
            refine block_ret ?_
            refine then_ret ?_
            refine post_ret (results_fr rfl) ?_
            refine ⟨?_, hm.upd⟩
            rw [hno]; rfl
          · have hyes := hangs_step (f := tabN nx) hh (by omega)
            refine wc_skip ?_
            refine block_normal ?_
            refine then_normal ?_
            refine wc_region ?_
            refine wl_y (y_add64 rfl rfl (by omega)) ?_
            refine wl_y (y_move (by conv => lhs; whnf)) ?_
            refine wl_nil ?_
            refine next_round (σ := Nat) (v + 1) rfl (by repeat first | exact out_hav | refine out_look rfl ?_ | refine out_havIn rfl ?_) ⟨rfl, trivial⟩ ⟨hm, by omega, hyes⟩ (by (try dsimp only); omega)
    · obtain rfl : v = k := by omega
      refine wc_exit ?_
      refine then_exit ?_
      refine then_exit ?_
      refine block_exit ?_
      refine then_normal ?_
      refine wc_seq ?_
      refine wc_region ?_
      refine wl_y (y_assign (by conv => lhs; whnf)) ?_
      refine wl_nil ?_
      refine then_normal ?_
      refine wc_ret ?_
      refine post_ret (results_fr rfl) ?_
      refine ⟨?_, hm.upd⟩
      show _ = Ending.returned (.bool (hangsTo (tabN nx) v v))
      rw [hh]; rfl
end Go.Proofs.Ytofpdjpenmhbnaa
namespace Go.Proofs.Ytofpdjpenmhbnaa
open Go Go.Kx
theorem hb93 : HasBody Try.prog 93 := hasBody Try.func93 (by kernel_rfl) (by kernel_rfl)
theorem hb99 : HasBody Try.prog 99 := hasBody Try.func99 (by kernel_rfl) (by kernel_rfl)
theorem hb100 : HasBody Try.prog 100 := hasBody Try.func100 (by kernel_rfl) (by kernel_rfl)
theorem hb101 : HasBody Try.prog 101 := hasBody Try.func101 (by kernel_rfl) (by kernel_rfl)
theorem hb104 : HasBody Try.prog 104 := hasBody Try.func104 (by kernel_rfl) (by kernel_rfl)
theorem ext105 (s : ByteArray) (c : Int) : Ext Try.prog 105 #[.string s, .int .u8 c] (.int .i64 (Lib.indexByte s.data.toList c.toNat.toUInt8)) :=
  ext_indexByte (fn := Try.f105) Try.func105 (by kernel_rfl) (by kernel_rfl) (by rfl) (by rfl) s c

set_option maxHeartbeats 4000000 in
theorem indexByte_calls (w : World) (s : ByteArray) (c : Int) :
    Cl Try.prog 104 [.string s, .int .u8 c].toArray w (Ret w (.int .i64 (Lib.indexByte s.data.toList c.toNat.toUInt8))) := by
  have hm : Mem w [] [] w := Mem.init w
  refine cl_enter Try.func104 rfl Try.ntmps104 rfl ?_
  refine wc_seq ?_
  refine wc_region ?_
  refine wl_y (y_assign (by conv => lhs; whnf)) ?_
  refine wl_nil ?_
  refine then_normal ?_
  refine wc_seq ?_
  refine wc_region ?_
  refine wl_y (y_move (by conv => lhs; whnf)) ?_
  refine wl_y (y_move (by conv => lhs; whnf)) ?_
  refine wl_y (y_ext rfl rfl (ext105 _ _)) ?_
  refine wl_y (y_assign (by conv => lhs; whnf)) ?_
  refine wl_nil ?_
  refine then_normal ?_
  refine wc_ret ?_
  refine post_ret (results_fr rfl) ?_
  exact ⟨rfl, hm.upd⟩

set_option maxHeartbeats 4000000 in
theorem IndexByte_calls (w : World) (s : ByteArray) (c : Int) :
    Cl Try.prog 100 [.string s, .int .u8 c].toArray w (Ret w (.int .i64 (Lib.indexByte s.data.toList c.toNat.toUInt8))) := by
  have hm : Mem w [] [] w := Mem.init w
  refine cl_enter Try.func100 rfl Try.ntmps100 rfl ?_
  refine wc_seq ?_
  refine wc_region ?_
  refine wl_y (y_assign (by conv => lhs; whnf)) ?_
  refine wl_nil ?_
  refine then_normal ?_
  refine wc_seq ?_
  refine wc_region ?_
  refine wl_y (y_move (by conv => lhs; whnf)) ?_
  refine wl_y (y_move (by conv => lhs; whnf)) ?_
  refine wl_callR hm hb104 (indexByte_calls _ _ _) rfl rfl (fun W hm hu => ?_)
  refine wl_y (y_assign (by conv => lhs; whnf)) ?_
  refine wl_nil ?_
  refine then_normal ?_
  refine wc_ret ?_
  refine post_ret (results_fr rfl) ?_
  exact ⟨rfl, hm.upd⟩

set_option maxHeartbeats 4000000 in
theorem ValidRune_calls (w : World) (r : Int) : Cl Try.prog 101 [.int .i32 r].toArray w (Ret w (.bool (Go.validRune r))) := by
  have hm : Mem w [] [] w := Mem.init w
  refine cl_enter Try.func101 rfl Try.ntmps101 rfl ?_
  refine wc_seq ?_
  refine wc_region ?_
  refine wl_y (y_assign (by conv => lhs; whnf)) ?_
  refine wl_nil ?_
  refine then_normal ?_
  refine wc_seq ?_
  refine wc_block ?_
  refine wc_seq ?_
  refine wc_region ?_
  refine wl_y (y_move (by conv => lhs; whnf)) ?_
  refine wl_y (y_leq rfl rfl) ?_
  refine wl_split rfl (fun h1 => ?_) (fun h1 => ?_)
  · skip
    refine wl_guard_yes rfl ?_
    refine wl_y (y_move (by conv => lhs; whnf)) ?_
    refine wl_guard_yes rfl ?_
    refine wl_y (y_lss rfl rfl) ?_
    refine wl_y (y_pick_true rfl (by conv => lhs; whnf)) ?_
    refine wl_y (y_assign (by conv => lhs; whnf)) ?_
    refine wl_nil ?_
    refine then_normal ?_
    refine wc_cond_dec rfl (fun h2 => ?_) (fun h2 => ?_)
    · skip
      refine wc_seq ?_
      refine wc_region ?_
      refine wl_y (y_assign (by conv => lhs; whnf)) ?_
      refine wl_nil ?_
      refine then_normal ?_
      refine wc_ret ?_
      refine block_ret ?_
      refine then_ret ?_
      refine post_ret (results_fr rfl) ?_
      refine ⟨congrArg (fun b => Ending.returned (.bool b)) ?_, hm.upd⟩
      show _ = decide _
      first | exact (decide_eq_true (by omega)).symm | exact (decide_eq_false (by omega)).symm
    · skip
      refine wc_seq ?_
      refine wc_region ?_
      refine wl_y (y_move (by conv => lhs; whnf)) ?_
      refine wl_y (y_lss rfl rfl) ?_
      refine wl_split rfl (fun h3 => ?_) (fun h3 => ?_)
      · skip
        refine wl_guard_yes rfl ?_
        refine wl_y (y_move (by conv => lhs; whnf)) ?_
        refine wl_guard_yes rfl ?_
        refine wl_y (y_leq rfl rfl) ?_
        refine wl_y (y_pick_true rfl (by conv => lhs; whnf)) ?_
        refine wl_y (y_assign (by conv => lhs; whnf)) ?_
        refine wl_nil ?_
        refine then_normal ?_
        refine wc_cond_dec rfl (fun h4 => ?_) (fun h4 => ?_)
        · skip
          refine wc_seq ?_
          refine wc_region ?_
          refine wl_y (y_assign (by conv => lhs; whnf)) ?_
          refine wl_nil ?_
          refine then_normal ?_
          refine wc_ret ?_
          refine block_ret ?_
          refine then_ret ?_
          refine post_ret (results_fr rfl) ?_
          refine ⟨congrArg (fun b => Ending.returned (.bool b)) ?_, hm.upd⟩
          show _ = decide _
          first | exact (decide_eq_true (by omega)).symm | exact (decide_eq_false (by omega)).symm
        · skip
          refine wc_skip ?_
          refine block_normal ?_
          refine then_normal ?_
          refine wc_seq ?_
          refine wc_region ?_
          refine wl_y (y_assign (by conv => lhs; whnf)) ?_
          refine wl_nil ?_
          refine then_normal ?_
          refine wc_ret ?_
          refine post_ret (results_fr rfl) ?_
          refine ⟨congrArg (fun b => Ending.returned (.bool b)) ?_, hm.upd⟩
          show _ = decide _
          first | exact (decide_eq_true (by omega)).symm | exact (decide_eq_false (by omega)).symm
      · skip
        refine wl_guard_no rfl ?_
        refine wl_guard_no rfl ?_
        refine wl_y (y_pick_false rfl (by conv => lhs; whnf)) ?_
        refine wl_y (y_assign (by conv => lhs; whnf)) ?_
        refine wl_nil ?_
        refine then_normal ?_
        refine wc_cond_false rfl ?_
        refine wc_skip ?_
        refine block_normal ?_
        refine then_normal ?_
        refine wc_seq ?_
        refine wc_region ?_
        refine wl_y (y_assign (by conv => lhs; whnf)) ?_
        refine wl_nil ?_
        refine then_normal ?_
        refine wc_ret ?_
        refine post_ret (results_fr rfl) ?_
        refine ⟨congrArg (fun b => Ending.returned (.bool b)) ?_, hm.upd⟩
        show _ = decide _
        first | exact (decide_eq_true (by omega)).symm | exact (decide_eq_false (by omega)).symm
  · skip
    refine wl_guard_no rfl ?_
    refine wl_guard_no rfl ?_
    refine wl_y (y_pick_false rfl (by conv => lhs; whnf)) ?_
    refine wl_y (y_assign (by conv => lhs; whnf)) ?_
    refine wl_nil ?_
    refine then_normal ?_
    refine wc_cond_false rfl ?_
    refine wc_seq ?_
    refine wc_region ?_
    refine wl_y (y_move (by conv => lhs; whnf)) ?_
    refine wl_y (y_lss rfl rfl) ?_
    refine wl_split rfl (fun h5 => ?_) (fun h5 => ?_)
    · skip
      refine wl_guard_yes rfl ?_
      refine wl_y (y_move (by conv => lhs; whnf)) ?_
      refine wl_guard_yes rfl ?_
      refine wl_y (y_leq rfl rfl) ?_
      refine wl_y (y_pick_true rfl (by conv => lhs; whnf)) ?_
      refine wl_y (y_assign (by conv => lhs; whnf)) ?_
      refine wl_nil ?_
      refine then_normal ?_
      refine wc_cond_dec rfl (fun h6 => ?_) (fun h6 => ?_)
      · skip
        refine wc_seq ?_
        refine wc_region ?_
        refine wl_y (y_assign (by conv => lhs; whnf)) ?_
        refine wl_nil ?_
        refine then_normal ?_
        refine wc_ret ?_
        refine block_ret ?_
        refine then_ret ?_
        refine post_ret (results_fr rfl) ?_
        refine ⟨congrArg (fun b => Ending.returned (.bool b)) ?_, hm.upd⟩
        show _ = decide _
        first | exact (decide_eq_true (by omega)).symm | exact (decide_eq_false (by omega)).symm
      · skip
        refine wc_skip ?_
        refine block_normal ?_
        refine then_normal ?_
        refine wc_seq ?_
        refine wc_region ?_
        refine wl_y (y_assign (by conv => lhs; whnf)) ?_
        refine wl_nil ?_
        refine then_normal ?_
        refine wc_ret ?_
        refine post_ret (results_fr rfl) ?_
        refine ⟨congrArg (fun b => Ending.returned (.bool b)) ?_, hm.upd⟩
        show _ = decide _
        first | exact (decide_eq_true (by omega)).symm | exact (decide_eq_false (by omega)).symm
    · skip
      refine wl_guard_no rfl ?_
      refine wl_guard_no rfl ?_
      refine wl_y (y_pick_false rfl (by conv => lhs; whnf)) ?_
      refine wl_y (y_assign (by conv => lhs; whnf)) ?_
      refine wl_nil ?_
      refine then_normal ?_
      refine wc_cond_false rfl ?_
      refine wc_skip ?_
      refine block_normal ?_
      refine then_normal ?_
      refine wc_seq ?_
      refine wc_region ?_
      refine wl_y (y_assign (by conv => lhs; whnf)) ?_
      refine wl_nil ?_
      refine then_normal ?_
      refine wc_ret ?_
      refine post_ret (results_fr rfl) ?_
      refine ⟨congrArg (fun b => Ending.returned (.bool b)) ?_, hm.upd⟩
      show _ = decide _
      first | exact (decide_eq_true (by omega)).symm | exact (decide_eq_false (by omega)).symm

set_option maxHeartbeats 4000000 in
theorem IndexRune_calls (w : World) (r : Int) : Cl Try.prog 99 [.string ⟨#[97, 98]⟩, .int .i32 r].toArray w (Ret w (.int .i64 (letF r))) := by
  have hm : Mem w [] [] w := Mem.init w
  refine cl_enter Try.func99 rfl Try.ntmps99 rfl ?_
  refine wc_seq ?_
  refine wc_region ?_
  refine wl_y (y_assign (by conv => lhs; whnf)) ?_
  refine wl_nil ?_
  refine then_normal ?_
  refine wc_block ?_
  refine wc_seq ?_
  refine wc_region ?_
  refine wl_y (y_move (by conv => lhs; whnf)) ?_
  refine wl_y (y_leq rfl rfl) ?_
  refine wl_split rfl (fun h1 => ?_) (fun h1 => ?_)
  · skip
    refine wl_guard_yes rfl ?_
    refine wl_y (y_move (by conv => lhs; whnf)) ?_
    refine wl_guard_yes rfl ?_
    refine wl_y (y_lss rfl rfl) ?_
    refine wl_y (y_pick_true rfl (by conv => lhs; whnf)) ?_
    refine wl_y (y_assign (by conv => lhs; whnf)) ?_
    refine wl_nil ?_
    refine then_normal ?_
    refine wc_cond_dec rfl (fun h2 => ?_) (fun h2 => ?_)
    · have ha := letF_ascii (r := r) (by omega) (by omega)
      refine wc_seq ?_
      refine wc_region ?_
      refine wl_y (y_move (by conv => lhs; whnf)) ?_
      refine wl_y (y_move (by conv => lhs; whnf)) ?_
      refine wl_y (y_conv rfl Try.underlying21 Try.underlying5 (IntWalk.u8_in _ (by omega))) ?_
      refine wl_callR hm hb100 (IndexByte_calls _ _ _) rfl rfl (fun W hm hu => ?_)
      refine wl_y (y_assign (by conv => lhs; whnf)) ?_
      refine wl_nil ?_
      refine then_normal ?_
      refine wc_ret ?_
      refine block_ret ?_
      refine post_ret (results_fr rfl) ?_
      first | exact ⟨by rw [← ha]; rfl, hm.upd⟩ | exact ⟨by rw [he]; rfl, hm.upd⟩ | skip
    · have he := letF_else (r := r) (by omega)
      refine wc_seq ?_
      refine wc_region ?_
      refine wl_y (y_move (by conv => lhs; whnf)) ?_
      refine wl_y (y_eql rfl rfl) ?_
      refine wl_y (y_assign (by conv => lhs; whnf)) ?_
      refine wl_nil ?_
      refine then_normal ?_
      refine wc_cond_dec rfl (fun h3 => ?_) (fun h3 => ?_)
      · skip
        refine wc_seq ?_
        refine wc_seq ?_
        refine wc_region ?_
        refine wl_y (y_move (by conv => lhs; whnf)) ?_
        refine wl_rangeStr hm (by conv => lhs; whnf) Try.underlying9 (fun W b175 hm hb175 hu => ?_)
        refine wl_nil ?_
        refine then_normal ?_
        refine wc_block ?_
        refine wc_loop [4, 5, 6, 176, 177, 178, 179, 180, 181, 182] (fun (p : Nat) => []) (fun (p : Nat) W => Mem w [] [.obj b175 (· = .stringIter ⟨#[97, 98]⟩ p)] W ∧ p ≤ 2) (fun (p : Nat) => 2 - p) ((0) : Nat) ?_ ?_ ?_
        · exact trivial
        · exact ⟨hm, Nat.zero_le _⟩
        · rintro p u W ⟨hm, hp⟩
          refine wc_seq ?_
          refine wc_region ?_
          refine wl_nextStr (i := 0) hm rfl rfl (fun h4 W hm => ?_) (fun h4 => ?_)
          · rw [ab_decode h4] at hm ⊢
            have hp2 : p < 2 := h4
            refine wl_y (y_extract rfl rfl) ?_
            refine wl_nil ?_
            refine then_normal ?_
            refine wc_seq ?_
            refine wc_cond_true rfl ?_
            refine wc_skip ?_
            refine then_normal ?_
            refine wc_block ?_
            refine wc_seq ?_
            refine wc_region ?_
            refine wl_y (y_extract rfl rfl) ?_
            refine wl_y (y_extract rfl rfl) ?_
            refine wl_y (y_assign (by conv => lhs; whnf)) ?_
            refine wl_y (y_assign (by conv => lhs; whnf)) ?_
            refine wl_nil ?_
            refine then_normal ?_
            refine wc_seq ?_
            refine wc_region ?_
            refine wl_y (y_move (by conv => lhs; whnf)) ?_
            refine wl_y (y_eql rfl rfl) ?_
            refine wl_nil ?_
            refine then_normal ?_
            refine wc_cond_dec rfl (fun h5 => ?_) (fun h5 => ?_)
            · exfalso
              omega
            · skip
              refine wc_skip ?_
              refine block_normal ?_
              refine next_round (σ := Nat) (p + 1) rfl (by repeat first | exact out_hav | refine out_look rfl ?_ | refine out_havIn rfl ?_) trivial ⟨hm, by omega⟩ (by (try dsimp only); omega)
          · skip
            refine wl_y (y_extract rfl rfl) ?_
            refine wl_nil ?_
            refine then_normal ?_
            refine wc_seq ?_
            refine wc_cond_false rfl ?_
            refine wc_exit ?_
            refine then_exit ?_
            refine then_exit ?_
            refine block_exit ?_
            refine then_normal ?_
            refine wc_seq ?_
            refine wc_region ?_
            refine wl_y (y_assign (by conv => lhs; whnf)) ?_
            refine wl_nil ?_
            refine then_normal ?_
            refine wc_ret ?_
            refine block_ret ?_
            refine post_ret (results_fr rfl) ?_
            first | exact ⟨by rw [← ha]; rfl, hm.upd⟩ | exact ⟨by rw [he]; rfl, hm.upd⟩ | skip
      · skip
        refine wc_seq ?_
        refine wc_region ?_
        refine wl_y (y_move (by conv => lhs; whnf)) ?_
        refine wl_callR hm hb101 (ValidRune_calls _ _) rfl rfl (fun W hm hu => ?_)
        refine wl_y (y_not rfl) ?_
        refine wl_y (y_assign (by conv => lhs; whnf)) ?_
        refine wl_nil ?_
        refine then_normal ?_
        refine wc_cond rfl (fun h6 => ?_) (fun h6 => ?_)
        · skip
          refine wc_seq ?_
          refine wc_region ?_
          refine wl_y (y_assign (by conv => lhs; whnf)) ?_
          refine wl_nil ?_
          refine then_normal ?_
          refine wc_ret ?_
          refine block_ret ?_
          refine post_ret (results_fr rfl) ?_
          first | exact ⟨by rw [← ha]; rfl, hm.upd⟩ | exact ⟨by rw [he]; rfl, hm.upd⟩ | skip
        · have hv : Go.validRune r = true := by simpa using h6
          have h128 : 128 ≤ r := by simp only [Go.validRune, decide_eq_true_eq] at hv; omega
          obtain ⟨e1, e2, e3⟩ := encode_last hv h128
          have hab := ab_size
          refine wc_scope ?_
          refine wc_seq ?_
          refine wc_region ?_
          refine wl_y (y_move (by conv => lhs; whnf)) ?_
          refine wl_y (y_convIntStr rfl Try.underlying21 Try.underlying9) ?_
          refine wl_y (y_assign (by conv => lhs; whnf)) ?_
          refine wl_nil ?_
          refine then_normal ?_
          refine wc_seq ?_
          refine wc_region ?_
          refine wl_y (y_move (by conv => lhs; whnf)) ?_
          refine wl_y (y_lenStr (by conv => lhs; whnf) Try.underlying9) ?_
          refine wl_y (y_sub1N rfl rfl (by omega)) ?_
          refine wl_y (y_assign (by conv => lhs; whnf)) ?_
          refine wl_nil ?_
          refine then_normal ?_
          refine wc_seq ?_
          refine wc_region ?_
          refine wl_y (y_move (by conv => lhs; whnf)) ?_
          refine wl_y (y_assign (by conv => lhs; whnf)) ?_
          refine wl_nil ?_
          refine then_normal ?_
          refine wc_seq ?_
          refine wc_region ?_
          refine wl_y (y_assign (by conv => lhs; whnf)) ?_
          refine wl_nil ?_
          refine then_normal ?_
          refine wc_seq ?_
          refine wc_block ?_
          refine wc_loop [4, 9, 10, 11, 12, 23, 24, 25, 26, 27, 28, 29, 30, 31, 32, 33, 34, 35, 36, 37, 38, 39, 40, 41, 42, 43, 44, 45, 46, 47, 48, 49, 50, 51, 52, 53, 54, 55, 56, 57, 58, 59, 60, 61, 62, 63, 64, 65, 66, 67, 68, 69, 70, 71, 72, 73, 74, 75, 76, 77, 78, 79, 80, 81, 82, 83, 84, 85, 86, 87, 88, 89, 90, 91, 92, 93, 94, 95, 96, 97, 98] (fun (u0 : Unit) => [(9, .int .i64 (((Utf8.encode r).size - 1 : Nat) : Int))]) (fun (u0 : Unit) W => Mem w [] [] W) (fun (u0 : Unit) => 0) ((()) : Unit) ?_ ?_ ?_
          · exact ⟨rfl, trivial⟩
          · exact hm
          · rintro u0 u W hm
            clear u0
            refine wc_seq ?_
            refine wc_seq ?_
            refine wc_region ?_
            refine wl_y (y_move (by conv => lhs; whnf)) ?_
            refine wl_y (y_move (by conv => lhs; whnf)) ?_
            refine wl_y (y_lenStr (by conv => lhs; whnf) Try.underlying9) ?_
            refine wl_y (y_lss rfl rfl) ?_
            refine wl_nil ?_
            refine then_normal ?_
            refine wc_cond_dec rfl (fun h7 => ?_) (fun h7 => ?_)
            · rw [ab_size] at h7
              have es : (Utf8.encode r).size = 2 := by omega
              have eb : byt ⟨#[97, 98]⟩ ((Utf8.encode r).size - 1) = 98 := by rw [es]; rfl
              refine wc_skip ?_
              refine then_normal ?_
              refine wc_block ?_
              refine wc_scope ?_
              refine wc_seq ?_
              refine wc_seq ?_
              refine wc_quiet (C := fun W => Mem w [] [] W) mix (by kernel_rfl) (by kernel_rfl) (hm.step (upd_drew _)) ?_
              refine q_y (fun W hm => y_move (by conv => lhs; whnf)) ?_
              refine q_y (fun W hm => y_move (by conv => lhs; whnf)) ?_
              refine q_y (fun W hm => y_indexStr (by conv => lhs; whnf) rfl (by omega) Try.underlying9) ?_
              refine q_y (fun W hm => y_move (by conv => lhs; whnf)) ?_
              refine q_y (fun W hm => y_move (by conv => lhs; whnf)) ?_
              refine q_y (fun W hm => y_indexStr (by conv => lhs; whnf) rfl (by omega) Try.underlying9) ?_
              refine q_y (fun W hm => y_neq rfl rfl) ?_
              refine q_nil (fun W hm => ?_)
              refine then_normal ?_
              refine wc_cond_dec rfl (fun h8 => ?_) (fun h8 => ?_)
              · skip
                refine wc_seq ?_
                refine wc_quiet (C := fun W => Mem w [] [] W) mix (by kernel_rfl) (by kernel_rfl) (hm.step (upd_drew _)) ?_
                refine q_y (fun W hm => y_move (by conv => lhs; whnf)) ?_
                refine q_y (fun W hm => y_move (by conv => lhs; whnf)) ?_
                refine q_y (fun W hm => y_add64 rfl rfl (by omega)) ?_
                refine q_y (fun W hm => y_sliceStrL (by conv => lhs; whnf) rfl (by omega) Try.underlying9) ?_
                refine q_y (fun W hm => y_move (by conv => lhs; whnf)) ?_
                refine q_y (fun W hm => y_move (by conv => lhs; whnf)) ?_
                refine q_y (fun W hm => y_indexStr (by conv => lhs; whnf) rfl (by omega) Try.underlying9) ?_
                refine q_callR hb100 (fun W hm => IndexByte_calls _ _ _) rfl rfl ?_
                refine q_y (fun W hm => y_assign (by conv => lhs; whnf)) ?_
                refine q_nil (fun W hm => ?_)
                refine then_normal ?_
                refine wc_seq ?_
                refine wc_seq ?_
                refine wc_region ?_
                refine wl_y (y_move (by conv => lhs; whnf)) ?_
                refine wl_y (y_lss rfl rfl) ?_
                refine wl_nil ?_
                refine then_normal ?_
                refine wc_cond_dec rfl (fun h9 => ?_) (fun h9 => ?_)
                · skip
                  refine wc_seq ?_
                  refine wc_region ?_
                  refine wl_y (y_assign (by conv => lhs; whnf)) ?_
                  refine wl_nil ?_
                  refine then_normal ?_
                  refine wc_ret ?_
                  refine then_ret ?_
                  refine then_ret ?_
                  refine scope_ret ?_
                  refine block_ret ?_
                  refine then_ret ?_
                  refine block_ret ?_
                  refine then_ret ?_
                  refine scope_ret ?_
                  refine block_ret ?_
                  refine post_ret (results_fr rfl) ?_
                  first | exact ⟨by rw [← ha]; rfl, hm.upd⟩ | exact ⟨by rw [he]; rfl, hm.upd⟩ | skip
                · exfalso
                  apply h9
                  rw [indexByte_nil _ (by rw [ByteArray.size_extract]; omega)]
                  exact (by decide)
              · exfalso
                omega
            · skip
              refine wc_exit ?_
              refine then_exit ?_
              refine then_exit ?_
              refine block_exit ?_
              refine then_normal ?_
              refine wc_seq ?_
              refine wc_seq ?_
              refine wc_region ?_
              refine wl_y (y_assign (by conv => lhs; whnf)) ?_
              refine wl_nil ?_
              refine then_normal ?_
              refine wc_ret ?_
              refine then_ret ?_
              refine scope_ret ?_
              refine block_ret ?_
              refine post_ret (results_fr rfl) ?_
              first | exact ⟨by rw [← ha]; rfl, hm.upd⟩ | exact ⟨by rw [he]; rfl, hm.upd⟩ | skip
  · have he := letF_else (r := r) (by omega)
    refine wl_guard_no rfl ?_
    refine wl_guard_no rfl ?_
    refine wl_y (y_pick_false rfl (by conv => lhs; whnf)) ?_
    refine wl_y (y_assign (by conv => lhs; whnf)) ?_
    refine wl_nil ?_
    refine then_normal ?_
    refine wc_cond_false rfl ?_
    refine wc_seq ?_
    refine wc_region ?_
    refine wl_y (y_move (by conv => lhs; whnf)) ?_
    refine wl_y (y_eql rfl rfl) ?_
    refine wl_y (y_assign (by conv => lhs; whnf)) ?_
    refine wl_nil ?_
    refine then_normal ?_
    refine wc_cond_dec rfl (fun h10 => ?_) (fun h10 => ?_)
    · skip
      refine wc_seq ?_
      refine wc_seq ?_
      refine wc_region ?_
      refine wl_y (y_move (by conv => lhs; whnf)) ?_
      refine wl_rangeStr hm (by conv => lhs; whnf) Try.underlying9 (fun W b175 hm hb175 hu => ?_)
      refine wl_nil ?_
      refine then_normal ?_
      refine wc_block ?_
      refine wc_loop [4, 5, 6, 176, 177, 178, 179, 180, 181, 182] (fun (p : Nat) => []) (fun (p : Nat) W => Mem w [] [.obj b175 (· = .stringIter ⟨#[97, 98]⟩ p)] W ∧ p ≤ 2) (fun (p : Nat) => 2 - p) ((0) : Nat) ?_ ?_ ?_
      · exact trivial
      · exact ⟨hm, Nat.zero_le _⟩
      · rintro p u W ⟨hm, hp⟩
        refine wc_seq ?_
        refine wc_region ?_
        refine wl_nextStr (i := 0) hm rfl rfl (fun h11 W hm => ?_) (fun h11 => ?_)
        · rw [ab_decode h11] at hm ⊢
          have hp2 : p < 2 := h11
          refine wl_y (y_extract rfl rfl) ?_
          refine wl_nil ?_
          refine then_normal ?_
          refine wc_seq ?_
          refine wc_cond_true rfl ?_
          refine wc_skip ?_
          refine then_normal ?_
          refine wc_block ?_
          refine wc_seq ?_
          refine wc_region ?_
          refine wl_y (y_extract rfl rfl) ?_
          refine wl_y (y_extract rfl rfl) ?_
          refine wl_y (y_assign (by conv => lhs; whnf)) ?_
          refine wl_y (y_assign (by conv => lhs; whnf)) ?_
          refine wl_nil ?_
          refine then_normal ?_
          refine wc_seq ?_
          refine wc_region ?_
          refine wl_y (y_move (by conv => lhs; whnf)) ?_
          refine wl_y (y_eql rfl rfl) ?_
          refine wl_nil ?_
          refine then_normal ?_
          refine wc_cond_dec rfl (fun h12 => ?_) (fun h12 => ?_)
          · exfalso
            omega
          · skip
            refine wc_skip ?_
            refine block_normal ?_
            refine next_round (σ := Nat) (p + 1) rfl (by repeat first | exact out_hav | refine out_look rfl ?_ | refine out_havIn rfl ?_) trivial ⟨hm, by omega⟩ (by (try dsimp only); omega)
        · skip
          refine wl_y (y_extract rfl rfl) ?_
          refine wl_nil ?_
          refine then_normal ?_
          refine wc_seq ?_
          refine wc_cond_false rfl ?_
          refine wc_exit ?_
          refine then_exit ?_
          refine then_exit ?_
          refine block_exit ?_
          refine then_normal ?_
          refine wc_seq ?_
          refine wc_region ?_
          refine wl_y (y_assign (by conv => lhs; whnf)) ?_
          refine wl_nil ?_
          refine then_normal ?_
          refine wc_ret ?_
          refine block_ret ?_
          refine post_ret (results_fr rfl) ?_
          first | exact ⟨by rw [← ha]; rfl, hm.upd⟩ | exact ⟨by rw [he]; rfl, hm.upd⟩ | skip
    · skip
      refine wc_seq ?_
      refine wc_region ?_
      refine wl_y (y_move (by conv => lhs; whnf)) ?_
      refine wl_callR hm hb101 (ValidRune_calls _ _) rfl rfl (fun W hm hu => ?_)
      refine wl_y (y_not rfl) ?_
      refine wl_y (y_assign (by conv => lhs; whnf)) ?_
      refine wl_nil ?_
      refine then_normal ?_
      refine wc_cond rfl (fun h13 => ?_) (fun h13 => ?_)
      · skip
        refine wc_seq ?_
        refine wc_region ?_
        refine wl_y (y_assign (by conv => lhs; whnf)) ?_
        refine wl_nil ?_
        refine then_normal ?_
        refine wc_ret ?_
        refine block_ret ?_
        refine post_ret (results_fr rfl) ?_
        first | exact ⟨by rw [← ha]; rfl, hm.upd⟩ | exact ⟨by rw [he]; rfl, hm.upd⟩ | skip
      · have hv : Go.validRune r = true := by simpa using h13
        have h128 : 128 ≤ r := by simp only [Go.validRune, decide_eq_true_eq] at hv; omega
        obtain ⟨e1, e2, e3⟩ := encode_last hv h128
        have hab := ab_size
        refine wc_scope ?_
        refine wc_seq ?_
        refine wc_region ?_
        refine wl_y (y_move (by conv => lhs; whnf)) ?_
        refine wl_y (y_convIntStr rfl Try.underlying21 Try.underlying9) ?_
        refine wl_y (y_assign (by conv => lhs; whnf)) ?_
        refine wl_nil ?_
        refine then_normal ?_
        refine wc_seq ?_
        refine wc_region ?_
        refine wl_y (y_move (by conv => lhs; whnf)) ?_
        refine wl_y (y_lenStr (by conv => lhs; whnf) Try.underlying9) ?_
        refine wl_y (y_sub1N rfl rfl (by omega)) ?_
        refine wl_y (y_assign (by conv => lhs; whnf)) ?_
        refine wl_nil ?_
        refine then_normal ?_
        refine wc_seq ?_
        refine wc_region ?_
        refine wl_y (y_move (by conv => lhs; whnf)) ?_
        refine wl_y (y_assign (by conv => lhs; whnf)) ?_
        refine wl_nil ?_
        refine then_normal ?_
        refine wc_seq ?_
        refine wc_region ?_
        refine wl_y (y_assign (by conv => lhs; whnf)) ?_
        refine wl_nil ?_
        refine then_normal ?_
        refine wc_seq ?_
        refine wc_block ?_
        refine wc_loop [4, 9, 10, 11, 12, 23, 24, 25, 26, 27, 28, 29, 30, 31, 32, 33, 34, 35, 36, 37, 38, 39, 40, 41, 42, 43, 44, 45, 46, 47, 48, 49, 50, 51, 52, 53, 54, 55, 56, 57, 58, 59, 60, 61, 62, 63, 64, 65, 66, 67, 68, 69, 70, 71, 72, 73, 74, 75, 76, 77, 78, 79, 80, 81, 82, 83, 84, 85, 86, 87, 88, 89, 90, 91, 92, 93, 94, 95, 96, 97, 98] (fun (u0 : Unit) => [(9, .int .i64 (((Utf8.encode r).size - 1 : Nat) : Int))]) (fun (u0 : Unit) W => Mem w [] [] W) (fun (u0 : Unit) => 0) ((()) : Unit) ?_ ?_ ?_
        · exact ⟨rfl, trivial⟩
        · exact hm
        · rintro u0 u W hm
          clear u0
          refine wc_seq ?_
          refine wc_seq ?_
          refine wc_region ?_
          refine wl_y (y_move (by conv => lhs; whnf)) ?_
          refine wl_y (y_move (by conv => lhs; whnf)) ?_
          refine wl_y (y_lenStr (by conv => lhs; whnf) Try.underlying9) ?_
          refine wl_y (y_lss rfl rfl) ?_
          refine wl_nil ?_
          refine then_normal ?_
          refine wc_cond_dec rfl (fun h14 => ?_) (fun h14 => ?_)
          · rw [ab_size] at h14
            have es : (Utf8.encode r).size = 2 := by omega
            have eb : byt ⟨#[97, 98]⟩ ((Utf8.encode r).size - 1) = 98 := by rw [es]; rfl
            refine wc_skip ?_
            refine then_normal ?_
            refine wc_block ?_
            refine wc_scope ?_
            refine wc_seq ?_
            refine wc_seq ?_
            refine wc_quiet (C := fun W => Mem w [] [] W) mix (by kernel_rfl) (by kernel_rfl) (hm.step (upd_drew _)) ?_
            refine q_y (fun W hm => y_move (by conv => lhs; whnf)) ?_
            refine q_y (fun W hm => y_move (by conv => lhs; whnf)) ?_
            refine q_y (fun W hm => y_indexStr (by conv => lhs; whnf) rfl (by omega) Try.underlying9) ?_
            refine q_y (fun W hm => y_move (by conv => lhs; whnf)) ?_
            refine q_y (fun W hm => y_move (by conv => lhs; whnf)) ?_
            refine q_y (fun W hm => y_indexStr (by conv => lhs; whnf) rfl (by omega) Try.underlying9) ?_
            refine q_y (fun W hm => y_neq rfl rfl) ?_
            refine q_nil (fun W hm => ?_)
            refine then_normal ?_
            refine wc_cond_dec rfl (fun h15 => ?_) (fun h15 => ?_)
            · skip
              refine wc_seq ?_
              refine wc_quiet (C := fun W => Mem w [] [] W) mix (by kernel_rfl) (by kernel_rfl) (hm.step (upd_drew _)) ?_
              refine q_y (fun W hm => y_move (by conv => lhs; whnf)) ?_
              refine q_y (fun W hm => y_move (by conv => lhs; whnf)) ?_
              refine q_y (fun W hm => y_add64 rfl rfl (by omega)) ?_
              refine q_y (fun W hm => y_sliceStrL (by conv => lhs; whnf) rfl (by omega) Try.underlying9) ?_
              refine q_y (fun W hm => y_move (by conv => lhs; whnf)) ?_
              refine q_y (fun W hm => y_move (by conv => lhs; whnf)) ?_
              refine q_y (fun W hm => y_indexStr (by conv => lhs; whnf) rfl (by omega) Try.underlying9) ?_
              refine q_callR hb100 (fun W hm => IndexByte_calls _ _ _) rfl rfl ?_
              refine q_y (fun W hm => y_assign (by conv => lhs; whnf)) ?_
              refine q_nil (fun W hm => ?_)
              refine then_normal ?_
              refine wc_seq ?_
              refine wc_seq ?_
              refine wc_region ?_
              refine wl_y (y_move (by conv => lhs; whnf)) ?_
              refine wl_y (y_lss rfl rfl) ?_
              refine wl_nil ?_
              refine then_normal ?_
              refine wc_cond_dec rfl (fun h16 => ?_) (fun h16 => ?_)
              · skip
                refine wc_seq ?_
                refine wc_region ?_
                refine wl_y (y_assign (by conv => lhs; whnf)) ?_
                refine wl_nil ?_
                refine then_normal ?_
                refine wc_ret ?_
                refine then_ret ?_
                refine then_ret ?_
                refine scope_ret ?_
                refine block_ret ?_
                refine then_ret ?_
                refine block_ret ?_
                refine then_ret ?_
                refine scope_ret ?_
                refine block_ret ?_
                refine post_ret (results_fr rfl) ?_
                first | exact ⟨by rw [← ha]; rfl, hm.upd⟩ | exact ⟨by rw [he]; rfl, hm.upd⟩ | skip
              · exfalso
                apply h16
                rw [indexByte_nil _ (by rw [ByteArray.size_extract]; omega)]
                exact (by decide)
            · exfalso
              omega
          · skip
            refine wc_exit ?_
            refine then_exit ?_
            refine then_exit ?_
            refine block_exit ?_
            refine then_normal ?_
            refine wc_seq ?_
            refine wc_seq ?_
            refine wc_region ?_
            refine wl_y (y_assign (by conv => lhs; whnf)) ?_
            refine wl_nil ?_
            refine then_normal ?_
            refine wc_ret ?_
            refine then_ret ?_
            refine scope_ret ?_
            refine block_ret ?_
            refine post_ret (results_fr rfl) ?_
            first | exact ⟨by rw [← ha]; rfl, hm.upd⟩ | exact ⟨by rw [he]; rfl, hm.upd⟩ | skip

set_option maxHeartbeats 4000000 in
theorem letter_calls (w : World) (r : Int) : Cl Try.prog 93 [.int .i32 r].toArray w (Ret w (.int .i64 (letF r))) := by
  have hm : Mem w [] [] w := Mem.init w
  refine cl_enter Try.func93 rfl Try.ntmps93 rfl ?_
  refine wc_seq ?_
  refine wc_region ?_
  refine wl_y (y_assign (by conv => lhs; whnf)) ?_
  refine wl_nil ?_
  refine then_normal ?_
  refine wc_seq ?_
  refine wc_region ?_
  refine wl_y (y_move (by conv => lhs; whnf)) ?_
  refine wl_callR hm hb99 (IndexRune_calls _ _) rfl rfl (fun W hm hu => ?_)
  refine wl_y (y_assign (by conv => lhs; whnf)) ?_
  refine wl_nil ?_
  refine then_normal ?_
  refine wc_ret ?_
  refine post_ret (results_fr rfl) ?_
  exact ⟨rfl, hm.upd⟩

set_option maxHeartbeats 4000000 in
theorem rWord_calls (w : World) (s : ByteArray) (hsz : s.size ≤ 140737488355232) : Cl Try.prog 30 [.string s].toArray w (Ret w (.bool (wordB s))) := by
  have hm : Mem w [] [] w := Mem.init w
  refine cl_enter Try.func30 rfl Try.ntmps30 rfl ?_
  refine wc_seq ?_
  refine wc_region ?_
  refine wl_y (y_assign (by conv => lhs; whnf)) ?_
  refine wl_nil ?_
  refine then_normal ?_
  refine wc_seq ?_
  refine wc_seq ?_
  refine wc_region ?_
  refine wl_y (y_assign (by conv => lhs; whnf)) ?_
  refine wl_nil ?_
  refine then_normal ?_
  refine wc_block ?_
  refine wc_loop [2, 3, 4, 5, 6, 7, 8, 9, 10, 11, 12, 13, 14, 15, 16, 17, 18, 19] (fun (i : Nat) => [(3, .int .i64 (i : Int))]) (fun (i : Nat) W => Mem w [] [] W ∧ i ≤ s.size ∧ wordTo s i = true ∧ s.size ≤ 140737488355232) (fun (i : Nat) => s.size - i) ((0) : Nat) ?_ ?_ ?_
  · exact ⟨rfl, trivial⟩
  · exact ⟨hm, Nat.zero_le _, rfl, hsz⟩
  · rintro i u W ⟨hm, hp, hwd, hsz⟩
    refine wc_seq ?_
    refine wc_seq ?_
    refine wc_region ?_
    refine wl_y (y_move (by conv => lhs; whnf)) ?_
    refine wl_y (y_move (by conv => lhs; whnf)) ?_
    refine wl_y (y_lenStr (by conv => lhs; whnf) Try.underlying9) ?_
    refine wl_y (y_lss rfl rfl) ?_
    refine wl_nil ?_
    refine then_normal ?_
    refine wc_cond_dec rfl (fun h1 => ?_) (fun h1 => ?_)
    · skip
      refine wc_skip ?_
      refine then_normal ?_
      refine wc_seq ?_
      refine wc_block ?_
      refine wc_seq ?_
      refine wc_region ?_
      refine wl_y (y_move (by conv => lhs; whnf)) ?_
      refine wl_y (y_move (by conv => lhs; whnf)) ?_
      refine wl_y (y_indexStr (by conv => lhs; whnf) rfl (by omega) Try.underlying9) ?_
      refine wl_y (y_neq rfl rfl) ?_
      refine wl_split rfl (fun h2 => ?_) (fun h2 => ?_)
      · skip
        refine wl_guard_yes rfl ?_
        refine wl_y (y_move (by conv => lhs; whnf)) ?_
        refine wl_guard_yes rfl ?_
        refine wl_y (y_move (by conv => lhs; whnf)) ?_
        refine wl_guard_yes rfl ?_
        refine wl_y (y_indexStr (by conv => lhs; whnf) rfl (by omega) Try.underlying9) ?_
        refine wl_guard_yes rfl ?_
        refine wl_y (y_neq rfl rfl) ?_
        refine wl_y (y_pick_true rfl (by conv => lhs; whnf)) ?_
        refine wl_nil ?_
        refine then_normal ?_
        refine wc_cond_dec rfl (fun h3 => ?_) (fun h3 => ?_)
        · have hno := wordB_no (s := s) (i := i) (by omega) (by omega)
          refine wc_seq ?_
          refine wc_region ?_
          refine wl_y (y_assign (by conv => lhs; whnf)) ?_
          refine wl_nil ?_
          refine then_normal ?_
          refine wc_ret ?_
          refine block_ret ?_
          refine then_ret ?_
          refine then_ret ?_
          refine block_ret ?_
          refine then_ret ?_
          refine post_ret (results_fr rfl) ?_
          refine ⟨?_, hm.upd⟩
          rw [hno]; rfl
        · skip
          refine wc_skip ?_
          refine block_normal ?_
          refine then_normal ?_
          refine wc_region ?_
          refine wl_y (y_move (by conv => lhs; whnf)) ?_
          refine wl_y (y_add64 rfl rfl (by omega)) ?_
          refine wl_y (y_assign (by conv => lhs; whnf)) ?_
          refine wl_nil ?_
          refine next_round (σ := Nat) (i + 1) rfl (by repeat first | exact out_hav | refine out_look rfl ?_ | refine out_havIn rfl ?_) ⟨rfl, trivial⟩ ⟨hm, by omega, wordTo_step hwd (by omega), hsz⟩ (by (try dsimp only); omega)
      · skip
        refine wl_guard_no rfl ?_
        refine wl_guard_no rfl ?_
        refine wl_guard_no rfl ?_
        refine wl_guard_no rfl ?_
        refine wl_y (y_pick_false rfl (by conv => lhs; whnf)) ?_
        refine wl_nil ?_
        refine then_normal ?_
        refine wc_cond_false rfl ?_
        refine wc_skip ?_
        refine block_normal ?_
        refine then_normal ?_
        refine wc_region ?_
        refine wl_y (y_move (by conv => lhs; whnf)) ?_
        refine wl_y (y_add64 rfl rfl (by omega)) ?_
        refine wl_y (y_assign (by conv => lhs; whnf)) ?_
        refine wl_nil ?_
        refine next_round (σ := Nat) (i + 1) rfl (by repeat first | exact out_hav | refine out_look rfl ?_ | refine out_havIn rfl ?_) ⟨rfl, trivial⟩ ⟨hm, by omega, wordTo_step hwd (by omega), hsz⟩ (by (try dsimp only); omega)
    · obtain rfl : i = s.size := by omega
      refine wc_exit ?_
      refine then_exit ?_
      refine then_exit ?_
      refine block_exit ?_
      refine then_normal ?_
      refine wc_seq ?_
      refine wc_region ?_
      refine wl_y (y_move (by conv => lhs; whnf)) ?_
      refine wl_y (y_lenStr (by conv => lhs; whnf) Try.underlying9) ?_
      refine wl_y (y_leq rfl rfl) ?_
      refine wl_y (y_assign (by conv => lhs; whnf)) ?_
      refine wl_nil ?_
      refine then_normal ?_
      refine wc_ret ?_
      refine post_ret (results_fr rfl) ?_
      refine ⟨?_, hm.upd⟩
      rw [wordB_of hwd]; rfl

set_option maxHeartbeats 4000000 in
theorem ends_calls (w : World) (bn k : Nat) (nx : List Int) (s : ByteArray) (hn : NetAt w bn k nx) (ho : Okf k (tabN nx)) (hle : Lets s) :
    Cl Try.prog 74 [.pointer (some ⟨bn, 0, none⟩), .string s].toArray w (Ret w (.int .i64 (fromTo (tabN nx) k (2 ^ k - 1) s s.size : Int))) := by
  have h32 := pow_le_32 ho.k5
  have hp0 := Nat.two_pow_pos k
  have hm : Mem w [] [] w := Mem.init w
  refine cl_enter Try.func74 rfl Try.ntmps74 rfl ?_
  refine wc_seq ?_
  refine wc_region ?_
  refine wl_y (y_assign (by conv => lhs; whnf)) ?_
  refine wl_nil ?_
  refine then_normal ?_
  refine wc_seq ?_
  refine wc_region ?_
  refine wl_y (y_move (by conv => lhs; whnf)) ?_
  refine wl_y (y_makeFuncL rfl rfl) ?_
  refine wl_y (y_assign (by conv => lhs; whnf)) ?_
  refine wl_nil ?_
  refine then_normal ?_
  refine wc_seq ?_
  refine wc_region ?_
  refine wl_y (y_move (by conv => lhs; whnf)) ?_
  refine wl_callR hm hb58 (all_calls _ _ _ _ (hn.step hm.upd) ho.k5) rfl rfl (fun W hm hu => ?_)
  refine wl_y (y_assign (by conv => lhs; whnf)) ?_
  refine wl_nil ?_
  refine then_normal ?_
  refine wc_seq ?_
  refine wc_seq ?_
  refine wc_region ?_
  refine wl_y (y_move (by conv => lhs; whnf)) ?_
  refine wl_rangeStr hm (by conv => lhs; whnf) Try.underlying9 (fun W b14 hm hb14 hu => ?_)
  refine wl_nil ?_
  refine then_normal ?_
  refine wc_block ?_
  refine wc_loop [6, 8, 15, 16, 17, 18, 19, 20, 21, 22] (fun (p : Nat) => [(6, .int .i64 (fromTo (tabN nx) k (2 ^ k - 1) s p : Int))]) (fun (p : Nat) W => Mem w [] [.obj b14 (· = .stringIter s p)] W ∧ p ≤ s.size) (fun (p : Nat) => s.size - p) ((0) : Nat) ?_ ?_ ?_
  · exact ⟨rfl, trivial⟩
  · exact ⟨hm, Nat.zero_le _⟩
  · rintro p u W ⟨hm, hp⟩
    refine wc_seq ?_
    refine wc_region ?_
    refine wl_nextStr (i := 0) hm rfl rfl (fun h1 W hm => ?_) (fun h1 => ?_)
    · have hb1 := hle p h1
      rw [decode_byt h1 (by omega)] at hm ⊢
      have hlt := fromTo_lt ho (set := 2 ^ k - 1) (by omega) hle p hp
      have hp2 := h1
      have hl93 : ∀ W, Cl Try.prog 93 [.int .i32 (byt s p : Nat)].toArray W (Ret W (.int .i64 ((byt s p - 97 : Nat) : Int))) := fun W => by have := letter_calls W (byt s p : Nat); rwa [letF_lets hb1] at this
      refine wl_y (y_extract rfl rfl) ?_
      refine wl_nil ?_
      refine then_normal ?_
      refine wc_seq ?_
      refine wc_cond_true rfl ?_
      refine wc_skip ?_
      refine then_normal ?_
      refine wc_block ?_
      refine wc_seq ?_
      refine wc_region ?_
      refine wl_y (y_extract rfl rfl) ?_
      refine wl_y (y_assign (by conv => lhs; whnf)) ?_
      refine wl_nil ?_
      refine then_normal ?_
      refine wc_region ?_
      refine wl_y (y_move (by conv => lhs; whnf)) ?_
      refine wl_y (y_move (by conv => lhs; whnf)) ?_
      refine wl_y (y_move (by conv => lhs; whnf)) ?_
      refine wl_callR hm hb93 (hl93 _) rfl rfl (fun W hm hu => ?_)
      refine wl_callFirst (v := .int .i64 ((fromTo (tabN nx) k (2 ^ k - 1) s (p + 1) : Nat) : Int)) (first := [.pointer (some ⟨bn, 0, none⟩)]) hm hb60 (step_calls _ _ _ _ _ _ (hn.step hm.upd) ho (by omega) (by omega)) rfl rfl (fun W hm hu => ?_)
      refine wl_y (y_assign (by conv => lhs; whnf)) ?_
      refine wl_nil ?_
      refine block_normal ?_
      refine next_round (σ := Nat) (p + 1) rfl (by repeat first | exact out_hav | refine out_look rfl ?_ | refine out_havIn rfl ?_) ⟨rfl, trivial⟩ ⟨hm, by omega⟩ (by (try dsimp only); omega)
    · skip
      refine wl_y (y_extract rfl rfl) ?_
      refine wl_nil ?_
      refine then_normal ?_
      refine wc_seq ?_
      refine wc_cond_false rfl ?_
      refine wc_exit ?_
      refine then_exit ?_
      refine then_exit ?_
      refine block_exit ?_
      refine then_normal ?_
      refine wc_seq ?_
      refine wc_region ?_
      refine wl_y (y_move (by conv => lhs; whnf)) ?_
      refine wl_y (y_assign (by conv => lhs; whnf)) ?_
      refine wl_nil ?_
      refine then_normal ?_
      refine wc_ret ?_
      refine post_ret (results_fr rfl) ?_
      obtain rfl : p = s.size := by omega
      exact ⟨rfl, hm.upd⟩
end Go.Proofs.Ytofpdjpenmhbnaa
namespace Go.Proofs.Ytofpdjpenmhbnaa
open Go Go.Kx
theorem ti4 : TI Try.prog 4 (.bool false) 1 1 := by show _ = _; kernel_rfl
theorem hb83 : HasBody Try.prog 83 := hasBody Try.func83 (by kernel_rfl) (by kernel_rfl)
theorem hb97 : HasBody Try.prog 97 := hasBody Try.func97 (by kernel_rfl) (by kernel_rfl)
theorem netCells_set (k : Nat) (nx : List Int) {i x : Nat} (z : Int) : (netCells k nx).set (0 + 1 + (i : Int).toNat * 2 + (x : Int).toNat * 1) (.int .i64 z) = netCells k (nx.set (2 * i + x) z) := by
  have e : 0 + 1 + (i : Int).toNat * 2 + (x : Int).toNat * 1 = (2 * i + x) + 1 := by simp; omega
  rw [e, netCells, List.set_cons_succ, ints_set]; rfl
theorem bools_setI (sb : List Bool) (a : Int) (z : Bool) : (bools sb).set (a.toNat * 1) (.bool z) = bools (sb.set a.toNat z) := by rw [Nat.mul_one, bools_set]

set_option maxHeartbeats 4000000 in
theorem rCheck_calls (w : World) (vl : Value) (ps : List (Int × Int)) (hl : SlAt w 2 vl ps.length (prs ps)) :
    Cl Try.prog 49 [vl].toArray w (Ret w (.bool (netB ps))) := by
  have hm : Mem w [] [] w := Mem.init w
  refine cl_enter Try.func49 rfl Try.ntmps49 rfl ?_
  refine wc_seq ?_
  refine wc_region ?_
  refine wl_y (y_assign (by conv => lhs; whnf)) ?_
  refine wl_nil ?_
  refine then_normal ?_
  refine wc_seq ?_
  refine wc_region ?_
  refine wl_y (y_move (by conv => lhs; whnf)) ?_
  refine wl_y (y_lenSl (by conv => lhs; whnf) (hl.step hm.upd) Try.underlying22) ?_
  refine wl_y (y_assign (by conv => lhs; whnf)) ?_
  refine wl_nil ?_
  refine then_normal ?_
  refine wc_seq ?_
  refine wc_region ?_
  refine wl_y (y_assign (by conv => lhs; whnf)) ?_
  refine wl_nil ?_
  refine then_normal ?_
  refine wc_seq ?_
  refine wc_seq ?_
  refine wc_region ?_
  refine wl_y (y_assign (by conv => lhs; whnf)) ?_
  refine wl_nil ?_
  refine then_normal ?_
  refine wc_block ?_
  refine wc_loop [2, 4, 5, 6, 7, 10, 11, 12, 13, 14, 15, 16, 17, 18, 19, 20, 21, 22, 23, 24, 25, 26, 27, 28, 29, 30, 31, 32, 33, 34, 35, 36, 37, 38, 39, 40, 41, 42, 43, 44, 45, 46, 47] (fun (v : Nat) => [(5, .int .i64 (v : Int)), (4, .int .i64 (intoTo ps (2 * v) : Int))]) (fun (v : Nat) W => Mem w [] [] W ∧ v ≤ ps.length ∧ (∀ u, u < v → RowOk ps u)) (fun (v : Nat) => ps.length - v) ((0) : Nat) ?_ ?_ ?_
  · exact ⟨rfl, rfl, trivial⟩
  · exact ⟨hm, Nat.zero_le _, by omega⟩
  · rintro v u W ⟨hm, hv, hr⟩
    refine wc_seq ?_
    refine wc_seq ?_
    refine wc_region ?_
    refine wl_y (y_move (by conv => lhs; whnf)) ?_
    refine wl_y (y_move (by conv => lhs; whnf)) ?_
    refine wl_y (y_lss rfl rfl) ?_
    refine wl_nil ?_
    refine then_normal ?_
    refine wc_cond_dec rfl (fun h1 => ?_) (fun h1 => ?_)
    · skip
      refine wc_skip ?_
      refine then_normal ?_
      refine wc_seq ?_
      refine wc_block ?_
      refine wc_seq ?_
      refine wc_seq ?_
      refine wc_region ?_
      refine wl_y (y_assign (by conv => lhs; whnf)) ?_
      refine wl_nil ?_
      refine then_normal ?_
      refine wc_block ?_
      refine wc_loop [2, 4, 6, 7, 15, 16, 17, 18, 19, 20, 21, 22, 23, 24, 25, 26, 27, 28, 29, 30, 31, 32, 33, 34, 35, 36, 37, 38, 39, 40, 41] (fun (x : Nat) => [(6, .int .i64 (x : Int)), (4, .int .i64 (intoTo ps (2 * v + x) : Int))]) (fun (x : Nat) W => Mem w [] [] W ∧ x ≤ 2 ∧ (∀ y, y < x → -1 ≤ tabR ps v y ∧ tabR ps v y < ps.length) ∧ (x = 0 ∨ ps.length ≤ 5)) (fun (x : Nat) => 2 - x) ((0) : Nat) ?_ ?_ ?_
      · exact ⟨rfl, rfl, trivial⟩
      · exact ⟨hm, Nat.zero_le _, by omega, .inl rfl⟩
      · rintro x u W ⟨hm, hx, hy, hx5⟩
        refine wc_seq ?_
        refine wc_seq ?_
        refine wc_region ?_
        refine wl_y (y_move (by conv => lhs; whnf)) ?_
        refine wl_y (y_lss rfl rfl) ?_
        refine wl_nil ?_
        refine then_normal ?_
        refine wc_cond_dec rfl (fun h2 => ?_) (fun h2 => ?_)
        · skip
          refine wc_skip ?_
          refine then_normal ?_
          refine wc_seq ?_
          refine wc_block ?_
          refine wc_seq ?_
          refine wc_region ?_
          refine wl_y (y_move (by conv => lhs; whnf)) ?_
          refine wl_y (y_move (by conv => lhs; whnf)) ?_
          refine wl_y (y_move (by conv => lhs; whnf)) ?_
          refine wl_y (y_indexAddr (by conv => lhs; whnf) rfl (hl.step hm.upd) (by omega) Try.underlying22 ti27 (by decide)) ?_
          refine wl_y (y_indexArrSl rfl rfl (hl.step hm.upd) (by simp; omega) (by omega) Try.underlying27 ti3) ?_
          refine wl_y (y_loadSl rfl (hl.step hm.upd) (tabR_at (by omega) (by omega)) Try.underlying3 rfl) ?_
          refine wl_y (y_assign (by conv => lhs; whnf)) ?_
          refine wl_nil ?_
          refine then_normal ?_
          refine wc_seq ?_
          refine wc_seq ?_
          refine wc_region ?_
          refine wl_y (y_move (by conv => lhs; whnf)) ?_
          refine wl_y (y_lss rfl rfl) ?_
          refine wl_split rfl (fun h3 => ?_) (fun h3 => ?_)
          · skip
            refine wl_guard_no rfl ?_
            refine wl_guard_no rfl ?_
            refine wl_guard_no rfl ?_
            refine wl_y (y_pick_true rfl (by conv => lhs; whnf)) ?_
            refine wl_y (y_move (by conv => lhs; whnf)) ?_
            refine wl_guard_no rfl ?_
            refine wl_guard_no rfl ?_
            refine wl_y (y_pick_true rfl (by conv => lhs; whnf)) ?_
            refine wl_nil ?_
            refine then_normal ?_
            refine wc_cond_true rfl ?_
            refine wc_seq ?_
            refine wc_region ?_
            refine wl_y (y_assign (by conv => lhs; whnf)) ?_
            refine wl_nil ?_
            refine then_normal ?_
            refine wc_ret ?_
            refine then_ret ?_
            refine block_ret ?_
            refine then_ret ?_
            refine then_ret ?_
            refine block_ret ?_
            refine then_ret ?_
            refine block_ret ?_
            refine then_ret ?_
            refine then_ret ?_
            refine block_ret ?_
            refine then_ret ?_
            refine post_ret (results_fr rfl) ?_
            refine ⟨?_, hm.upd⟩
            rw [netB_no (fun hn => by have h5 := hn.1; have hr := (hn.2.1 v (by omega)).1 x (by omega); omega)]; rfl
          · skip
            refine wl_guard_yes rfl ?_
            refine wl_y (y_move (by conv => lhs; whnf)) ?_
            refine wl_guard_yes rfl ?_
            refine wl_y (y_move (by conv => lhs; whnf)) ?_
            refine wl_guard_yes rfl ?_
            refine wl_y (y_geq rfl rfl) ?_
            refine wl_y (y_pick_false rfl (by conv => lhs; whnf)) ?_
            refine wl_split rfl (fun h4 => ?_) (fun h4 => ?_)
            · skip
              refine wl_guard_no rfl ?_
              refine wl_guard_no rfl ?_
              refine wl_y (y_pick_true rfl (by conv => lhs; whnf)) ?_
              refine wl_nil ?_
              refine then_normal ?_
              refine wc_cond_true rfl ?_
              refine wc_seq ?_
              refine wc_region ?_
              refine wl_y (y_assign (by conv => lhs; whnf)) ?_
              refine wl_nil ?_
              refine then_normal ?_
              refine wc_ret ?_
              refine then_ret ?_
              refine block_ret ?_
              refine then_ret ?_
              refine then_ret ?_
              refine block_ret ?_
              refine then_ret ?_
              refine block_ret ?_
              refine then_ret ?_
              refine then_ret ?_
              refine block_ret ?_
              refine then_ret ?_
              refine post_ret (results_fr rfl) ?_
              refine ⟨?_, hm.upd⟩
              rw [netB_no (fun hn => by have h5 := hn.1; have hr := (hn.2.1 v (by omega)).1 x (by omega); omega)]; rfl
            · skip
              refine wl_guard_yes rfl ?_
              refine wl_y (y_move (by conv => lhs; whnf)) ?_
              refine wl_guard_yes rfl ?_
              refine wl_y (y_gtr rfl rfl) ?_
              refine wl_y (y_pick_false rfl (by conv => lhs; whnf)) ?_
              refine wl_nil ?_
              refine then_normal ?_
              refine wc_cond_dec rfl (fun h5 => ?_) (fun h5 => ?_)
              · skip
                refine wc_seq ?_
                refine wc_region ?_
                refine wl_y (y_assign (by conv => lhs; whnf)) ?_
                refine wl_nil ?_
                refine then_normal ?_
                refine wc_ret ?_
                refine then_ret ?_
                refine block_ret ?_
                refine then_ret ?_
                refine then_ret ?_
                refine block_ret ?_
                refine then_ret ?_
                refine block_ret ?_
                refine then_ret ?_
                refine then_ret ?_
                refine block_ret ?_
                refine then_ret ?_
                refine post_ret (results_fr rfl) ?_
                refine ⟨?_, hm.upd⟩
                rw [netB_no (fun hn => by have h5 := hn.1; have hr := (hn.2.1 v (by omega)).1 x (by omega); omega)]; rfl
              · have h5 : ps.length ≤ 5 := by omega
                have hilt := into_part hx hr hy
                have h32 := pow_le_32 h5
                have hpw : tabR ps v x < ps.length → 2 ^ (tabR ps v x).toNat ≤ 16 := fun h => two_pow_small h h5
                refine wc_skip ?_
                refine then_normal ?_
                refine wc_seq ?_
                refine wc_region ?_
                refine wl_y (y_move (by conv => lhs; whnf)) ?_
                refine wl_y (y_geq rfl rfl) ?_
                refine wl_nil ?_
                refine then_normal ?_
                refine wc_cond_dec rfl (fun h6 => ?_) (fun h6 => ?_)
                · have hpw2 := hpw (by omega)
                  refine wc_region ?_
                  refine wl_y (y_move (by conv => lhs; whnf)) ?_
                  refine wl_y (y_move (by conv => lhs; whnf)) ?_
                  refine wl_y (y_bitI rfl rfl (by omega)) ?_
                  refine wl_y (y_orN rfl rfl (by omega)) ?_
                  refine wl_y (y_assign (by conv => lhs; whnf)) ?_
                  refine wl_nil ?_
                  refine block_normal ?_
                  refine then_normal ?_
                  refine wc_region ?_
                  refine wl_y (y_move (by conv => lhs; whnf)) ?_
                  refine wl_y (y_add64 rfl rfl (by omega)) ?_
                  refine wl_y (y_assign (by conv => lhs; whnf)) ?_
                  refine wl_nil ?_
                  refine next_round (σ := Nat) (x + 1) rfl (by repeat first | exact out_hav | refine out_look rfl ?_ | refine out_havIn rfl ?_) ⟨rfl, (by show _ = Value.int _ ((intoTo ps (2 * v + x + 1) : Nat) : Int); first | (rw [intoTo_pos (by omega) (by omega)]; rfl) | (rw [intoTo_neg (by omega) (by omega)]; rfl)), trivial⟩ ⟨hm, by omega, allLt hy (by omega), .inr h5⟩ (by (try dsimp only); omega)
                · skip
                  refine wc_skip ?_
                  refine block_normal ?_
                  refine then_normal ?_
                  refine wc_region ?_
                  refine wl_y (y_move (by conv => lhs; whnf)) ?_
                  refine wl_y (y_add64 rfl rfl (by omega)) ?_
                  refine wl_y (y_assign (by conv => lhs; whnf)) ?_
                  refine wl_nil ?_
                  refine next_round (σ := Nat) (x + 1) rfl (by repeat first | exact out_hav | refine out_look rfl ?_ | refine out_havIn rfl ?_) ⟨rfl, (by show _ = Value.int _ ((intoTo ps (2 * v + x + 1) : Nat) : Int); first | (rw [intoTo_pos (by omega) (by omega)]; rfl) | (rw [intoTo_neg (by omega) (by omega)]; rfl)), trivial⟩ ⟨hm, by omega, allLt hy (by omega), .inr h5⟩ (by (try dsimp only); omega)
        · obtain rfl : x = 2 := by omega
          have hrow : ∀ y, y < 2 → -1 ≤ tabR ps v y ∧ tabR ps v y < ps.length := hy
          have h5 : ps.length ≤ 5 := by omega
          refine wc_exit ?_
          refine then_exit ?_
          refine then_exit ?_
          refine block_exit ?_
          refine then_normal ?_
          refine wc_seq ?_
          refine wc_region ?_
          refine wl_y (y_move (by conv => lhs; whnf)) ?_
          refine wl_y (y_move (by conv => lhs; whnf)) ?_
          refine wl_y (y_indexAddr (by conv => lhs; whnf) rfl (hl.step hm.upd) (by omega) Try.underlying22 ti27 (by decide)) ?_
          refine wl_y (y_loadPair rfl (hl.step hm.upd) (by omega) Try.underlying27 rfl ti27) ?_
          refine wl_y (y_build2A rfl rfl Try.underlying27 ti27 ⟨_, ti3⟩ rfl rfl) ?_
          refine wl_y (y_eqlPair rfl rfl (by kernel_rfl) Try.underlying27 ti3 Try.underlying3) ?_
          refine wl_nil ?_
          refine then_normal ?_
          refine wc_cond_dec rfl (fun h7 => ?_) (fun h7 => ?_)
          · skip
            refine wc_seq ?_
            refine wc_region ?_
            refine wl_y (y_assign (by conv => lhs; whnf)) ?_
            refine wl_nil ?_
            refine then_normal ?_
            refine wc_ret ?_
            refine block_ret ?_
            refine then_ret ?_
            refine then_ret ?_
            refine block_ret ?_
            refine then_ret ?_
            refine post_ret (results_fr rfl) ?_
            refine ⟨?_, hm.upd⟩
            rw [netB_no (fun hn => (hn.2.1 v (by omega)).2 (by assumption))]; rfl
          · have hrw : RowOk ps v := ⟨hrow, h7⟩
            refine wc_skip ?_
            refine block_normal ?_
            refine then_normal ?_
            refine wc_region ?_
            refine wl_y (y_move (by conv => lhs; whnf)) ?_
            refine wl_y (y_add64 rfl rfl (by omega)) ?_
            refine wl_y (y_assign (by conv => lhs; whnf)) ?_
            refine wl_nil ?_
            refine next_round (σ := Nat) (v + 1) rfl (by repeat first | exact out_hav | refine out_look rfl ?_ | refine out_havIn rfl ?_) ⟨rfl, rfl, trivial⟩ ⟨hm, by omega, allLt hr hrw⟩ (by (try dsimp only); omega)
    · obtain rfl : v = ps.length := by omega
      refine wc_exit ?_
      refine then_exit ?_
      refine then_exit ?_
      refine block_exit ?_
      refine then_normal ?_
      refine wc_seq ?_
      refine wc_region ?_
      refine wl_y (y_move (by conv => lhs; whnf)) ?_
      refine wl_y (y_geq rfl rfl) ?_
      refine wl_split rfl (fun h8 => ?_) (fun h8 => ?_)
      · skip
        refine wl_guard_yes rfl ?_
        refine wl_y (y_move (by conv => lhs; whnf)) ?_
        refine wl_guard_yes rfl ?_
        refine wl_y (y_leq rfl rfl) ?_
        refine wl_y (y_pick_true rfl (by conv => lhs; whnf)) ?_
        refine wl_split rfl (fun h9 => ?_) (fun h9 => ?_)
        · have hbig := Nat.two_pow_pos ps.length
          have h5 : ps.length ≤ 5 := by omega
          have h32 := pow_le_32 h5
          refine wl_guard_yes rfl ?_
          refine wl_y (y_move (by conv => lhs; whnf)) ?_
          refine wl_guard_yes rfl ?_
          refine wl_y (y_move (by conv => lhs; whnf)) ?_
          refine wl_guard_yes rfl ?_
          refine wl_y (y_bitN rfl rfl (by omega)) ?_
          refine wl_guard_yes rfl ?_
          refine wl_y (y_sub1N rfl rfl (by omega)) ?_
          refine wl_guard_yes rfl ?_
          refine wl_y (y_eql rfl rfl) ?_
          refine wl_y (y_pick_true rfl (by conv => lhs; whnf)) ?_
          refine wl_y (y_assign (by conv => lhs; whnf)) ?_
          refine wl_nil ?_
          refine then_normal ?_
          refine wc_ret ?_
          refine post_ret (results_fr rfl) ?_
          refine ⟨?_, hm.upd⟩
          show _ = Ending.returned (.bool (decide (NetOk ps)))
          refine congrArg (fun b => Ending.returned (.bool b)) (decide_eq_decide.2 ?_)
          exact ⟨fun h => ⟨⟨by omega, h5⟩, hr, Int.ofNat_inj.1 h⟩, fun h => Int.ofNat_inj.2 h.2.2⟩
        · skip
          refine wl_guard_no rfl ?_
          refine wl_guard_no rfl ?_
          refine wl_guard_no rfl ?_
          refine wl_guard_no rfl ?_
          refine wl_guard_no rfl ?_
          refine wl_y (y_pick_false rfl (by conv => lhs; whnf)) ?_
          refine wl_y (y_assign (by conv => lhs; whnf)) ?_
          refine wl_nil ?_
          refine then_normal ?_
          refine wc_ret ?_
          refine post_ret (results_fr rfl) ?_
          refine ⟨?_, hm.upd⟩
          rw [netB_no (fun hn => by have h5 := hn.1; omega)]; rfl
      · skip
        refine wl_guard_no rfl ?_
        refine wl_guard_no rfl ?_
        refine wl_y (y_pick_false rfl (by conv => lhs; whnf)) ?_
        refine wl_y (y_move (by conv => lhs; whnf)) ?_
        refine wl_guard_no rfl ?_
        refine wl_guard_no rfl ?_
        refine wl_guard_no rfl ?_
        refine wl_guard_no rfl ?_
        refine wl_guard_no rfl ?_
        refine wl_y (y_pick_false rfl (by conv => lhs; whnf)) ?_
        refine wl_y (y_assign (by conv => lhs; whnf)) ?_
        refine wl_nil ?_
        refine then_normal ?_
        refine wc_ret ?_
        refine post_ret (results_fr rfl) ?_
        refine ⟨?_, hm.upd⟩
        rw [netB_no (fun hn => by have h5 := hn.1; omega)]; rfl

set_option maxHeartbeats 4000000 in
theorem Index_calls (w : World) (vl : Value) (bs : List Bool) (bb : Bool) (hl : SlAt w 1 vl bs.length (bools bs)) (hbl : bs.length ≤ 1000000) :
    Cl Try.prog 97 [vl, .bool bb].toArray w (Ret w (.int .i64 (idxB bs bb))) := by
  have hm : Mem w [] [] w := Mem.init w
  refine cl_enter Try.func97 rfl Try.ntmps97 rfl ?_
  refine wc_seq ?_
  refine wc_region ?_
  refine wl_y (y_assign (by conv => lhs; whnf)) ?_
  refine wl_nil ?_
  refine then_normal ?_
  refine wc_seq ?_
  refine wc_seq ?_
  refine wc_region ?_
  refine wl_y (y_move (by conv => lhs; whnf)) ?_
  refine wl_y (y_lenSl (by conv => lhs; whnf) (hl.step hm.upd) Try.underlying114) ?_
  refine wl_y (y_move (by conv => lhs; whnf)) ?_
  refine wl_nil ?_
  refine then_normal ?_
  refine wc_block ?_
  refine wc_loop [4, 5, 8, 9, 10, 11, 12, 13, 14, 15, 16, 17, 18] (fun (i : Nat) => [(8, .int .i64 (i : Int))]) (fun (i : Nat) W => Mem w [] [] W ∧ i ≤ bs.length ∧ ∀ j, j < i → ¬ bb = bs.getD j false) (fun (i : Nat) => bs.length - i) ((0) : Nat) ?_ ?_ ?_
  · exact ⟨rfl, trivial⟩
  · exact ⟨hm, Nat.zero_le _, by omega⟩
  · rintro i u W ⟨hm, hi, hj⟩
    refine wc_seq ?_
    refine wc_region ?_
    refine wl_y (y_lss rfl rfl) ?_
    refine wl_nil ?_
    refine then_normal ?_
    refine wc_seq ?_
    refine wc_cond_dec rfl (fun h1 => ?_) (fun h1 => ?_)
    · skip
      refine wc_skip ?_
      refine then_normal ?_
      refine wc_seq ?_
      refine wc_block ?_
      refine wc_seq ?_
      refine wc_region ?_
      refine wl_y (y_move (by conv => lhs; whnf)) ?_
      refine wl_y (y_assign (by conv => lhs; whnf)) ?_
      refine wl_nil ?_
      refine then_normal ?_
      refine wc_seq ?_
      refine wc_region ?_
      refine wl_y (y_move (by conv => lhs; whnf)) ?_
      refine wl_y (y_move (by conv => lhs; whnf)) ?_
      refine wl_y (y_move (by conv => lhs; whnf)) ?_
      refine wl_y (y_indexAddr (by conv => lhs; whnf) rfl (hl.step hm.upd) (by omega) Try.underlying114 ti4 (by decide)) ?_
      refine wl_y (y_loadSl rfl (hl.step hm.upd) (by first | exact bools_atN (by omega) | exact bools_atI (by omega)) Try.underlying4 rfl) ?_
      refine wl_y (y_eqlB rfl rfl Try.underlying4) ?_
      refine wl_nil ?_
      refine then_normal ?_
      refine wc_cond_dec rfl (fun h2 => ?_) (fun h2 => ?_)
      · skip
        refine wc_seq ?_
        refine wc_region ?_
        refine wl_y (y_move (by conv => lhs; whnf)) ?_
        refine wl_y (y_assign (by conv => lhs; whnf)) ?_
        refine wl_nil ?_
        refine then_normal ?_
        refine wc_ret ?_
        refine block_ret ?_
        refine then_ret ?_
        refine then_ret ?_
        refine block_ret ?_
        refine then_ret ?_
        refine post_ret (results_fr rfl) ?_
        refine ⟨?_, hm.upd⟩
        rw [idxB_at (i := i) (by omega) (by assumption) hj]; rfl
      · skip
        refine wc_skip ?_
        refine block_normal ?_
        refine then_normal ?_
        refine wc_region ?_
        refine wl_y (y_add64 rfl rfl (by omega)) ?_
        refine wl_y (y_move (by conv => lhs; whnf)) ?_
        refine wl_nil ?_
        refine next_round (σ := Nat) (i + 1) rfl (by repeat first | exact out_hav | refine out_look rfl ?_ | refine out_havIn rfl ?_) ⟨rfl, trivial⟩ ⟨hm, by omega, allLt hj (by assumption)⟩ (by (try dsimp only); omega)
    · obtain rfl : i = bs.length := by omega
      refine wc_exit ?_
      refine then_exit ?_
      refine then_exit ?_
      refine block_exit ?_
      refine then_normal ?_
      refine wc_seq ?_
      refine wc_region ?_
      refine wl_y (y_assign (by conv => lhs; whnf)) ?_
      refine wl_nil ?_
      refine then_normal ?_
      refine wc_ret ?_
      refine post_ret (results_fr rfl) ?_
      refine ⟨?_, hm.upd⟩
      rw [idxB_none hj]; rfl

set_option maxHeartbeats 4000000 in
theorem Contains_calls (w : World) (vl : Value) (bs : List Bool) (bb : Bool) (hl : SlAt w 1 vl bs.length (bools bs)) (hbl : bs.length ≤ 1000000) :
    Cl Try.prog 83 [vl, .bool bb].toArray w (Ret w (.bool (decide (bb ∈ bs)))) := by
  have hm : Mem w [] [] w := Mem.init w
  refine cl_enter Try.func83 rfl Try.ntmps83 rfl ?_
  refine wc_seq ?_
  refine wc_region ?_
  refine wl_y (y_assign (by conv => lhs; whnf)) ?_
  refine wl_nil ?_
  refine then_normal ?_
  refine wc_seq ?_
  refine wc_region ?_
  refine wl_y (y_move (by conv => lhs; whnf)) ?_
  refine wl_y (y_move (by conv => lhs; whnf)) ?_
  refine wl_callR hm hb97 (Index_calls _ _ _ _ (hl.step hm.upd) hbl) rfl rfl (fun W hm hu => ?_)
  refine wl_y (y_geq rfl rfl) ?_
  refine wl_y (y_assign (by conv => lhs; whnf)) ?_
  refine wl_nil ?_
  refine then_normal ?_
  refine wc_ret ?_
  refine post_ret (results_fr rfl) ?_
  refine ⟨?_, hm.upd⟩
  rw [← idxB_ge]; rfl

def opened (ps : List (Int × Int)) (w : World) (e : Ending) (w' : World) : Prop :=
  if NetOk ps then ∃ bn nx, e = .returned (.tuple #[.pointer (some ⟨bn, 0, none⟩), .int .i64 0]) ∧ Mem w [] [.blk bn 94 (netCells ps.length nx)] w' ∧ Net ps nx
  else e = .returned (.tuple #[.pointer none, .int .i64 70]) ∧ Upd [] w w'

set_option maxHeartbeats 4000000 in
theorem open_calls (w : World) (vl : Value) (ps : List (Int × Int)) (hl : SlAt w 2 vl ps.length (prs ps)) :
    Cl Try.prog 54 [vl].toArray w (opened ps w) := by
  have hm : Mem w [] [] w := Mem.init w
  refine cl_enter Try.func54 rfl Try.ntmps54 rfl ?_
  refine wc_seq ?_
  refine wc_region ?_
  refine wl_y (y_assign (by conv => lhs; whnf)) ?_
  refine wl_y (y_assign (by conv => lhs; whnf)) ?_
  refine wl_nil ?_
  refine then_normal ?_
  refine wc_seq ?_
  refine wc_seq ?_
  refine wc_region ?_
  refine wl_y (y_move (by conv => lhs; whnf)) ?_
  refine wl_y (y_lenSl (by conv => lhs; whnf) (hl.step hm.upd) Try.underlying22) ?_
  refine wl_y (y_lss rfl rfl) ?_
  refine wl_split rfl (fun h1 => ?_) (fun h1 => ?_)
  · skip
    refine wl_guard_no rfl ?_
    refine wl_guard_no rfl ?_
    refine wl_guard_no rfl ?_
    refine wl_y (y_pick_true rfl (by conv => lhs; whnf)) ?_
    refine wl_nil ?_
    refine then_normal ?_
    refine wc_cond_true rfl ?_
    refine wc_seq ?_
    refine wc_region ?_
    refine wl_y (y_assign (by conv => lhs; whnf)) ?_
    refine wl_y (y_assign (by conv => lhs; whnf)) ?_
    refine wl_nil ?_
    refine then_normal ?_
    refine wc_ret ?_
    refine then_ret ?_
    refine post_ret (results_fr2 rfl) ?_
    unfold opened
    rw [if_neg (fun hn : NetOk ps => by have h5 := hn.1; omega)]
    exact ⟨rfl, hm.upd⟩
  · skip
    refine wl_guard_yes rfl ?_
    refine wl_y (y_move (by conv => lhs; whnf)) ?_
    refine wl_guard_yes rfl ?_
    refine wl_y (y_lenSl (by conv => lhs; whnf) (hl.step hm.upd) Try.underlying22) ?_
    refine wl_guard_yes rfl ?_
    refine wl_y (y_gtr rfl rfl) ?_
    refine wl_y (y_pick_false rfl (by conv => lhs; whnf)) ?_
    refine wl_nil ?_
    refine then_normal ?_
    refine wc_cond_dec rfl (fun h2 => ?_) (fun h2 => ?_)
    · skip
      refine wc_seq ?_
      refine wc_region ?_
      refine wl_y (y_assign (by conv => lhs; whnf)) ?_
      refine wl_y (y_assign (by conv => lhs; whnf)) ?_
      refine wl_nil ?_
      refine then_normal ?_
      refine wc_ret ?_
      refine then_ret ?_
      refine post_ret (results_fr2 rfl) ?_
      unfold opened
      rw [if_neg (fun hn : NetOk ps => by have h5 := hn.1; omega)]
      exact ⟨rfl, hm.upd⟩
    · have h5 : 1 ≤ ps.length ∧ ps.length ≤ 5 := by omega
      refine wc_skip ?_
      refine then_normal ?_
      refine wc_seq ?_
      refine wc_region ?_
      refine wl_y (y_move (by conv => lhs; whnf)) ?_
      refine wl_y (y_lenSl (by conv => lhs; whnf) (hl.step hm.upd) Try.underlying22) ?_
      refine wl_y (y_buildL (cells := (netCells ps.length (List.replicate 10 0)).toArray) rfl (by kernel_rfl)) ?_
      refine wl_box hm (by conv => lhs; whnf) (fun W b21 hm hb21 hu => ?_)
      refine wl_y (y_assign (by conv => lhs; whnf)) ?_
      refine wl_nil ?_
      refine then_normal ?_
      refine wc_seq ?_
      refine wc_region ?_
      refine wl_y (y_move (by conv => lhs; whnf)) ?_
      refine wl_y (y_lenSl (by conv => lhs; whnf) (hl.step hm.upd) Try.underlying22) ?_
      refine wl_makeZ hm rfl rfl Try.underlying114 ti4 rfl (by omega) (by omega) (fun W v24 hm hu => ?_)
      refine wl_y (y_assign (by conv => lhs; whnf)) ?_
      refine wl_nil ?_
      refine then_normal ?_
      refine wc_seq ?_
      refine wc_seq ?_
      refine wc_region ?_
      refine wl_y (y_move (by conv => lhs; whnf)) ?_
      refine wl_y (y_lenSl (by conv => lhs; whnf) (hl.step hm.upd) Try.underlying22) ?_
      refine wl_y (y_move (by conv => lhs; whnf)) ?_
      refine wl_nil ?_
      refine then_normal ?_
      refine wc_block ?_
      refine wc_loop [2, 3, 6, 7, 8, 9, 27, 28, 29, 30, 31, 32, 33, 34, 35, 36, 37, 38, 39, 40, 41, 42, 43, 44, 45, 46, 47, 48, 49, 50, 51, 52, 53, 54, 55, 56, 57, 58, 59, 60, 61, 62, 63, 64, 65, 66, 67] (fun ((i, nx, sb) : Nat × List Int × List Bool) => [(27, .int .i64 (i : Int))]) (fun ((i, nx, sb) : Nat × List Int × List Bool) W => Mem w [] [.blk b21 94 (netCells ps.length nx), .own 4 1 v24 ps.length (bools sb)] W ∧ i ≤ ps.length ∧ NxOk ps (2 * i) nx ∧ SbOk ps ps.length (2 * i) sb ∧ ∀ u, u < i → RowOk ps u) (fun ((i, nx, sb) : Nat × List Int × List Bool) => ps.length - i) ((0, List.replicate 10 0, List.replicate ps.length false) : Nat × List Int × List Bool) ?_ ?_ ?_
      · exact ⟨rfl, trivial⟩
      · exact ⟨by rw [← bools_rep]; exact hm, Nat.zero_le _, NxOk.init ps, SbOk.init ps _, by omega⟩
      · rintro ⟨i, nx, sb⟩ u W ⟨hm, hi, hnx, hsb, hr⟩
        refine wc_seq ?_
        refine wc_region ?_
        refine wl_y (y_lss rfl rfl) ?_
        refine wl_nil ?_
        refine then_normal ?_
        refine wc_seq ?_
        refine wc_cond_dec rfl (fun h3 => ?_) (fun h3 => ?_)
        · skip
          refine wc_skip ?_
          refine then_normal ?_
          refine wc_seq ?_
          refine wc_block ?_
          refine wc_seq ?_
          refine wc_region ?_
          refine wl_y (y_move (by conv => lhs; whnf)) ?_
          refine wl_y (y_indexAddr (by conv => lhs; whnf) rfl (hl.step hm.upd) (by omega) Try.underlying22 ti27 (by decide)) ?_
          refine wl_y (y_loadPair rfl (hl.step hm.upd) (by omega) Try.underlying27 rfl ti27) ?_
          refine wl_alloc hm ti27 (fun W b7 hm hb7 hu => ?_)
          refine wl_y (y_assign (by conv => lhs; whnf)) ?_
          refine wl_storeBlk (i := 2) hm rfl rfl rfl ti27 rfl rfl (by first | exact ints_one _ | decide | simp [Value.cells, Value.oneCell']) (fun W hm => ?_)
          refine wl_nil ?_
          refine then_normal ?_
          refine wc_seq ?_
          refine wc_seq ?_
          refine wc_region ?_
          refine wl_y (y_indexArr rfl rfl (by omega) Try.underlying27 ti3) ?_
          refine wl_y (y_load rfl (hm.blk_cell 2 rfl rfl) Try.underlying3 rfl) ?_
          refine wl_y (y_indexArr rfl rfl (by omega) Try.underlying27 ti3) ?_
          refine wl_y (y_load rfl (hm.blk_cell 2 rfl rfl) Try.underlying3 rfl) ?_
          refine wl_y (y_max rfl rfl) ?_
          refine wl_y (y_lss rfl rfl) ?_
          refine wl_nil ?_
          refine then_normal ?_
          refine wc_cond_dec rfl (fun h4 => ?_) (fun h4 => ?_)
          · skip
            refine wc_seq ?_
            refine wc_region ?_
            refine wl_y (y_assign (by conv => lhs; whnf)) ?_
            refine wl_y (y_assign (by conv => lhs; whnf)) ?_
            refine wl_nil ?_
            refine then_normal ?_
            refine wc_ret ?_
            refine then_ret ?_
            refine block_ret ?_
            refine then_ret ?_
            refine then_ret ?_
            refine block_ret ?_
            refine then_ret ?_
            refine post_ret (results_fr2 rfl) ?_
            unfold opened
            rw [if_neg (fun hn : NetOk ps => by have hr := hn.2.1 i (by omega); have hr0 := hr.1 0 (by omega); have hr1 := hr.1 1 (by omega); have hr2 := hr.2; rw [tabR_0] at hr0; rw [tabR_1] at hr1; rw [tabR_0, tabR_1] at hr2; omega)]
            exact ⟨rfl, hm.upd⟩
          · have hnn : ¬ (tabR ps i 0 = -1 ∧ tabR ps i 1 = -1) := by simp only [tabR_0, tabR_1]; omega
            refine wc_skip ?_
            refine then_normal ?_
            refine wc_seq ?_
            refine wc_region ?_
            refine wl_y (y_loadBlk rfl (hm.at (i := 2) rfl) Try.underlying27 rfl ti27) ?_
            refine wl_y (y_move (by conv => lhs; whnf)) ?_
            refine wl_nil ?_
            refine then_normal ?_
            refine wc_block ?_
            refine wc_loop [2, 3, 8, 9, 39, 40, 41, 42, 43, 44, 45, 46, 47, 48, 49, 50, 51, 52, 53, 54, 55, 56, 57, 58, 59, 60, 61, 62, 63, 64, 65, 66] (fun ((x, nx, sb) : Nat × List Int × List Bool) => [(39, .int .i64 (x : Int))]) (fun ((x, nx, sb) : Nat × List Int × List Bool) W => Mem w [] [.blk b21 94 (netCells ps.length nx), .own 4 1 v24 ps.length (bools sb), .blk b7 27 [.int .i64 (ps.getD i (0, 0)).1, .int .i64 (ps.getD i (0, 0)).2]] W ∧ x ≤ 2 ∧ NxOk ps (2 * i + x) nx ∧ SbOk ps ps.length (2 * i + x) sb ∧ ∀ y, y < x → -1 ≤ tabR ps i y ∧ tabR ps i y < ps.length) (fun ((x, nx, sb) : Nat × List Int × List Bool) => 2 - x) ((0, nx, sb) : Nat × List Int × List Bool) ?_ ?_ ?_
            · exact ⟨rfl, trivial⟩
            · exact ⟨hm, Nat.zero_le _, hnx, hsb, by omega⟩
            · rintro ⟨x, nx, sb⟩ u W ⟨hm, hx, hnx, hsb, hy⟩
              refine wc_seq ?_
              refine wc_region ?_
              refine wl_y (y_lss rfl rfl) ?_
              refine wl_nil ?_
              refine then_normal ?_
              refine wc_seq ?_
              refine wc_cond_dec rfl (fun h5 => ?_) (fun h5 => ?_)
              · skip
                refine wc_skip ?_
                refine then_normal ?_
                refine wc_seq ?_
                refine wc_block ?_
                refine wc_seq ?_
                refine wc_region ?_
                refine wl_y (y_move (by conv => lhs; whnf)) ?_
                refine wl_y (y_index (v := .int .i64 (tabR ps i x)) rfl rfl (by omega) Try.underlying27 ti3 Try.underlying3 rfl (pair_at (by omega))) ?_
                refine wl_y (y_assign (by conv => lhs; whnf)) ?_
                refine wl_y (y_assign (by conv => lhs; whnf)) ?_
                refine wl_nil ?_
                refine then_normal ?_
                refine wc_seq ?_
                refine wc_seq ?_
                refine wc_region ?_
                refine wl_y (y_move (by conv => lhs; whnf)) ?_
                refine wl_y (y_lss rfl rfl) ?_
                refine wl_split rfl (fun h6 => ?_) (fun h6 => ?_)
                · skip
                  refine wl_guard_no rfl ?_
                  refine wl_guard_no rfl ?_
                  refine wl_guard_no rfl ?_
                  refine wl_guard_no rfl ?_
                  refine wl_guard_no rfl ?_
                  refine wl_guard_no rfl ?_
                  refine wl_y (y_pick_true rfl (by conv => lhs; whnf)) ?_
                  refine wl_nil ?_
                  refine then_normal ?_
                  refine wc_cond_true rfl ?_
                  refine wc_seq ?_
                  refine wc_region ?_
                  refine wl_y (y_assign (by conv => lhs; whnf)) ?_
                  refine wl_y (y_assign (by conv => lhs; whnf)) ?_
                  refine wl_nil ?_
                  refine then_normal ?_
                  refine wc_ret ?_
                  refine then_ret ?_
                  refine block_ret ?_
                  refine then_ret ?_
                  refine then_ret ?_
                  refine block_ret ?_
                  refine block_ret ?_
                  refine then_ret ?_
                  refine then_ret ?_
                  refine block_ret ?_
                  refine then_ret ?_
                  refine post_ret (results_fr2 rfl) ?_
                  unfold opened
                  rw [if_neg (fun hn : NetOk ps => by have h5 := hn.1; have hr := hn.2.1 i (by omega); have hr0 := hr.1 x (by omega); omega)]
                  exact ⟨rfl, hm.upd⟩
                · skip
                  refine wl_guard_yes rfl ?_
                  refine wl_y (y_move (by conv => lhs; whnf)) ?_
                  refine wl_guard_yes rfl ?_
                  refine wl_y (y_move (by conv => lhs; whnf)) ?_
                  refine wl_guard_yes rfl ?_
                  refine wl_y (y_nilCheck rfl) ?_
                  refine wl_guard_yes rfl ?_
                  refine wl_y (y_fieldAddr (off := 0) (ft := 3) rfl Try.underlying94 rfl ti3) ?_
                  refine wl_guard_yes rfl ?_
                  refine wl_y (y_load rfl (hm.blk_cell 0 rfl rfl) Try.underlying3 rfl) ?_
                  refine wl_guard_yes rfl ?_
                  refine wl_y (y_geq rfl rfl) ?_
                  refine wl_y (y_pick_false rfl (by conv => lhs; whnf)) ?_
                  refine wl_nil ?_
                  refine then_normal ?_
                  refine wc_cond_dec rfl (fun h7 => ?_) (fun h7 => ?_)
                  · skip
                    refine wc_seq ?_
                    refine wc_region ?_
                    refine wl_y (y_assign (by conv => lhs; whnf)) ?_
                    refine wl_y (y_assign (by conv => lhs; whnf)) ?_
                    refine wl_nil ?_
                    refine then_normal ?_
                    refine wc_ret ?_
                    refine then_ret ?_
                    refine block_ret ?_
                    refine then_ret ?_
                    refine then_ret ?_
                    refine block_ret ?_
                    refine block_ret ?_
                    refine then_ret ?_
                    refine then_ret ?_
                    refine block_ret ?_
                    refine then_ret ?_
                    refine post_ret (results_fr2 rfl) ?_
                    unfold opened
                    rw [if_neg (fun hn : NetOk ps => by have h5 := hn.1; have hr := hn.2.1 i (by omega); have hr0 := hr.1 x (by omega); omega)]
                    exact ⟨rfl, hm.upd⟩
                  · skip
                    refine wc_skip ?_
                    refine then_normal ?_
                    refine wc_seq ?_
                    refine wc_region ?_
                    refine wl_y (y_move (by conv => lhs; whnf)) ?_
                    refine wl_y (y_move (by conv => lhs; whnf)) ?_
                    refine wl_y (y_move (by conv => lhs; whnf)) ?_
                    refine wl_y (y_move (by conv => lhs; whnf)) ?_
                    refine wl_y (y_nilCheck rfl) ?_
                    refine wl_y (y_fieldAddr (off := 1) (ft := 92) rfl Try.underlying94 rfl ti92) ?_
                    refine wl_y (y_indexArr rfl rfl (by omega) Try.underlying92 ti27) ?_
                    refine wl_y (y_indexArr rfl rfl (by omega) Try.underlying27 ti3) ?_
                    refine wl_store1 (i := 0) hm rfl (v := .int .i64 (tabR ps i x)) rfl rfl ti3 (by simp [netCells, hnx.1]; omega) rfl rfl (fun W hm => ?_)
                    rw [netCells_set] at hm
                    refine wl_nil ?_
                    refine then_normal ?_
                    refine wc_seq ?_
                    refine wc_region ?_
                    refine wl_y (y_move (by conv => lhs; whnf)) ?_
                    refine wl_y (y_geq rfl rfl) ?_
                    refine wl_nil ?_
                    refine then_normal ?_
                    refine wc_cond_dec rfl (fun h8 => ?_) (fun h8 => ?_)
                    · have hlen : sb.length = ps.length := hsb.1
                      refine wc_region ?_
                      refine wl_y (y_move (by conv => lhs; whnf)) ?_
                      refine wl_y (y_move (by conv => lhs; whnf)) ?_
                      refine wl_y (y_indexAddr (by conv => lhs; whnf) rfl (hm.slAt 1 rfl) (by omega) Try.underlying114 ti4 (by decide)) ?_
                      refine wl_storeOwn1 (i := 1) (v := .bool true) hm rfl rfl rfl ti4 (by simp; omega) rfl rfl (fun W hm => ?_)
                      rw [bools_setI] at hm
                      refine wl_nil ?_
                      refine block_normal ?_
                      refine then_normal ?_
                      refine wc_region ?_
                      refine wl_y (y_add64 rfl rfl (by omega)) ?_
                      refine wl_y (y_move (by conv => lhs; whnf)) ?_
                      refine wl_nil ?_
                      refine next_round (σ := Nat × List Int × List Bool) (x + 1, nx.set (2 * i + x) (tabR ps i x), sb.set (tabR ps i x).toNat true) rfl (by repeat first | exact out_hav | refine out_look rfl ?_ | refine out_havIn rfl ?_) ⟨rfl, trivial⟩ ⟨hm, by omega, hnx.set (by omega) (by omega), hsb.set (by omega) (by omega) (by omega), allLt hy (by omega)⟩ (by (try dsimp only); omega)
                    · skip
                      refine wc_skip ?_
                      refine block_normal ?_
                      refine then_normal ?_
                      refine wc_region ?_
                      refine wl_y (y_add64 rfl rfl (by omega)) ?_
                      refine wl_y (y_move (by conv => lhs; whnf)) ?_
                      refine wl_nil ?_
                      refine next_round (σ := Nat × List Int × List Bool) (x + 1, nx.set (2 * i + x) (tabR ps i x), sb) rfl (by repeat first | exact out_hav | refine out_look rfl ?_ | refine out_havIn rfl ?_) ⟨rfl, trivial⟩ ⟨hm, by omega, hnx.set (by omega) (by omega), hsb.keep (by omega) (by omega), allLt hy (by omega)⟩ (by (try dsimp only); omega)
              · obtain rfl : x = 2 := by omega
                refine wc_exit ?_
                refine then_exit ?_
                refine then_exit ?_
                refine block_exit ?_
                refine block_normal ?_
                refine then_normal ?_
                refine wc_region ?_
                refine wl_y (y_add64 rfl rfl (by omega)) ?_
                refine wl_y (y_move (by conv => lhs; whnf)) ?_
                refine wl_nil ?_
                have hm := hm.take 2
                refine next_round (σ := Nat × List Int × List Bool) (i + 1, nx, sb) rfl (by repeat first | exact out_hav | refine out_look rfl ?_ | refine out_havIn rfl ?_) ⟨rfl, trivial⟩ ⟨hm, by omega, hnx, hsb, allLt hr ⟨hy, hnn⟩⟩ (by (try dsimp only); omega)
        · obtain rfl : i = ps.length := by omega
          refine wc_exit ?_
          refine then_exit ?_
          refine then_exit ?_
          refine block_exit ?_
          refine then_normal ?_
          refine wc_seq ?_
          refine wc_seq ?_
          refine wc_region ?_
          refine wl_y (y_move (by conv => lhs; whnf)) ?_
          refine wl_callR hm hb83 (Contains_calls _ _ _ _ (by have := hm.slAt 1 rfl; rw [hsb.1]; exact this) (by rw [hsb.1]; omega)) rfl rfl (fun W hm hu => ?_)
          refine wl_nil ?_
          refine then_normal ?_
          refine wc_cond_dec rfl (fun h9 => ?_) (fun h9 => ?_)
          · have hno := netOk_not hsb h9
            refine wc_seq ?_
            refine wc_region ?_
            refine wl_y (y_assign (by conv => lhs; whnf)) ?_
            refine wl_y (y_assign (by conv => lhs; whnf)) ?_
            refine wl_nil ?_
            refine then_normal ?_
            refine wc_ret ?_
            refine then_ret ?_
            refine post_ret (results_fr2 rfl) ?_
            unfold opened
            rw [if_neg hno]
            exact ⟨rfl, hm.upd⟩
          · have hyes := netOk_of h5 hr hsb h9
            refine wc_skip ?_
            refine then_normal ?_
            refine wc_seq ?_
            refine wc_region ?_
            refine wl_y (y_move (by conv => lhs; whnf)) ?_
            refine wl_y (y_assign (by conv => lhs; whnf)) ?_
            refine wl_y (y_assign (by conv => lhs; whnf)) ?_
            refine wl_nil ?_
            refine then_normal ?_
            refine wc_ret ?_
            refine post_ret (results_fr2 rfl) ?_
            unfold opened
            rw [if_pos hyes]
            exact ⟨b21, nx, rfl, hm.take 1, ⟨hyes, hnx⟩⟩
end Go.Proofs.Ytofpdjpenmhbnaa
namespace Go.Proofs.Ytofpdjpenmhbnaa
open Go Go.Kx
theorem hb54 : HasBody Try.prog 54 := hasBody Try.func54 (by kernel_rfl) (by kernel_rfl)
theorem hb55 : HasBody Try.prog 55 := hasBody Try.func55 (by kernel_rfl) (by kernel_rfl)
theorem hb74 : HasBody Try.prog 74 := hasBody Try.func74 (by kernel_rfl) (by kernel_rfl)
theorem open_yes (w : World) (vl : Value) (ps : List (Int × Int)) (hl : SlAt w 2 vl ps.length (prs ps)) (hok : NetOk ps) :
    Cl Try.prog 54 [vl].toArray w (fun e w' => ∃ v E, e = .returned v ∧ Mem w [] E w' ∧ ∃ bn nx, v = .tuple #[.pointer (some ⟨bn, 0, none⟩), .int .i64 0] ∧ E = [.blk bn 94 (netCells ps.length nx)] ∧ Net ps nx) :=
  (open_calls w vl ps hl).mono fun e w' h => by
    unfold opened at h; rw [if_pos hok] at h
    obtain ⟨bn, nx, h1, h2, h3⟩ := h
    exact ⟨_, _, h1, h2, bn, nx, rfl, rfl, h3⟩
theorem open_no (w : World) (vl : Value) (ps : List (Int × Int)) (hl : SlAt w 2 vl ps.length (prs ps)) (hok : ¬ NetOk ps) :
    Cl Try.prog 54 [vl].toArray w (Ret w (.tuple #[.pointer none, .int .i64 70])) :=
  (open_calls w vl ps hl).mono fun e w' h => by
    unfold opened at h; rw [if_neg hok] at h; exact h

end Go.Proofs.Ytofpdjpenmhbnaa
namespace Go.Proofs.Ytofpdjpenmhbnaa
open Go Go.Kx
theorem hb92 : HasBody Try.prog 92 := hasBody Try.func92 (by kernel_rfl) (by kernel_rfl)
def Hp92 (bn len lp b2 b3 b4 bY : Nat) : List En := [.blk b2 72 [pb bn], .blk b3 3 [.int .i64 (len : Int)], .blk bY 44 [.func (.yield lp) #[] #[]], .blk b4 129 [.func (.func 92) #[] [pb b3, pb bY, pb b4, pb b2].toArray]]
def Words2 (J : List Value → List Nat → World → Prop) (L : List Value) (nx : List Int) (bn k len lp b2 b3 b4 bY r : Nat) : Prop :=
  ∀ (w : World) (s : ByteArray) (set : Nat) (ys rest : List Value) (F : List Nat), L = ys ++ strs (wordsFrom (tabN nx) k r s set) ++ rest → J ys F w → Free (Hp92 bn len lp b2 b3 b4 bY) F w → s.size + r = len → set < 2 ^ k →
    Cl Try.prog 92 [.string s, .int .i64 (set : Int), pb b3, pb bY, pb b4, pb b2].toArray w (fun e W' => e = .returned (.bool true) ∧ ∃ F', J (ys ++ strs (wordsFrom (tabN nx) k r s set)) F' W' ∧ Gr F w F' W')

set_option maxHeartbeats 4000000 in
theorem words2_step (J : List Value → List Nat → World → Prop) (D : List Nat → World → Prop) (L : List Value) (nx : List Int) (bn k len lp b2 b3 b4 bY : Nat) (hY : YieldsTo Try.prog lp L J D) (hD0 : ∀ F W, ¬ D F W) (hnet : ∀ ys F W, J ys F W → NetAt W bn k nx) (ho : Okf k (tabN nx)) (hlen : len ≤ 100) (r : Nat)
    (ih : ∀ r', r = r' + 1 → Words2 J L nx bn k len lp b2 b3 b4 bY r') : Words2 J L nx bn k len lp b2 b3 b4 bY r := by
  intro w s set ys rest F hL hJ hfree hsz hset
  have h97 : (⟨#[97]⟩ : ByteArray).size = 1 := rfl
  have h98 : (⟨#[98]⟩ : ByteArray).size = 1 := rfl
  have h32 := pow_le_32 ho.k5
  have hb2 : ∀ {F W}, Free (Hp92 bn len lp b2 b3 b4 bY) F W → (En.blk b2 72 [pb bn]).holds W := fun h => (h _ (by simp [Hp92])).1
  have hb3 : ∀ {F W}, Free (Hp92 bn len lp b2 b3 b4 bY) F W → (En.blk b3 3 [.int .i64 (len : Int)]).holds W := fun h => (h _ (by simp [Hp92])).1
  have hbY : ∀ {F W}, Free (Hp92 bn len lp b2 b3 b4 bY) F W → (En.blk bY 44 [.func (.yield lp) #[] #[]]).holds W := fun h => (h _ (by simp [Hp92])).1
  have hb4 : ∀ {F W}, Free (Hp92 bn len lp b2 b3 b4 bY) F W → (En.blk b4 129 [.func (.func 92) #[] [pb b3, pb bY, pb b4, pb b2].toArray]).holds W := fun h => (h _ (by simp [Hp92])).1
  have hm : Mem w [] [] w := Mem.init w
  refine cl_enter Try.func92 rfl Try.ntmps92 rfl ?_
  refine wc_seq ?_
  refine wc_region ?_
  refine wl_y (y_assign (by conv => lhs; whnf)) ?_
  refine wl_nil ?_
  refine then_normal ?_
  refine wc_seq ?_
  refine wc_seq ?_
  refine wc_region ?_
  refine wl_y (y_move (by conv => lhs; whnf)) ?_
  refine wl_y (y_eql rfl rfl) ?_
  refine wl_nil ?_
  refine then_normal ?_
  refine wc_cond_dec rfl (fun h1 => ?_) (fun h1 => ?_)
  · have h0 : set = 0 := by omega
    refine wc_seq ?_
    refine wc_region ?_
    refine wl_y (y_assign (by conv => lhs; whnf)) ?_
    refine wl_nil ?_
    refine then_normal ?_
    refine wc_ret ?_
    refine then_ret ?_
    refine post_ret (results_fr rfl) ?_
    refine ⟨rfl, F, ?_, Gr.of hm.upd⟩
    rw [h0, words_zero, show strs [] = [] from rfl, List.append_nil]
    exact hY.st _ _ _ _ hJ hm.upd
  · have hne : ¬ set = 0 := by omega
    refine wc_skip ?_
    refine then_normal ?_
    refine wc_seq ?_
    refine wc_seq ?_
    refine wc_region ?_
    refine wl_y (y_move (by conv => lhs; whnf)) ?_
    refine wl_y (y_lenStr (by conv => lhs; whnf) Try.underlying9) ?_
    refine wl_y (y_load rfl (blk_cell (hb3 (hfree.upd hm.upd)) rfl) Try.underlying3 rfl) ?_
    refine wl_y (y_eql rfl rfl) ?_
    refine wl_nil ?_
    refine then_normal ?_
    refine wc_cond_dec rfl (fun h2 => ?_) (fun h2 => ?_)
    · obtain rfl : r = 0 := by omega
      refine wc_seq ?_
      refine wc_region ?_
      refine wl_y (y_load rfl (blk_cell (hbY (hfree.upd hm.upd)) rfl) Try.underlying44 rfl) ?_
      refine wl_y (y_move (by conv => lhs; whnf)) ?_
      refine wl_yield hY (ys := ys) (rest' := rest) (v := .string s) (by rw [hL, words_last s hne]; simp [strs]) (hY.st _ _ _ _ hJ hm.upd) rfl rfl (fun W F1 hg1 hJ1 => ?_) (fun _ _ _ hD => (hD0 _ _ hD).elim)
      refine wl_y (y_assign (by conv => lhs; whnf)) ?_
      refine wl_nil ?_
      refine then_normal ?_
      refine wc_ret ?_
      refine then_ret ?_
      refine post_ret (results_fr rfl) ?_
      refine ⟨rfl, F1, ?_, (Gr.of hm.upd).trans hg1⟩
      rw [words_last s hne]; exact hJ1
    · obtain ⟨r, rfl⟩ : ∃ r', r = r' + 1 := ⟨r - 1, by omega⟩
      have ih := ih r rfl
      rw [words_more s hne] at hL ⊢
      have hstr : ∀ a c : List ByteArray, strs (a ++ c) = strs a ++ strs c := fun a c => (strs_append a c).symm
      rw [hstr] at hL ⊢
      refine wc_skip ?_
      refine then_normal ?_
      refine wc_seq ?_
      refine wc_draw (C := fun W => Mem w [] [] W) (some 6) mix (by kernel_rfl) (by kernel_rfl) (Mem.stable _ _ _) (hm.step (upd_drew _)) ?_
      refine al_y (by kernel_rfl) (fun W hm => y_load rfl (blk_cell (hb4 (hfree.upd hm.upd)) rfl) Try.underlying129 rfl) ?_
      refine al_y (by kernel_rfl) (fun W hm => y_move (by conv => lhs; whnf)) ?_
      refine al_y (by kernel_rfl) (fun W hm => y_concat rfl rfl (by first | omega | (simp only [ByteArray.size_append]; omega))) ?_
      refine al_y (by kernel_rfl) (fun W hm => y_load rfl (blk_cell (hb2 (hfree.upd hm.upd)) rfl) Try.underlying72 rfl) ?_
      refine al_y (by kernel_rfl) (fun W hm => y_move (by conv => lhs; whnf)) ?_
      refine al_callR (by kernel_rfl) hb60 (fun W hm => step_calls _ _ _ _ _ 0 (hnet _ _ _ (hY.st _ _ _ _ hJ hm.upd)) ho (by omega) (by decide)) rfl rfl ?_
      refine al_loud (by kernel_rfl) (fun W hm => ?_)
      refine wl_callCl (al := [.string (s ++ ⟨#[97]⟩), .int .i64 ((stepF (tabN nx) set 0 k) : Nat)]) (cap := [pb b3, pb bY, pb b4, pb b2]) hb92 (ih _ (s ++ ⟨#[97]⟩) _ ys (strs (wordsFrom (tabN nx) k r (s ++ ⟨#[98]⟩) (stepF (tabN nx) set 1 k)) ++ rest) F ?_ (hY.st _ _ _ _ hJ hm.upd) (hfree.upd hm.upd) ?_ ?_) rfl rfl (fun e W h => ?_)
      · rw [hL]; simp only [List.append_assoc]
      · simp only [ByteArray.size_append]; omega
      · exact stepF_lt ho _ 0 (by decide) k (Nat.le_refl _)
      obtain ⟨rfl, F1, hJ1, hg1⟩ := h
      refine ⟨_, rfl, ?_⟩
      have hg1 := (Gr.of hm.upd).trans hg1
      have hf1 := hfree.gr hg1
      refine nx_any (some 14) (fun W => J _ F1 W ∧ Free (Hp92 bn len lp b2 b3 b4 bY) F1 W ∧ Gr F w F1 W) (fun _ _ h hu => ⟨hY.st _ _ _ _ h.1 hu, h.2.1.upd hu, h.2.2.trans (Gr.of hu)⟩) ⟨hJ1, hf1, hg1⟩ rfl ?_
      refine al_y (by kernel_rfl) (fun W hm => y_move (by conv => lhs; whnf)) ?_
      refine al_yg rfl (by kernel_rfl) (fun W hm => y_load rfl (blk_cell (hb4 hm.2.1) rfl) Try.underlying129 rfl) ?_
      refine al_yg rfl (by kernel_rfl) (fun W hm => y_move (by conv => lhs; whnf)) ?_
      refine al_yg rfl (by kernel_rfl) (fun W hm => y_concat rfl rfl (by first | omega | (simp only [ByteArray.size_append]; omega))) ?_
      refine al_yg rfl (by kernel_rfl) (fun W hm => y_load rfl (blk_cell (hb2 hm.2.1) rfl) Try.underlying72 rfl) ?_
      refine al_yg rfl (by kernel_rfl) (fun W hm => y_move (by conv => lhs; whnf)) ?_
      refine al_callRg rfl (by kernel_rfl) hb60 (fun W hm => step_calls _ _ _ _ _ 1 (hnet _ _ _ hm.1) ho (by omega) (by decide)) rfl rfl ?_
      refine al_loud (by kernel_rfl) (fun W hm => ?_)
      refine wl_guard_yes rfl ?_
      refine wl_callCl (al := [.string (s ++ ⟨#[98]⟩), .int .i64 ((stepF (tabN nx) set 1 k) : Nat)]) (cap := [pb b3, pb bY, pb b4, pb b2]) hb92 (ih _ (s ++ ⟨#[98]⟩) _ (ys ++ strs (wordsFrom (tabN nx) k r (s ++ ⟨#[97]⟩) (stepF (tabN nx) set 0 k))) rest F1 ?_ hm.1 hm.2.1 ?_ ?_) rfl rfl (fun e W h => ?_)
      · rw [hL]; simp only [List.append_assoc]
      · simp only [ByteArray.size_append]; omega
      · exact stepF_lt ho _ 1 (by decide) k (Nat.le_refl _)
      obtain ⟨rfl, F2, hJ2, hg2⟩ := h
      refine ⟨_, rfl, ?_⟩
      have hg2 := (hm.2.2).trans hg2
      have hf2 := hfree.gr hg2
      refine nx_any none (fun W => J _ F2 W ∧ Gr F w F2 W) (fun _ _ h hu => ⟨hY.st _ _ _ _ h.1 hu, h.2.trans (Gr.of hu)⟩) ⟨hJ2, hg2⟩ rfl ?_
      refine al_y (by kernel_rfl) (fun W hm => y_pick_true rfl (by conv => lhs; whnf)) ?_
      refine al_y (by kernel_rfl) (fun W hm => y_assign (by conv => lhs; whnf)) ?_
      refine al_nil (by kernel_rfl) (fun W hm => ?_)
      refine then_normal ?_
      refine wc_ret ?_
      refine post_ret (results_fr rfl) ?_
      refine ⟨rfl, F2, ?_, hm.2⟩
      rw [← List.append_assoc]; exact hm.1

theorem words2_calls (J : List Value → List Nat → World → Prop) (D : List Nat → World → Prop) (L : List Value) (nx : List Int) (bn k len lp b2 b3 b4 bY : Nat) (hY : YieldsTo Try.prog lp L J D) (hD0 : ∀ F W, ¬ D F W) (hnet : ∀ ys F W, J ys F W → NetAt W bn k nx) (ho : Okf k (tabN nx)) (hlen : len ≤ 100) :
    ∀ r, Words2 J L nx bn k len lp b2 b3 b4 bY r
  | 0 => words2_step J D L nx bn k len lp b2 b3 b4 bY hY hD0 hnet ho hlen 0 (fun r' h => by omega)
  | r + 1 => words2_step J D L nx bn k len lp b2 b3 b4 bY hY hD0 hnet ho hlen (r + 1) (fun r' h => by obtain rfl : r = r' := by omega
                                                                                                      exact words2_calls J D L nx bn k len lp b2 b3 b4 bY hY hD0 hnet ho hlen r)
end Go.Proofs.Ytofpdjpenmhbnaa
namespace Go.Proofs.Ytofpdjpenmhbnaa
open Go Go.Kx
theorem ti129 : TI Try.prog 129 (.nilFunc) 1 8 := by show _ = _; kernel_rfl
set_option maxHeartbeats 4000000 in
theorem words1_calls (J : List Value → List Nat → World → Prop) (D : List Nat → World → Prop) (L : List Value) (nx : List Int) (bn k len lp b2 b3 : Nat) (w : World) (F : List Nat) (hY : YieldsTo Try.prog lp L J D) (hD0 : ∀ F W, ¬ D F W) (hnet : ∀ ys F W, J ys F W → NetAt W bn k nx) (ho : Okf k (tabN nx)) (hlen : len ≤ 100)
    (hL : L = strs (wordsFrom (tabN nx) k len ⟨#[]⟩ (2 ^ k - 1))) (hJ : J [] F w) (hfree : Free [.blk b2 72 [pb bn], .blk b3 3 [.int .i64 (len : Int)]] F w) :
    Cl Try.prog 91 [.func (.yield lp) #[] #[], pb b3, pb b2].toArray w (fun e W' => (∃ v, e = .returned v) ∧ ∃ F', (J L F' W' ∨ D F' W')) := by
  have h32 := pow_le_32 ho.k5
  have hp0 := Nat.two_pow_pos k
  have hF := hY.lt _ _ _ hJ
  have hb2 : ∀ {W}, Free [.blk b2 72 [pb bn], .blk b3 3 [.int .i64 (len : Int)]] F W → (En.blk b2 72 [pb bn]).holds W := fun h => (h _ (by simp)).1
  have hm : Mem w [] [] w := Mem.init w
  refine cl_enter Try.func91 rfl Try.ntmps91 rfl ?_
  refine wc_seq ?_
  refine wc_region ?_
  refine wl_box hm (by conv => lhs; whnf) (fun W b3_1 hm hb3_1 hu1 => ?_)
  refine wl_nil ?_
  refine then_normal ?_
  refine wc_seq ?_
  refine wc_region ?_
  refine wl_alloc hm ti129 (fun W b4 hm hb4 hu2 => ?_)
  refine wl_nil ?_
  refine then_normal ?_
  refine wc_seq ?_
  refine wc_region ?_
  refine wl_y (y_makeFuncL rfl rfl) ?_
  have hs1 := hu1.size
  have hs2 := hm.upd.size
  refine wl_store1 (i := 1) (v := .func (.func 92) #[] [pb b3, pb b3_1, pb b4, pb b2].toArray) hm rfl rfl rfl ti129 (by decide) rfl rfl (fun W hm => ?_)
  refine wl_nil ?_
  refine then_normal ?_
  refine wc_draw (C := fun W => Mem w [] [.blk b3_1 44 [.func (.yield lp) #[] #[]], .blk b4 129 [.func (.func 92) #[] [pb b3, pb b3_1, pb b4, pb b2].toArray]] W) (some 3) mix (by kernel_rfl) (by kernel_rfl) (Mem.stable _ _ _) (hm.step (upd_drew _)) ?_
  refine al_y (by kernel_rfl) (fun W hm => y_load rfl (hm.blk_cell 1 rfl rfl) Try.underlying129 rfl) ?_
  refine al_y (by kernel_rfl) (fun W hm => y_load rfl (blk_cell (hb2 (hfree.upd hm.upd)) rfl) Try.underlying72 rfl) ?_
  refine al_callR (by kernel_rfl) hb58 (fun W hm => all_calls _ _ _ _ (hnet _ _ _ (hY.st _ _ _ _ hJ hm.upd)) ho.k5) rfl rfl ?_
  refine al_loud (by kernel_rfl) (fun W hm => ?_)
  have hfr : Free (Hp92 bn len lp b2 b3 b4 b3_1) F W := by
    have hf := hfree.upd hm.upd
    intro e he
    simp only [Hp92, List.mem_cons, List.not_mem_nil, or_false] at he
    rcases he with rfl | rfl | rfl | rfl
    · exact hf _ (by simp)
    · exact hf _ (by simp)
    · exact ⟨hm.at (i := 0) rfl, fun b hb hbF => by simp only [En.foot, Option.some.injEq] at hb; have := hF b hbF; omega⟩
    · exact ⟨hm.at (i := 1) rfl, fun b hb hbF => by simp only [En.foot, Option.some.injEq] at hb; have := hF b hbF; omega⟩
  refine wl_callCl (al := [.string ⟨#[]⟩, .int .i64 ((2 ^ k - 1 : Nat) : Int)]) (cap := [pb b3, pb b3_1, pb b4, pb b2]) hb92 (words2_calls J D L nx bn k len lp b2 b3 b4 b3_1 hY hD0 hnet ho hlen len _ ⟨#[]⟩ (2 ^ k - 1) [] [] F (by rw [hL]; simp) (hY.st _ _ _ _ hJ hm.upd) hfr (by show 0 + len = len; omega) (by omega)) rfl rfl (fun e W h => ?_)
  obtain ⟨rfl, F1, hJ1, hg1⟩ := h
  refine ⟨_, rfl, ?_⟩
  refine nx_any none (fun W => J L F1 W) (fun _ _ h hu => hY.st _ _ _ _ h hu) (by rw [hL]; exact hJ1) rfl ?_
  refine al_nil (by kernel_rfl) (fun W hm => ?_)
  refine post_end (results_fr0 rfl) ?_
  exact ⟨⟨_, rfl⟩, F1, .inl hm⟩

set_option maxHeartbeats 4000000 in
theorem words_calls (w : World) (bn len : Nat) :
    Cl Try.prog 73 [pb bn, .int .i64 (len : Int)].toArray w (fun e w' => ∃ v E, e = .returned v ∧ Mem w [] E w' ∧ ∃ b2 b3, v = .func (.func 91) #[] [pb b3, pb b2].toArray ∧ E = [.blk b2 72 [pb bn], .blk b3 3 [.int .i64 (len : Int)]]) := by
  have hm : Mem w [] [] w := Mem.init w
  refine cl_enter Try.func73 rfl Try.ntmps73 rfl ?_
  refine wc_seq ?_
  refine wc_region ?_
  refine wl_box hm (by conv => lhs; whnf) (fun W b2 hm hb2 hu => ?_)
  refine wl_box hm (by conv => lhs; whnf) (fun W b3 hm hb3 hu => ?_)
  refine wl_y (y_assign (by conv => lhs; whnf)) ?_
  refine wl_nil ?_
  refine then_normal ?_
  refine wc_seq ?_
  refine wc_region ?_
  refine wl_y (y_makeFuncL rfl rfl) ?_
  refine wl_y (y_assign (by conv => lhs; whnf)) ?_
  refine wl_nil ?_
  refine then_normal ?_
  refine wc_ret ?_
  refine post_ret (results_fr rfl) ?_
  exact ⟨_, _, rfl, hm, b2, b3, rfl, rfl⟩
end Go.Proofs.Ytofpdjpenmhbnaa
namespace Go.Proofs.Ytofpdjpenmhbnaa
open Go Go.Kx
theorem ti9 : TI Try.prog 9 (.string ⟨#[]⟩) 1 16 := by show _ = _; kernel_rfl
theorem ti47 : TI Try.prog 47 (.slice none 0 0) 1 24 := by show _ = _; kernel_rfl
theorem hb73 : HasBody Try.prog 73 := hasBody Try.func73 (by kernel_rfl) (by kernel_rfl)
theorem hb91 : HasBody Try.prog 91 := hasBody Try.func91 (by kernel_rfl) (by kernel_rfl)
end Go.Proofs.Ytofpdjpenmhbnaa
namespace Go.Proofs.Ytofpdjpenmhbnaa
open Go Go.Kx
theorem ti72 : TI Try.prog 72 (.pointer none) 1 8 := by show _ = _; kernel_rfl
def Gives (w : World) (r : List ByteArray × Int) (e : Ending) (w' : World) : Prop := ∃ vs, e = .returned (.tuple #[vs, .int .i64 r.2]) ∧ Mem w [] [.own 9 1 vs r.1.length (strs r.1)] w'

set_option maxHeartbeats 4000000 in
theorem Forbidden_yes (w : World) (vl : Value) (ps : List (Int × Int)) (n : Int) (hl : SlAt w 2 vl ps.length (prs ps)) (hok : NetOk ps) :
    Cl Try.prog 32 [vl, .int .i64 n].toArray w (Gives w (if 1 ≤ n ∧ n ≤ 8 then (forbs (tabR ps) ps.length (allWords (tabR ps) ps.length (n - 1).toNat), 0) else ([], 1))) := by
  have hm : Mem w [] [] w := Mem.init w
  refine cl_enter_marks Try.func32 rfl Try.ntmps32 rfl ?_
  refine wc_seq ?_
  refine wc_region ?_
  refine wl_y (y_assign (by conv => lhs; whnf)) ?_
  refine wl_y (y_assign (by conv => lhs; whnf)) ?_
  refine wl_nil ?_
  refine then_normal ?_
  refine wc_seq ?_
  refine wc_region ?_
  refine wl_y (y_move (by conv => lhs; whnf)) ?_
  refine wl_callM hm hb54 (open_yes _ _ ps (hl.step hm.upd) hok) rfl rfl (fun W v15 E hm hu hE => ?_)
  obtain ⟨bn, nx, rfl, rfl, hnet⟩ := hE
  have ho := hnet.okf
  have hk5 := ho.k5
  refine wl_y (y_move (by conv => lhs; whnf)) ?_
  refine wl_y (y_extract rfl rfl) ?_
  refine wl_y (y_extract rfl rfl) ?_
  refine wl_alloc hm ti72 (fun W b6 hm hb6 hu => ?_)
  refine wl_store1 (i := 1) hm rfl (by conv => lhs; whnf) rfl ti72 (by first | decide | simp) rfl rfl (fun W hm => ?_)
  refine wl_y (y_assign (by conv => lhs; whnf)) ?_
  refine wl_nil ?_
  refine then_normal ?_
  refine wc_seq ?_
  refine wc_seq ?_
  refine wc_region ?_
  refine wl_y (y_move (by conv => lhs; whnf)) ?_
  refine wl_y (y_neq rfl rfl) ?_
  refine wl_nil ?_
  refine then_normal ?_
  refine wc_cond_dec rfl (fun h1 => ?_) (fun h1 => ?_)
  · exact absurd rfl h1
  · skip
    refine wc_skip ?_
    refine then_normal ?_
    refine wc_seq ?_
    refine wc_seq ?_
    refine wc_region ?_
    refine wl_y (y_move (by conv => lhs; whnf)) ?_
    refine wl_y (y_lss rfl rfl) ?_
    refine wl_split rfl (fun h2 => ?_) (fun h2 => ?_)
    · skip
      refine wl_guard_no rfl ?_
      refine wl_guard_no rfl ?_
      refine wl_y (y_pick_true rfl (by conv => lhs; whnf)) ?_
      refine wl_nil ?_
      refine then_normal ?_
      refine wc_cond_true rfl ?_
      refine wc_seq ?_
      refine wc_region ?_
      refine wl_y (y_assign (by conv => lhs; whnf)) ?_
      refine wl_y (y_assign (by conv => lhs; whnf)) ?_
      refine wl_nil ?_
      refine then_normal ?_
      refine wc_ret ?_
      refine then_ret ?_
      refine post_ret0M (results_fr2 rfl) ?_
      rw [if_neg (by omega)]
      exact ⟨_, rfl, hm.nil.ownNil 9 1⟩
    · skip
      refine wl_guard_yes rfl ?_
      refine wl_y (y_move (by conv => lhs; whnf)) ?_
      refine wl_guard_yes rfl ?_
      refine wl_y (y_gtr rfl rfl) ?_
      refine wl_y (y_pick_false rfl (by conv => lhs; whnf)) ?_
      refine wl_nil ?_
      refine then_normal ?_
      refine wc_cond_dec rfl (fun h3 => ?_) (fun h3 => ?_)
      · skip
        refine wc_seq ?_
        refine wc_region ?_
        refine wl_y (y_assign (by conv => lhs; whnf)) ?_
        refine wl_y (y_assign (by conv => lhs; whnf)) ?_
        refine wl_nil ?_
        refine then_normal ?_
        refine wc_ret ?_
        refine then_ret ?_
        refine post_ret0M (results_fr2 rfl) ?_
        rw [if_neg (by omega)]
        exact ⟨_, rfl, hm.nil.ownNil 9 1⟩
      · have hn : 1 ≤ n ∧ n ≤ 8 := by omega
        obtain ⟨m, rfl⟩ : ∃ m : Nat, n = ((m + 1 : Nat) : Int) := ⟨(n - 1).toNat, by omega⟩
        have hwl := words_len (tabN nx) ps.length m ⟨#[]⟩ (2 ^ ps.length - 1)
        have hp12 : 2 ^ m ≤ 2 ^ 8 := Nat.pow_le_pow_right (by decide) (by omega)
        refine wc_skip ?_
        refine then_normal ?_
        refine wc_seq ?_
        refine wc_region ?_
        refine wl_alloc hm ti47 (fun W b8 hm hb8 hu => ?_)
        have hm := hm.ownNil 9 1
        refine wl_nil ?_
        refine then_normal ?_
        refine wc_seq ?_
        refine wc_seq ?_
        refine wc_region ?_
        refine wl_y (y_load rfl (hm.blk_cell 1 rfl rfl) Try.underlying72 rfl) ?_
        refine wl_y (y_move (by conv => lhs; whnf)) ?_
        refine wl_y (v := .int .i64 (m : Int)) (y_sub1N (m := m + 1) rfl rfl (by omega)) ?_
        refine wl_callM hm hb73 (words_calls _ _ _) rfl rfl (fun W v30 E hm hu hE => ?_)
        obtain ⟨b2w, b3w, rfl, rfl⟩ := hE
        refine wl_nil ?_
        refine then_normal ?_
        refine wc_block ?_
        have hm : Mem w [] ([.blk bn 94 (netCells ps.length nx), .blk b6 72 [pb bn], .blk b8 47 [.slice none 0 0], .own 9 1 (.slice none 0 0) 0 []] ++ [.blk b2w 72 [pb bn], .blk b3w 3 [.int .i64 (m : Int)]]) W := hm
        refine wc_rangeFunc hm rfl hb91 (strs (wordsFrom (tabN nx) ps.length m ⟨#[]⟩ (2 ^ ps.length - 1))) (fun ys E => ∃ v ss', ys = strs ss' ∧ E = [.blk bn 94 (netCells ps.length nx), .blk b6 72 [pb bn], .blk b8 47 [v], .own 9 1 v (forbs (tabN nx) ps.length ss').length (strs (forbs (tabN nx) ps.length ss'))]) (fun _ => False) ([.blk bn 94 (netCells ps.length nx)]) (⟨_, [], rfl, rfl⟩) (fun ys E h e he => by obtain ⟨_, _, _, rfl⟩ := h; simp at he; simp [he]) (fun lp J D F W hY hD hs hJ hf => words1_calls J D _ nx bn ps.length _ lp _ _ W F hY (hD (fun _ h => h)) (fun ys F W hJ => ⟨hs ys F W hJ _ (by simp), hnet.nx.1⟩) ho (by omega) rfl hJ hf) (fun bd lp fnn ys v rest E wr SR rr hL hE hrr hSR hm => ?_) (fun bd lp r W E hE hm => ?_) (fun bd lp r W E hE hm => ?_)
        · obtain ⟨v0, ss', rfl, rfl⟩ := hE
          obtain ⟨s, rfl⟩ := strs_item hL
          have hlen := congrArg List.length hL
          simp only [strs, List.length_map, List.length_append, List.length_cons] at hlen
          have hmm : Value.string s ∈ strs (wordsFrom (tabN nx) ps.length m ⟨#[]⟩ (2 ^ ps.length - 1)) := by rw [hL]; simp
          have hls := words_lets (f := tabN nx) (k := ps.length) (r := m) (set := 2 ^ ps.length - 1) lets_nil s (by simpa [strs] using hmm)
          have hsz0 : (⟨#[]⟩ : ByteArray).size = 0 := rfl
          have hfl := forbs_len (tabN nx) ps.length ss'
          refine wc_region ?_
          refine wl_y (y_assign (by conv => lhs; whnf)) ?_
          refine wl_nil ?_
          refine begin_round hrr hm (fun W hm => ?_)
          refine wc_block ?_
          refine wc_seq ?_
          refine wc_region ?_
          refine wl_rangeStr hm (by conv => lhs; whnf) Try.underlying9 (fun W b32 hm hb32 hu => ?_)
          refine wl_nil ?_
          refine then_normal ?_
          refine wc_block ?_
          refine wc_loop [11, 12, 33, 34, 35, 36, 37, 38, 39, 40, 41, 42, 43, 44, 45, 46, 47, 48, 49, 50, 51, 52, 53, 54] (fun ((p, v) : Nat × Value) => []) (fun ((p, v) : Nat × Value) W => Mem wr SR [blockEn bd, loopEn lp (rr .busy none), .blk bn 94 (netCells ps.length nx), .blk b6 72 [pb bn], .blk b8 47 [v], .own 9 1 v (forbs (tabN nx) ps.length ss' ++ partF (tabN nx) ps.length s p).length (strs (forbs (tabN nx) ps.length ss' ++ partF (tabN nx) ps.length s p)), .obj b32 (· = .stringIter ⟨#[97, 98]⟩ p)] W ∧ p ≤ 2) (fun ((p, v) : Nat × Value) => 2 - p) ((0, v0) : Nat × Value) ?_ ?_ ?_
          · exact trivial
          · exact ⟨by simpa [partF] using hm, Nat.zero_le _⟩
          · rintro ⟨p, v⟩ u W ⟨hm, hp⟩
            have hpl := partF_len (tabN nx) ps.length s p
            have hll : (forbs (tabN nx) ps.length ss' ++ partF (tabN nx) ps.length s p).length ≤ 2000 := by rw [List.length_append]; omega
            refine wc_seq ?_
            refine wc_region ?_
            refine wl_nextStr (i := 6) hm rfl rfl (fun h4 W hm => ?_) (fun h4 => ?_)
            · rw [ab_decode h4] at hm ⊢
              have hp2 : p < 2 := h4
              have hlu := lets_enc (p := p) hp2 hls.1
              have hen : (Utf8.encode ((97 + p : Nat) : Int)).size = 1 := by have := hlu.2; rw [ByteArray.size_append] at this; omega
              refine wl_y (y_extract rfl rfl) ?_
              refine wl_nil ?_
              refine then_normal ?_
              refine wc_seq ?_
              refine wc_cond_true rfl ?_
              refine wc_skip ?_
              refine then_normal ?_
              refine wc_block ?_
              refine wc_seq ?_
              refine wc_region ?_
              refine wl_y (y_extract rfl rfl) ?_
              refine wl_y (y_assign (by conv => lhs; whnf)) ?_
              refine wl_nil ?_
              refine then_normal ?_
              refine wc_seq ?_
              refine wc_region ?_
              refine wl_y (y_move (by conv => lhs; whnf)) ?_
              refine wl_y (y_move (by conv => lhs; whnf)) ?_
              refine wl_y (y_convIntStr rfl Try.underlying21 Try.underlying9) ?_
              refine wl_y (y_concat rfl rfl (by first | omega | (simp only [ByteArray.size_append]; omega))) ?_
              refine wl_y (y_assign (by conv => lhs; whnf)) ?_
              refine wl_nil ?_
              refine then_normal ?_
              refine wc_seq ?_
              refine wc_quiet (C := fun W => Mem wr SR [blockEn bd, loopEn lp (rr .busy none), .blk bn 94 (netCells ps.length nx), .blk b6 72 [pb bn], .blk b8 47 [v], .own 9 1 v (forbs (tabN nx) ps.length ss' ++ partF (tabN nx) ps.length s p).length (strs (forbs (tabN nx) ps.length ss' ++ partF (tabN nx) ps.length s p)), .obj b32 (· = .stringIter ⟨#[97, 98]⟩ (p + 1))] W) mix (by kernel_rfl) (by kernel_rfl) (hm.step (upd_drew _)) ?_
              refine q_y (fun W hm => y_load rfl (hm.blk_cell 3 rfl rfl) Try.underlying72 rfl) ?_
              refine q_y (fun W hm => y_move (by conv => lhs; whnf)) ?_
              refine q_callR hb74 (fun W hm => ends_calls _ _ _ _ _ (⟨hm.at (i := 2) rfl, hnet.nx.1⟩ : NetAt _ _ _ _) ho hlu.1) rfl rfl ?_
              refine q_y (fun W hm => y_eql rfl rfl) ?_
              refine q_split rfl (fun h5 => ?_) (fun h5 => ?_)
              · have hA := h5
                refine q_guard_yes rfl ?_
                refine q_y (fun W hm => y_load rfl (hm.blk_cell 3 rfl rfl) Try.underlying72 rfl) ?_
                refine q_guard_yes rfl ?_
                refine q_y (fun W hm => y_move (by conv => lhs; whnf)) ?_
                refine q_guard_yes rfl ?_
                refine q_y (fun W hm => y_sliceStrL (s := s ++ Utf8.encode ((97 + p : Nat) : Int)) (h := 1) rfl rfl ⟨by decide, by have := hlu.2; omega⟩ Try.underlying9) ?_
                refine q_guard_yes rfl ?_
                refine q_callR hb74 (fun W hm => ends_calls _ _ _ _ _ (⟨hm.at (i := 2) rfl, hnet.nx.1⟩ : NetAt _ _ _ _) ho (lets_extract hlu.1)) rfl rfl ?_
                refine q_guard_yes rfl ?_
                refine q_y (fun W hm => y_neq rfl rfl) ?_
                refine q_y (fun W hm => y_pick_true rfl (by conv => lhs; whnf)) ?_
                refine q_nil (fun W hm => ?_)
                refine then_normal ?_
                refine wc_cond_dec rfl (fun h6 => ?_) (fun h6 => ?_)
                · have hfb : isForb (tabN nx) ps.length (s ++ Utf8.encode ((97 + p : Nat) : Int)) := ⟨by unfold endsF; omega, fun hz => h6 (congrArg Nat.cast hz)⟩
                  refine wc_region ?_
                  refine wl_y (y_load rfl (hm.blk_cell 4 rfl rfl) Try.underlying47 rfl) ?_
                  refine wl_y (y_move (by conv => lhs; whnf)) ?_
                  refine wl_lit1 hm (by conv => lhs; whnf) Try.underlying47 ti9 rfl (by decide) (fun W v53 hm hu => ?_)
                  refine wl_appendTo (i := 5) hm (by conv => lhs; whnf) (by conv => lhs; whnf) rfl (hm.slAt 7 rfl) (strs_snoc _ _) Try.underlying47 ti9 rfl (by decide) (by simp [Value.cells, Value.oneCell']) (by omega) (fun W v54 hm hv54 => ?_)
                  have hm := hm.take 7
                  refine wl_store1 (i := 4) hm rfl (by conv => lhs; whnf) rfl ti47 (by first | decide | simp) (hm.own_shape 5 rfl).1 (hm.own_shape 5 rfl).2 (fun W hm => ?_)
                  refine wl_nil ?_
                  refine block_normal ?_
                  refine next_round (σ := Nat × Value) (p + 1, v54) rfl (by repeat first | exact out_hav | refine out_look rfl ?_ | refine out_havIn rfl ?_) trivial ⟨by rw [← partF_yes hfb, ← List.append_assoc, List.length_append]; exact hm, by omega⟩ (by (try dsimp only); omega)
                · have hfb : ¬ isForb (tabN nx) ps.length (s ++ Utf8.encode ((97 + p : Nat) : Int)) := fun hh => h6 (fun hz => hh.2 (by have hz2 : ((endsF (tabN nx) ps.length ((s ++ Utf8.encode ((97 + p : Nat) : Int)).extract 1 (s ++ Utf8.encode ((97 + p : Nat) : Int)).size) : Nat) : Int) = 0 := hz; omega))
                  refine wc_skip ?_
                  refine block_normal ?_
                  refine next_round (σ := Nat × Value) (p + 1, v) rfl (by repeat first | exact out_hav | refine out_look rfl ?_ | refine out_havIn rfl ?_) trivial ⟨by rw [← partF_no hfb]; exact hm, by omega⟩ (by (try dsimp only); omega)
              · have hfb : ¬ isForb (tabN nx) ps.length (s ++ Utf8.encode ((97 + p : Nat) : Int)) := fun hh => h5 (congrArg Nat.cast hh.1)
                refine q_guard_no rfl ?_
                refine q_guard_no rfl ?_
                refine q_guard_no rfl ?_
                refine q_guard_no rfl ?_
                refine q_guard_no rfl ?_
                refine q_y (fun W hm => y_pick_false rfl (by conv => lhs; whnf)) ?_
                refine q_nil (fun W hm => ?_)
                refine then_normal ?_
                refine wc_cond_false rfl ?_
                refine wc_skip ?_
                refine block_normal ?_
                refine next_round (σ := Nat × Value) (p + 1, v) rfl (by repeat first | exact out_hav | refine out_look rfl ?_ | refine out_havIn rfl ?_) trivial ⟨by rw [← partF_no hfb]; exact hm, by omega⟩ (by (try dsimp only); omega)
            · obtain rfl : p = 2 := by have : ¬ p < 2 := h4; omega
              refine wl_y (y_extract rfl rfl) ?_
              refine wl_nil ?_
              refine then_normal ?_
              refine wc_seq ?_
              refine wc_cond_false rfl ?_
              refine wc_exit ?_
              refine then_exit ?_
              refine then_exit ?_
              refine block_exit ?_
              refine block_normal ?_
              refine end_round hrr hSR (hm.take 6) ⟨v, ss' ++ [s], by rw [← strs_append]; rfl, ?_⟩
              rw [forbs_snoc]; rfl
        · obtain ⟨vs, ss', hss', rfl⟩ := hE
          obtain rfl := strs_inj hss'
          refine block_normal ?_
          refine then_normal ?_
          refine wc_seq ?_
          refine wc_region ?_
          refine wl_y (y_load rfl (hm.blk_cell 4 rfl rfl) Try.underlying47 rfl) ?_
          refine wl_y (y_assign (by conv => lhs; whnf)) ?_
          refine wl_y (y_assign (by conv => lhs; whnf)) ?_
          refine wl_nil ?_
          refine then_normal ?_
          refine wc_ret ?_
          refine post_retM hm (fun W hm => results_fr2 rfl) (fun W hm => ?_)
          rw [if_pos hn, show allWords (tabR ps) ps.length (((m + 1 : Nat) : Int) - 1).toNat = wordsFrom (tabN nx) ps.length m ⟨#[]⟩ (2 ^ ps.length - 1) by rw [show (((m + 1 : Nat) : Int) - 1).toNat = m by omega]; simp [allWords, hnet.words], ← hnet.forbs (fun s hs => (words_lets lets_nil s hs).1)]
          exact ⟨_, rfl, hm.drop 4⟩
        · exact hE.elim

set_option maxHeartbeats 4000000 in
theorem Forbidden_no (w : World) (vl : Value) (ps : List (Int × Int)) (n : Int) (hl : SlAt w 2 vl ps.length (prs ps)) (hok : ¬ NetOk ps) :
    Cl Try.prog 32 [vl, .int .i64 n].toArray w (Gives w (([], 70))) := by
  have hm : Mem w [] [] w := Mem.init w
  refine cl_enter_marks Try.func32 rfl Try.ntmps32 rfl ?_
  refine wc_seq ?_
  refine wc_region ?_
  refine wl_y (y_assign (by conv => lhs; whnf)) ?_
  refine wl_y (y_assign (by conv => lhs; whnf)) ?_
  refine wl_nil ?_
  refine then_normal ?_
  refine wc_seq ?_
  refine wc_region ?_
  refine wl_y (y_move (by conv => lhs; whnf)) ?_
  refine wl_callR hm hb54 (open_no _ _ _ (hl.step hm.upd) hok) rfl rfl (fun W hm hu => ?_)
  refine wl_y (y_move (by conv => lhs; whnf)) ?_
  refine wl_y (y_extract rfl rfl) ?_
  refine wl_y (y_extract rfl rfl) ?_
  refine wl_alloc hm ti72 (fun W b6 hm hb6 hu => ?_)
  refine wl_store1 (i := 0) hm rfl (by conv => lhs; whnf) rfl ti72 (by first | decide | simp) rfl rfl (fun W hm => ?_)
  refine wl_y (y_assign (by conv => lhs; whnf)) ?_
  refine wl_nil ?_
  refine then_normal ?_
  refine wc_seq ?_
  refine wc_seq ?_
  refine wc_region ?_
  refine wl_y (y_move (by conv => lhs; whnf)) ?_
  refine wl_y (y_neq rfl rfl) ?_
  refine wl_nil ?_
  refine then_normal ?_
  refine wc_cond_dec rfl (fun h1 => ?_) (fun h1 => ?_)
  · skip
    refine wc_seq ?_
    refine wc_region ?_
    refine wl_y (y_move (by conv => lhs; whnf)) ?_
    refine wl_y (y_assign (by conv => lhs; whnf)) ?_
    refine wl_y (y_assign (by conv => lhs; whnf)) ?_
    refine wl_nil ?_
    refine then_normal ?_
    refine wc_ret ?_
    refine then_ret ?_
    refine post_ret0M (results_fr2 rfl) ?_
    exact ⟨_, rfl, hm.nil.ownNil 9 1⟩
  · exfalso
    omega

theorem Forbidden_calls (w : World) (vl : Value) (ps : List (Int × Int)) (n : Int) (hl : SlAt w 2 vl ps.length (prs ps)) :
    Cl Try.prog 32 [vl, .int .i64 n].toArray w (Gives w (forbV ps n)) := by
  by_cases hok : NetOk ps
  · rw [show forbV ps n = _ from if_pos hok]; exact Forbidden_yes w vl ps n hl hok
  · rw [show forbV ps n = _ from if_neg hok]; exact Forbidden_no w vl ps n hl hok
end Go.Proofs.Ytofpdjpenmhbnaa
namespace Go.Proofs.Ytofpdjpenmhbnaa
open Go Go.Kx
theorem ti90 : TI Try.prog 90 (.agg #[.int .i64 0, .int .i64 0, .int .i64 0, .int .i64 0, .int .i64 0]) 5 40 := by show _ = _; kernel_rfl
theorem NetAt.nextI {W : World} {b k : Nat} {nx : List Int} (h : NetAt W b k nx) {a : Int} {x : Nat} (hi : 0 ≤ a ∧ a < 5) (hx : x < 2) : W.cell? ⟨b, 0 + 1 + a.toNat * 2 + (x : Int).toNat * 1, none⟩ = some (.int .i64 (tabN nx a.toNat x)) := by
  have := h.next (i := a.toNat) (x := x) (by omega) hx
  rwa [Int.toNat_natCast] at this
theorem ints_set0 (a : List Int) (i : Nat) (z : Int) : (ints a).set (0 + (i : Int).toNat * 1) (.int .i64 z) = ints (a.set i z) := by
  rw [Nat.zero_add, Nat.mul_one, Int.toNat_natCast, ints_set]

set_option maxHeartbeats 4000000 in
theorem every1_calls (J : List Value → List Nat → World → Prop) (D : List Nat → World → Prop) (L : List Value) (n lp b1 : Nat) (w : World) (F : List Nat) (hY : YieldsTo Try.prog lp L J D) (hD0 : ∀ F W, ¬ D F W) (hn : n ≤ 10)
    (hL : L = upto (2 ^ n)) (hJ : J [] F w) (hfree : Free [.blk b1 3 [.int .i64 (n : Int)]] F w) :
    Cl Try.prog 90 [.func (.yield lp) #[] #[], pb b1].toArray w (fun e W' => (∃ v, e = .returned v) ∧ ∃ F', (J L F' W' ∨ D F' W')) := by
  have hp := Nat.two_pow_pos n
  have hp2 : 2 ^ n ≤ 2 ^ 10 := Nat.pow_le_pow_right (by decide) hn
  have hb1 : ∀ {W}, Free [.blk b1 3 [.int .i64 (n : Int)]] F W → (En.blk b1 3 [.int .i64 (n : Int)]).holds W := fun h => (h _ (by simp)).1
  have hm : Mem w [] [] w := Mem.init w
  refine cl_enter Try.func90 rfl Try.ntmps90 rfl ?_
  refine wc_seq ?_
  refine wc_region ?_
  refine wl_y (y_load rfl (blk_cell (hb1 (hfree.upd hm.upd)) rfl) Try.underlying3 rfl) ?_
  refine wl_y (y_conv rfl Try.underlying3 Try.underlying39 (IntWalk.u64_in _ (by omega))) ?_
  refine wl_y (y_bitN rfl rfl (by omega)) ?_
  refine wl_y (y_move (by conv => lhs; whnf)) ?_
  refine wl_nil ?_
  refine then_normal ?_
  refine wc_block ?_
  refine wc_loop [3, 7, 8, 9, 10, 11, 12, 13, 14] (fun ((i, F) : Nat × List Nat) => [(7, .int .i64 (i : Int))]) (fun ((i, F) : Nat × List Nat) W => J (upto i) F W ∧ i ≤ 2 ^ n) (fun ((i, F) : Nat × List Nat) => 2 ^ n - i) ((0, F) : Nat × List Nat) ?_ ?_ ?_
  · exact ⟨rfl, trivial⟩
  · exact ⟨hY.st _ _ _ _ hJ hm.upd, Nat.zero_le _⟩
  · rintro ⟨i, F⟩ u W ⟨hJ, hi⟩
    refine wc_seq ?_
    refine wc_region ?_
    refine wl_y (y_lss rfl rfl) ?_
    refine wl_nil ?_
    refine then_normal ?_
    refine wc_seq ?_
    refine wc_cond_dec rfl (fun h1 => ?_) (fun h1 => ?_)
    · skip
      refine wc_skip ?_
      refine then_normal ?_
      refine wc_seq ?_
      refine wc_block ?_
      refine wc_seq ?_
      refine wc_region ?_
      refine wl_y (y_move (by conv => lhs; whnf)) ?_
      refine wl_y (y_assign (by conv => lhs; whnf)) ?_
      refine wl_nil ?_
      refine then_normal ?_
      refine wc_seq ?_
      refine wc_region ?_
      refine wl_y (y_move (by conv => lhs; whnf)) ?_
      refine wl_y (y_move (by conv => lhs; whnf)) ?_
      obtain ⟨rest, hsp⟩ := upto_split (N := 2 ^ n) (i := i) (by omega)
      refine wl_yield hY (ys := upto i) (rest' := rest) (v := .int .i64 (i : Int)) (by rw [hL, hsp]) hJ rfl rfl (fun W F1 hg1 hJ1 => ?_) (fun _ _ _ hD => (hD0 _ _ hD).elim)
      refine wl_y (y_not rfl) ?_
      refine wl_nil ?_
      refine then_normal ?_
      refine wc_cond_false rfl ?_
      refine wc_skip ?_
      refine block_normal ?_
      refine then_normal ?_
      refine wc_region ?_
      refine wl_y (y_add64 rfl rfl (by omega)) ?_
      refine wl_y (y_move (by conv => lhs; whnf)) ?_
      refine wl_nil ?_
      refine next_round (σ := Nat × List Nat) (i + 1, F1) rfl (by repeat first | exact out_hav | refine out_look rfl ?_ | refine out_havIn rfl ?_) ⟨rfl, trivial⟩ ⟨by rw [upto_succ]; exact hJ1, by omega⟩ (by (try dsimp only); omega)
    · obtain rfl : i = 2 ^ n := by omega
      refine wc_exit ?_
      refine then_exit ?_
      refine then_exit ?_
      refine block_exit ?_
      refine post_end (results_fr0 rfl) ?_
      exact ⟨⟨_, rfl⟩, F, .inl (by rw [hL]; exact hJ)⟩

set_option maxHeartbeats 4000000 in
theorem every_calls (w : World) (n : Nat) :
    Cl Try.prog 64 [.int .i64 (n : Int)].toArray w (fun e w' => ∃ v E, e = .returned v ∧ Mem w [] E w' ∧ ∃ b1, v = .func (.func 90) #[] [pb b1].toArray ∧ E = [.blk b1 3 [.int .i64 (n : Int)]]) := by
  have hm : Mem w [] [] w := Mem.init w
  refine cl_enter Try.func64 rfl Try.ntmps64 rfl ?_
  refine wc_seq ?_
  refine wc_region ?_
  refine wl_box hm (by conv => lhs; whnf) (fun W b1 hm hb1 hu => ?_)
  refine wl_y (y_assign (by conv => lhs; whnf)) ?_
  refine wl_nil ?_
  refine then_normal ?_
  refine wc_seq ?_
  refine wc_region ?_
  refine wl_y (y_makeFuncL rfl rfl) ?_
  refine wl_y (y_assign (by conv => lhs; whnf)) ?_
  refine wl_nil ?_
  refine then_normal ?_
  refine wc_ret ?_
  refine post_ret (results_fr rfl) ?_
  exact ⟨_, _, rfl, hm, b1, rfl, rfl⟩

set_option maxHeartbeats 4000000 in
theorem through_calls (w : World) (bn k : Nat) (nx : List Int) (x n : Nat) (hn : NetAt w bn k nx) (ho : Okf k (tabN nx)) (hx : x ≤ 100000) (hn10 : n ≤ 60) :
    Cl Try.prog 65 [pb bn, .int .i64 (x : Int), .int .i64 (n : Int)].toArray w (Ret w (.agg (ints (thrTo (tabN nx) x n k)).toArray)) := by
  have hk := ho.k5
  have hm : Mem w [] [] w := Mem.init w
  refine cl_enter Try.func65 rfl Try.ntmps65 rfl ?_
  refine wc_seq ?_
  refine wc_region ?_
  refine wl_alloc hm ti90 (fun W b6 hm hb6 hu => ?_)
  refine wl_nil ?_
  refine then_normal ?_
  refine wc_seq ?_
  refine wc_region ?_
  refine wl_alloc hm ti90 (fun W b7 hm hb7 hu => ?_)
  refine wl_nil ?_
  refine then_normal ?_
  refine wc_seq ?_
  refine wc_seq ?_
  refine wc_region ?_
  refine wl_y (y_move (by conv => lhs; whnf)) ?_
  refine wl_y (y_nilCheck rfl) ?_
  refine wl_y (y_fieldAddr (off := 0) (ft := 3) rfl Try.underlying94 rfl ti3) ?_
  refine wl_y (y_load rfl (blk_cell (hn.step hm.upd).at_ rfl) Try.underlying3 rfl) ?_
  refine wl_y (y_move (by conv => lhs; whnf)) ?_
  refine wl_nil ?_
  refine then_normal ?_
  refine wc_block ?_
  refine wc_loop [8, 9, 10, 15, 16, 17, 18, 19, 20, 21, 22, 23, 24, 25, 26, 27, 28, 29, 30, 31, 32, 33, 34, 35, 36, 37, 38, 39, 40, 41, 42, 43] (fun (v : Nat) => [(15, .int .i64 (v : Int))]) (fun (v : Nat) W => Mem w [] [.blk b6 90 (ints [0, 0, 0, 0, 0]), .blk b7 90 (ints (thrTo (tabN nx) x n v))] W ∧ v ≤ k) (fun (v : Nat) => k - v) ((0) : Nat) ?_ ?_ ?_
  · exact ⟨rfl, trivial⟩
  · exact ⟨hm, Nat.zero_le _⟩
  · rintro v u W ⟨hm, hv⟩
    refine wc_seq ?_
    refine wc_region ?_
    refine wl_y (y_lss rfl rfl) ?_
    refine wl_nil ?_
    refine then_normal ?_
    refine wc_seq ?_
    refine wc_cond_dec rfl (fun h1 => ?_) (fun h1 => ?_)
    · skip
      refine wc_skip ?_
      refine then_normal ?_
      refine wc_seq ?_
      refine wc_block ?_
      refine wc_seq ?_
      refine wc_region ?_
      refine wl_y (y_move (by conv => lhs; whnf)) ?_
      refine wl_y (y_assign (by conv => lhs; whnf)) ?_
      refine wl_nil ?_
      refine then_normal ?_
      refine wc_seq ?_
      refine wc_region ?_
      refine wl_y (y_move (by conv => lhs; whnf)) ?_
      refine wl_y (y_assign (by conv => lhs; whnf)) ?_
      refine wl_nil ?_
      refine then_normal ?_
      refine wc_seq ?_
      refine wc_seq ?_
      refine wc_region ?_
      refine wl_y (y_assign (by conv => lhs; whnf)) ?_
      refine wl_nil ?_
      refine then_normal ?_
      refine wc_block ?_
      refine wc_loop [9, 10, 19, 20, 21, 22, 23, 24, 25, 26, 27, 28, 29, 30, 31, 32, 33, 34, 35, 36, 37, 38, 39] (fun (j : Nat) => [(10, .int .i64 (j : Int)), (9, .int .i64 (walkTo (tabN nx) x j v))]) (fun (j : Nat) W => Mem w [] [.blk b6 90 (ints [0, 0, 0, 0, 0]), .blk b7 90 (ints (thrTo (tabN nx) x n v))] W ∧ j ≤ n) (fun (j : Nat) => n - j) ((0) : Nat) ?_ ?_ ?_
      · exact ⟨rfl, rfl, trivial⟩
      · exact ⟨hm, Nat.zero_le _⟩
      · rintro j u W ⟨hm, hj⟩
        refine wc_seq ?_
        refine wc_seq ?_
        refine wc_region ?_
        refine wl_y (y_move (by conv => lhs; whnf)) ?_
        refine wl_y (y_move (by conv => lhs; whnf)) ?_
        refine wl_y (y_lss rfl rfl) ?_
        refine wl_split rfl (fun h2 => ?_) (fun h2 => ?_)
        · skip
          refine wl_guard_yes rfl ?_
          refine wl_y (y_move (by conv => lhs; whnf)) ?_
          refine wl_guard_yes rfl ?_
          refine wl_y (y_geq rfl rfl) ?_
          refine wl_y (y_pick_true rfl (by conv => lhs; whnf)) ?_
          refine wl_nil ?_
          refine then_normal ?_
          refine wc_cond_dec rfl (fun h3 => ?_) (fun h3 => ?_)
          · have hwo := walk_ok ho x (v := (v : Int)) (by omega) j
            have hsh : x >>> j ≤ x := Nat.shiftRight_le ..
            have hand : x >>> j &&& 1 < 2 := by rw [Nat.and_one_is_mod]; omega
            refine wc_skip ?_
            refine then_normal ?_
            refine wc_seq ?_
            refine wc_block ?_
            refine wc_region ?_
            refine wl_y (y_move (by conv => lhs; whnf)) ?_
            refine wl_y (y_move (by conv => lhs; whnf)) ?_
            refine wl_y (y_move (by conv => lhs; whnf)) ?_
            refine wl_y (y_move (by conv => lhs; whnf)) ?_
            refine wl_y (y_conv rfl Try.underlying3 Try.underlying39 (IntWalk.u64_in _ (by omega))) ?_
            refine wl_y (y_shrN rfl rfl (by omega)) ?_
            refine wl_y (y_and1 rfl rfl (by omega)) ?_
            refine wl_y (y_nilCheck rfl) ?_
            refine wl_y (y_fieldAddr (off := 1) (ft := 92) rfl Try.underlying94 rfl ti92) ?_
            refine wl_y (y_indexArr rfl rfl (by omega) Try.underlying92 ti27) ?_
            refine wl_y (y_indexArr rfl rfl (by omega) Try.underlying27 ti3) ?_
            refine wl_y (y_load (v := .int .i64 (tabN nx (walkTo (tabN nx) x j v).toNat (x >>> j &&& 1))) rfl ((hn.step hm.upd).nextI (by omega) hand) Try.underlying3 rfl) ?_
            refine wl_y (y_assign (by conv => lhs; whnf)) ?_
            refine wl_nil ?_
            refine block_normal ?_
            refine then_normal ?_
            refine wc_region ?_
            refine wl_y (y_move (by conv => lhs; whnf)) ?_
            refine wl_y (y_add64 rfl rfl (by omega)) ?_
            refine wl_y (y_assign (by conv => lhs; whnf)) ?_
            refine wl_nil ?_
            refine next_round (σ := Nat) (j + 1) rfl (by repeat first | exact out_hav | refine out_look rfl ?_ | refine out_havIn rfl ?_) ⟨rfl, (by rw [walkTo, if_pos (by omega), ← Nat.and_one_is_mod]; rfl), trivial⟩ ⟨hm, by omega⟩ (by (try dsimp only); omega)
          · have hend : walkTo (tabN nx) x n v = walkTo (tabN nx) x j v := walk_stay (by omega) (by omega)
            refine wc_exit ?_
            refine then_exit ?_
            refine then_exit ?_
            refine block_exit ?_
            refine then_normal ?_
            refine wc_region ?_
            refine wl_y (y_move (by conv => lhs; whnf)) ?_
            refine wl_y (y_move (by conv => lhs; whnf)) ?_
            refine wl_y (y_indexArr rfl rfl (by omega) Try.underlying90 ti3) ?_
            refine wl_store1 (i := 1) (v := .int .i64 (walkTo (tabN nx) x j v)) hm rfl rfl rfl ti3 (by simp [thrTo_len]; omega) rfl rfl (fun W hm => ?_)
            refine wl_nil ?_
            refine block_normal ?_
            refine then_normal ?_
            refine wc_region ?_
            refine wl_y (y_add64 rfl rfl (by omega)) ?_
            refine wl_y (y_move (by conv => lhs; whnf)) ?_
            refine wl_nil ?_
            rw [ints_set0, ← hend, thrTo_set (by omega)] at hm
            refine next_round (σ := Nat) (v + 1) rfl (by repeat first | exact out_hav | refine out_look rfl ?_ | refine out_havIn rfl ?_) ⟨rfl, trivial⟩ ⟨hm, by omega⟩ (by (try dsimp only); omega)
        · have hjn : n = j := by omega
          have hend : walkTo (tabN nx) x n v = walkTo (tabN nx) x j v := by rw [hjn]
          refine wl_guard_no rfl ?_
          refine wl_guard_no rfl ?_
          refine wl_y (y_pick_false rfl (by conv => lhs; whnf)) ?_
          refine wl_nil ?_
          refine then_normal ?_
          refine wc_cond_false rfl ?_
          refine wc_exit ?_
          refine then_exit ?_
          refine then_exit ?_
          refine block_exit ?_
          refine then_normal ?_
          refine wc_region ?_
          refine wl_y (y_move (by conv => lhs; whnf)) ?_
          refine wl_y (y_move (by conv => lhs; whnf)) ?_
          refine wl_y (y_indexArr rfl rfl (by omega) Try.underlying90 ti3) ?_
          refine wl_store1 (i := 1) (v := .int .i64 (walkTo (tabN nx) x j v)) hm rfl rfl rfl ti3 (by simp [thrTo_len]; omega) rfl rfl (fun W hm => ?_)
          refine wl_nil ?_
          refine block_normal ?_
          refine then_normal ?_
          refine wc_region ?_
          refine wl_y (y_add64 rfl rfl (by omega)) ?_
          refine wl_y (y_move (by conv => lhs; whnf)) ?_
          refine wl_nil ?_
          rw [ints_set0, ← hend, thrTo_set (by omega)] at hm
          refine next_round (σ := Nat) (v + 1) rfl (by repeat first | exact out_hav | refine out_look rfl ?_ | refine out_havIn rfl ?_) ⟨rfl, trivial⟩ ⟨hm, by omega⟩ (by (try dsimp only); omega)
    · obtain rfl : v = k := by omega
      refine wc_exit ?_
      refine then_exit ?_
      refine then_exit ?_
      refine block_exit ?_
      refine then_normal ?_
      refine wc_seq ?_
      refine wc_region ?_
      refine wl_y (y_loadBlk rfl (hm.at (i := 1) rfl) Try.underlying90 rfl ti90) ?_
      refine wl_storeBlk (i := 0) hm rfl rfl rfl ti90 rfl rfl (by first | exact ints_one _ | decide | simp [Value.cells, Value.oneCell']) (fun W hm => ?_)
      refine wl_nil ?_
      refine then_normal ?_
      refine wc_ret ?_
      refine post_ret (results_c1 rfl rfl (run_loadVar_agg (hm.at (i := 0) rfl) Try.underlying90 rfl ti90)) ?_
      exact ⟨rfl, hm.upd⟩
end Go.Proofs.Ytofpdjpenmhbnaa
namespace Go.Proofs.Ytofpdjpenmhbnaa
open Go Go.Kx
theorem hb64 : HasBody Try.prog 64 := hasBody Try.func64 (by kernel_rfl) (by kernel_rfl)
theorem hb65 : HasBody Try.prog 65 := hasBody Try.func65 (by kernel_rfl) (by kernel_rfl)
theorem hb90 : HasBody Try.prog 90 := hasBody Try.func90 (by kernel_rfl) (by kernel_rfl)
set_option maxHeartbeats 4000000 in
theorem Rounds_yes (w : World) (vl : Value) (ps : List (Int × Int)) (n : Int) (hl : SlAt w 2 vl ps.length (prs ps)) (hok : NetOk ps) :
    Cl Try.prog 23 [vl, .int .i64 n].toArray w (Ret w (.tuple (if 1 ≤ n ∧ n ≤ 10 then #[.int .i64 (roundsTo (tabR ps) ps.length n.toNat (2 ^ n.toNat) : Nat), .int .i64 0] else #[.int .i64 0, .int .i64 1]))) := by
  have hm : Mem w [] [] w := Mem.init w
  refine cl_enter_marks Try.func23 rfl Try.ntmps23 rfl ?_
  refine wc_seq ?_
  refine wc_region ?_
  refine wl_box hm (by conv => lhs; whnf) (fun W b3 hm hb3 hu => ?_)
  refine wl_y (y_assign (by conv => lhs; whnf)) ?_
  refine wl_y (y_assign (by conv => lhs; whnf)) ?_
  refine wl_nil ?_
  refine then_normal ?_
  refine wc_seq ?_
  refine wc_region ?_
  refine wl_y (y_move (by conv => lhs; whnf)) ?_
  refine wl_callM hm hb54 (open_yes _ _ ps (hl.step hm.upd) hok) rfl rfl (fun W v15 E hm hu hE => ?_)
  obtain ⟨bn, nx, rfl, rfl, hnet⟩ := hE
  have ho := hnet.okf
  have hk5 := ho.k5
  refine wl_y (y_move (by conv => lhs; whnf)) ?_
  refine wl_y (y_extract rfl rfl) ?_
  refine wl_y (y_extract rfl rfl) ?_
  refine wl_alloc hm ti72 (fun W b6 hm hb6 hu => ?_)
  refine wl_store1 (i := 2) hm rfl (by conv => lhs; whnf) rfl ti72 (by first | decide | simp) rfl rfl (fun W hm => ?_)
  refine wl_y (y_assign (by conv => lhs; whnf)) ?_
  refine wl_nil ?_
  refine then_normal ?_
  refine wc_seq ?_
  refine wc_seq ?_
  refine wc_region ?_
  refine wl_y (y_move (by conv => lhs; whnf)) ?_
  refine wl_y (y_neq rfl rfl) ?_
  refine wl_nil ?_
  refine then_normal ?_
  refine wc_cond_dec rfl (fun h1 => ?_) (fun h1 => ?_)
  · exact absurd rfl h1
  · skip
    refine wc_skip ?_
    refine then_normal ?_
    refine wc_seq ?_
    refine wc_seq ?_
    refine wc_region ?_
    refine wl_y (y_load rfl (hm.blk_cell 0 rfl rfl) Try.underlying3 rfl) ?_
    refine wl_y (y_lss rfl rfl) ?_
    refine wl_split rfl (fun h2 => ?_) (fun h2 => ?_)
    · skip
      refine wl_guard_no rfl ?_
      refine wl_guard_no rfl ?_
      refine wl_y (y_pick_true rfl (by conv => lhs; whnf)) ?_
      refine wl_nil ?_
      refine then_normal ?_
      refine wc_cond_true rfl ?_
      refine wc_seq ?_
      refine wc_region ?_
      refine wl_y (y_assign (by conv => lhs; whnf)) ?_
      refine wl_y (y_assign (by conv => lhs; whnf)) ?_
      refine wl_nil ?_
      refine then_normal ?_
      refine wc_ret ?_
      refine then_ret ?_
      refine post_ret0M (results_fr2 rfl) ?_
      refine ⟨?_, hm.upd⟩
      rw [if_neg (by omega)]; rfl
    · skip
      refine wl_guard_yes rfl ?_
      refine wl_y (y_load rfl (hm.blk_cell 0 rfl rfl) Try.underlying3 rfl) ?_
      refine wl_guard_yes rfl ?_
      refine wl_y (y_gtr rfl rfl) ?_
      refine wl_y (y_pick_false rfl (by conv => lhs; whnf)) ?_
      refine wl_nil ?_
      refine then_normal ?_
      refine wc_cond_dec rfl (fun h3 => ?_) (fun h3 => ?_)
      · skip
        refine wc_seq ?_
        refine wc_region ?_
        refine wl_y (y_assign (by conv => lhs; whnf)) ?_
        refine wl_y (y_assign (by conv => lhs; whnf)) ?_
        refine wl_nil ?_
        refine then_normal ?_
        refine wc_ret ?_
        refine then_ret ?_
        refine post_ret0M (results_fr2 rfl) ?_
        refine ⟨?_, hm.upd⟩
        rw [if_neg (by omega)]; rfl
      · have hn : 1 ≤ n ∧ n ≤ 10 := by omega
        obtain ⟨m, rfl⟩ : ∃ m : Nat, n = m := ⟨n.toNat, by omega⟩
        have hp10 : 2 ^ m ≤ 2 ^ 10 := Nat.pow_le_pow_right (by decide) (by omega)
        refine wc_skip ?_
        refine then_normal ?_
        refine wc_seq ?_
        refine wc_region ?_
        refine wl_alloc hm ti3 (fun W b8 hm hb8 hu => ?_)
        refine wl_store1 (i := 3) hm rfl (by conv => lhs; whnf) rfl ti3 (by first | decide | simp) rfl rfl (fun W hm => ?_)
        refine wl_nil ?_
        refine then_normal ?_
        refine wc_seq ?_
        refine wc_seq ?_
        refine wc_region ?_
        refine wl_y (y_load rfl (hm.blk_cell 0 rfl rfl) Try.underlying3 rfl) ?_
        refine wl_callM hm hb64 (every_calls _ _) rfl rfl (fun W v28 E hm hu hE => ?_)
        obtain ⟨b1w, rfl, rfl⟩ := hE
        refine wl_nil ?_
        refine then_normal ?_
        refine wc_block ?_
        have hm : Mem w [] ([.blk b3 3 [.int .i64 (m : Int)], .blk bn 94 (netCells ps.length nx), .blk b6 72 [pb bn], .blk b8 3 [.int .i64 0]] ++ [.blk b1w 3 [.int .i64 (m : Int)]]) W := hm
        refine wc_rangeFunc hm rfl hb90 (upto (2 ^ m)) (fun ys E => E = [.blk b3 3 [.int .i64 (m : Int)], .blk bn 94 (netCells ps.length nx), .blk b6 72 [pb bn], .blk b8 3 [.int .i64 (roundsTo (tabN nx) ps.length m ys.length : Nat)]]) (fun _ => False) ([]) (rfl) (fun ys E h e he => by cases he) (fun lp J D F W hY hD hs hJ hf => every1_calls J D _ m lp b1w W F hY (hD (fun _ h => h)) (by omega) rfl hJ hf) (fun bd lp fnn ys v rest E wr SR rr hL hE hrr hSR hm => ?_) (fun bd lp r W E hE hm => ?_) (fun bd lp r W E hE hm => ?_)
        · subst hE
          obtain ⟨hys, rfl, hlt⟩ := upto_item hL
          have hrle := rounds_le (tabN nx) ps.length m ys.length
          refine wc_region ?_
          refine wl_y (y_assign (by conv => lhs; whnf)) ?_
          refine wl_nil ?_
          refine begin_round hrr hm (fun W hm => ?_)
          refine wc_block ?_
          refine wc_seq ?_
          refine wc_region ?_
          refine wl_y (y_load rfl (hm.blk_cell 4 rfl rfl) Try.underlying72 rfl) ?_
          refine wl_y (y_move (by conv => lhs; whnf)) ?_
          refine wl_y (y_load rfl (hm.blk_cell 2 rfl rfl) Try.underlying3 rfl) ?_
          refine wl_callR hm hb65 (through_calls _ _ _ _ ys.length m (⟨hm.at (i := 3) rfl, hnet.nx.1⟩ : NetAt _ _ _ _) ho (by omega) (by omega)) rfl rfl (fun W hm hu => ?_)
          refine wl_alloc hm ti90 (fun W b10 hm hb10 hu => ?_)
          refine wl_storeBlk (i := 6) (vs := ints (thrTo (tabN nx) ys.length m ps.length)) hm rfl rfl rfl ti90 (by simp [thrTo_len]) rfl (ints_one _) (fun W hm => ?_)
          refine wl_nil ?_
          refine then_normal ?_
          refine wc_seq ?_
          refine wc_region ?_
          refine wl_y (y_load rfl (hm.blk_cell 4 rfl rfl) Try.underlying72 rfl) ?_
          refine wl_y (y_nilCheck rfl) ?_
          refine wl_y (y_fieldAddr (off := 0) (ft := 3) rfl Try.underlying94 rfl ti3) ?_
          refine wl_y (y_load rfl (hm.blk_cell 3 rfl rfl) Try.underlying3 rfl) ?_
          refine wl_y (y_move (by conv => lhs; whnf)) ?_
          refine wl_nil ?_
          refine then_normal ?_
          refine wc_block ?_
          refine wc_loop [11, 12, 38, 39, 40, 41, 42, 43, 44, 45, 46, 47, 48, 49, 50, 51, 52, 53, 54, 55, 56, 57, 58] (fun (s : Nat) => [(38, .int .i64 (s : Int))]) (fun (s : Nat) W => Mem wr SR [blockEn bd, loopEn lp (rr .busy none), .blk b3 3 [.int .i64 (m : Int)], .blk bn 94 (netCells ps.length nx), .blk b6 72 [pb bn], .blk b8 3 [.int .i64 (roundsTo (tabN nx) ps.length m ys.length : Nat)], .blk b10 90 (ints (thrTo (tabN nx) ys.length m ps.length))] W ∧ s ≤ ps.length ∧ roundTo (tabN nx) ps.length ys.length m s = false) (fun (s : Nat) => ps.length - s) ((0) : Nat) ?_ ?_ ?_
          · exact ⟨rfl, trivial⟩
          · exact ⟨hm, Nat.zero_le _, rfl⟩
          · rintro s u W ⟨hm, hs, hrd⟩
            refine wc_seq ?_
            refine wc_region ?_
            refine wl_y (y_lss rfl rfl) ?_
            refine wl_nil ?_
            refine then_normal ?_
            refine wc_seq ?_
            refine wc_cond_dec rfl (fun h4 => ?_) (fun h4 => ?_)
            · skip
              refine wc_skip ?_
              refine then_normal ?_
              refine wc_seq ?_
              refine wc_block ?_
              refine wc_seq ?_
              refine wc_region ?_
              refine wl_y (y_move (by conv => lhs; whnf)) ?_
              refine wl_y (y_assign (by conv => lhs; whnf)) ?_
              refine wl_nil ?_
              refine then_normal ?_
              refine wc_seq ?_
              refine wc_region ?_
              refine wl_y (y_move (by conv => lhs; whnf)) ?_
              refine wl_y (y_assign (by conv => lhs; whnf)) ?_
              refine wl_nil ?_
              refine then_normal ?_
              refine wc_seq ?_
              refine wc_seq ?_
              refine wc_region ?_
              refine wl_y (y_load rfl (hm.blk_cell 4 rfl rfl) Try.underlying72 rfl) ?_
              refine wl_y (y_nilCheck rfl) ?_
              refine wl_y (y_fieldAddr (off := 0) (ft := 3) rfl Try.underlying94 rfl ti3) ?_
              refine wl_y (y_load rfl (hm.blk_cell 3 rfl rfl) Try.underlying3 rfl) ?_
              refine wl_y (y_move (by conv => lhs; whnf)) ?_
              refine wl_nil ?_
              refine then_normal ?_
              refine wc_block ?_
              refine wc_loop [12, 46, 47, 48, 49, 50, 51, 52, 53] (fun (j : Nat) => [(46, .int .i64 (j : Int)), (12, .int .i64 (iterW (tabN nx) ys.length m j s))]) (fun (j : Nat) W => Mem wr SR [blockEn bd, loopEn lp (rr .busy none), .blk b3 3 [.int .i64 (m : Int)], .blk bn 94 (netCells ps.length nx), .blk b6 72 [pb bn], .blk b8 3 [.int .i64 (roundsTo (tabN nx) ps.length m ys.length : Nat)], .blk b10 90 (ints (thrTo (tabN nx) ys.length m ps.length))] W ∧ j ≤ ps.length) (fun (j : Nat) => ps.length - j) ((0) : Nat) ?_ ?_ ?_
              · exact ⟨rfl, rfl, trivial⟩
              · exact ⟨hm, Nat.zero_le _⟩
              · rintro j u W ⟨hm, hj⟩
                refine wc_seq ?_
                refine wc_region ?_
                refine wl_y (y_lss rfl rfl) ?_
                refine wl_nil ?_
                refine then_normal ?_
                refine wc_seq ?_
                refine wc_cond_dec rfl (fun h5 => ?_) (fun h5 => ?_)
                · skip
                  refine wc_skip ?_
                  refine then_normal ?_
                  refine wc_seq ?_
                  refine wc_block ?_
                  refine wc_seq ?_
                  refine wc_region ?_
                  refine wl_y (y_move (by conv => lhs; whnf)) ?_
                  refine wl_y (y_geq rfl rfl) ?_
                  refine wl_nil ?_
                  refine then_normal ?_
                  refine wc_cond_dec rfl (fun h6 => ?_) (fun h6 => ?_)
                  · have hio := iter_ok ho ys.length m (v := (s : Int)) (by omega) j
                    refine wc_region ?_
                    refine wl_y (y_move (by conv => lhs; whnf)) ?_
                    refine wl_y (y_indexArr rfl rfl (by omega) Try.underlying90 ti3) ?_
                    refine wl_y (y_load (v := .int .i64 (walkTo (tabN nx) ys.length m (iterW (tabN nx) ys.length m j s))) rfl (hm.blk_cell 6 rfl (thr_at (by omega) (by omega))) Try.underlying3 rfl) ?_
                    refine wl_y (y_assign (by conv => lhs; whnf)) ?_
                    refine wl_nil ?_
                    refine block_normal ?_
                    refine then_normal ?_
                    refine wc_region ?_
                    refine wl_y (y_add64 rfl rfl (by omega)) ?_
                    refine wl_y (y_move (by conv => lhs; whnf)) ?_
                    refine wl_nil ?_
                    refine next_round (σ := Nat) (j + 1) rfl (by repeat first | exact out_hav | refine out_look rfl ?_ | refine out_havIn rfl ?_) ⟨rfl, (by first | (rw [iterW, if_pos (by assumption)]; rfl) | (rw [iterW, if_neg (by assumption)]; rfl)), trivial⟩ ⟨hm, by omega⟩ (by (try dsimp only); omega)
                  · skip
                    refine wc_skip ?_
                    refine block_normal ?_
                    refine then_normal ?_
                    refine wc_region ?_
                    refine wl_y (y_add64 rfl rfl (by omega)) ?_
                    refine wl_y (y_move (by conv => lhs; whnf)) ?_
                    refine wl_nil ?_
                    refine next_round (σ := Nat) (j + 1) rfl (by repeat first | exact out_hav | refine out_look rfl ?_ | refine out_havIn rfl ?_) ⟨rfl, (by first | (rw [iterW, if_pos (by assumption)]; rfl) | (rw [iterW, if_neg (by assumption)]; rfl)), trivial⟩ ⟨hm, by omega⟩ (by (try dsimp only); omega)
                · obtain rfl : j = ps.length := by omega
                  refine wc_exit ?_
                  refine then_exit ?_
                  refine then_exit ?_
                  refine block_exit ?_
                  refine then_normal ?_
                  refine wc_seq ?_
                  refine wc_region ?_
                  refine wl_y (y_move (by conv => lhs; whnf)) ?_
                  refine wl_y (y_geq rfl rfl) ?_
                  refine wl_nil ?_
                  refine then_normal ?_
                  refine wc_cond_dec rfl (fun h7 => ?_) (fun h7 => ?_)
                  · have hrb := round_yes (f := tabN nx) (w := ys.length) (n := m) (by omega : s < ps.length) h7
                    refine wc_seq ?_
                    refine wc_region ?_
                    refine wl_y (y_load rfl (hm.blk_cell 5 rfl rfl) Try.underlying3 rfl) ?_
                    refine wl_y (y_add64 rfl rfl (by omega)) ?_
                    refine wl_store1 (i := 5) hm rfl (by conv => lhs; whnf) rfl ti3 (by first | decide | simp) rfl rfl (fun W hm => ?_)
                    refine wl_nil ?_
                    refine then_normal ?_
                    refine wc_exit ?_
                    refine block_exit' rfl ?_
                    refine then_exit ?_
                    refine then_exit ?_
                    refine block_exit ?_
                    refine block_normal ?_
                    have hrt : roundsTo (tabN nx) ps.length m (ys ++ [Value.int .i64 (ys.length : Nat)]).length = roundsTo (tabN nx) ps.length m ys.length + 1 := by rw [List.length_append]; show roundsTo _ _ _ (ys.length + 1) = _; simp only [roundsTo]; rw [if_pos hrb]
                    exact end_round hrr hSR (hm.take 6) (by rw [hrt]; rfl)
                  · have hrs := round_step hrd h7
                    refine wc_skip ?_
                    refine block_normal ?_
                    refine then_normal ?_
                    refine wc_region ?_
                    refine wl_y (y_add64 rfl rfl (by omega)) ?_
                    refine wl_y (y_move (by conv => lhs; whnf)) ?_
                    refine wl_nil ?_
                    refine next_round (σ := Nat) (s + 1) rfl (by repeat first | exact out_hav | refine out_look rfl ?_ | refine out_havIn rfl ?_) ⟨rfl, trivial⟩ ⟨hm, by omega, hrs⟩ (by (try dsimp only); omega)
            · obtain rfl : s = ps.length := by omega
              refine wc_exit ?_
              refine then_exit ?_
              refine then_exit ?_
              refine block_exit ?_
              refine block_normal ?_
              have hrb : ¬ roundB (tabN nx) ps.length ys.length m = true := by unfold roundB; rw [hrd]; decide
              have hrt : roundsTo (tabN nx) ps.length m (ys ++ [Value.int .i64 (ys.length : Nat)]).length = roundsTo (tabN nx) ps.length m ys.length := by rw [List.length_append]; show roundsTo _ _ _ (ys.length + 1) = _; simp only [roundsTo]; rw [if_neg hrb, Nat.add_zero]
              exact end_round hrr hSR (hm.take 6) (by rw [hrt]; rfl)
        · subst hE
          refine block_normal ?_
          refine then_normal ?_
          refine wc_seq ?_
          refine wc_region ?_
          refine wl_y (y_load rfl (hm.blk_cell 5 rfl rfl) Try.underlying3 rfl) ?_
          refine wl_y (y_assign (by conv => lhs; whnf)) ?_
          refine wl_y (y_assign (by conv => lhs; whnf)) ?_
          refine wl_nil ?_
          refine then_normal ?_
          refine wc_ret ?_
          refine post_retM hm (fun W hm => results_fr2 rfl) (fun W hm => ?_)
          refine ⟨?_, hm.upd⟩
          rw [if_pos hn, Int.toNat_natCast, ← hnet.rounds, show roundsTo (tabN nx) ps.length m (2 ^ m) = roundsTo (tabN nx) ps.length m (upto (2 ^ m)).length by rw [upto_len]]; rfl
        · exact hE.elim

set_option maxHeartbeats 4000000 in
theorem Rounds_no (w : World) (vl : Value) (ps : List (Int × Int)) (n : Int) (hl : SlAt w 2 vl ps.length (prs ps)) (hok : ¬ NetOk ps) :
    Cl Try.prog 23 [vl, .int .i64 n].toArray w (Ret w (.tuple #[.int .i64 0, .int .i64 70])) := by
  have hm : Mem w [] [] w := Mem.init w
  refine cl_enter_marks Try.func23 rfl Try.ntmps23 rfl ?_
  refine wc_seq ?_
  refine wc_region ?_
  refine wl_box hm (by conv => lhs; whnf) (fun W b3 hm hb3 hu => ?_)
  refine wl_y (y_assign (by conv => lhs; whnf)) ?_
  refine wl_y (y_assign (by conv => lhs; whnf)) ?_
  refine wl_nil ?_
  refine then_normal ?_
  refine wc_seq ?_
  refine wc_region ?_
  refine wl_y (y_move (by conv => lhs; whnf)) ?_
  refine wl_callR hm hb54 (open_no _ _ _ (hl.step hm.upd) hok) rfl rfl (fun W hm hu => ?_)
  refine wl_y (y_move (by conv => lhs; whnf)) ?_
  refine wl_y (y_extract rfl rfl) ?_
  refine wl_y (y_extract rfl rfl) ?_
  refine wl_alloc hm ti72 (fun W b6 hm hb6 hu => ?_)
  refine wl_store1 (i := 1) hm rfl (by conv => lhs; whnf) rfl ti72 (by first | decide | simp) rfl rfl (fun W hm => ?_)
  refine wl_y (y_assign (by conv => lhs; whnf)) ?_
  refine wl_nil ?_
  refine then_normal ?_
  refine wc_seq ?_
  refine wc_seq ?_
  refine wc_region ?_
  refine wl_y (y_move (by conv => lhs; whnf)) ?_
  refine wl_y (y_neq rfl rfl) ?_
  refine wl_nil ?_
  refine then_normal ?_
  refine wc_cond_dec rfl (fun h1 => ?_) (fun h1 => ?_)
  · skip
    refine wc_seq ?_
    refine wc_region ?_
    refine wl_y (y_move (by conv => lhs; whnf)) ?_
    refine wl_y (y_assign (by conv => lhs; whnf)) ?_
    refine wl_y (y_assign (by conv => lhs; whnf)) ?_
    refine wl_nil ?_
    refine then_normal ?_
    refine wc_ret ?_
    refine then_ret ?_
    refine post_ret0M (results_fr2 rfl) ?_
    exact ⟨rfl, hm.upd⟩
  · exfalso
    omega

theorem Rounds_calls (w : World) (vl : Value) (ps : List (Int × Int)) (n : Int) (hl : SlAt w 2 vl ps.length (prs ps)) :
    Cl Try.prog 23 [vl, .int .i64 n].toArray w (Ret w (.tuple #[.int .i64 (roundsV ps n).1, .int .i64 (roundsV ps n).2])) := by
  by_cases hok : NetOk ps
  · have h := Rounds_yes w vl ps n hl hok
    rw [show (.tuple #[.int .i64 (roundsV ps n).1, .int .i64 (roundsV ps n).2] : Value) = .tuple (if 1 ≤ n ∧ n ≤ 10 then #[.int .i64 (roundsTo (tabR ps) ps.length n.toNat (2 ^ n.toNat) : Nat), .int .i64 0] else #[.int .i64 0, .int .i64 1]) by simp only [roundsV, if_pos hok]; split <;> rfl]; exact h
  · have h := Rounds_no w vl ps n hl hok
    rw [show (.tuple #[.int .i64 (roundsV ps n).1, .int .i64 (roundsV ps n).2] : Value) = .tuple #[.int .i64 0, .int .i64 70] by simp [roundsV, hok]]; exact h
end Go.Proofs.Ytofpdjpenmhbnaa
namespace Go.Proofs.Ytofpdjpenmhbnaa
open Go Go.Kx
theorem hb89 : HasBody Try.prog 89 := hasBody Try.func89 (by kernel_rfl) (by kernel_rfl)
set_option maxHeartbeats 4000000 in
theorem OnesCount64_calls (w : World) (c : Nat) (hc : c < 32) : Cl Try.prog 89 [.int .u64 (c : Int)].toArray w (Ret w (.int .i64 (popF c : Nat))) := by
  have hm : Mem w [] [] w := Mem.init w
  refine cl_enter Try.func89 rfl Try.ntmps89 rfl ?_
  refine wc_seq ?_
  refine wc_region ?_
  refine wl_y (y_assign (by conv => lhs; whnf)) ?_
  refine wl_nil ?_
  refine then_normal ?_
  refine wc_seq ?_
  refine wc_region ?_
  refine wl_y (y_move (by conv => lhs; whnf)) ?_
  refine wl_y (y_shr rfl rfl (by decide)) ?_
  refine wl_y (y_andB rfl rfl) ?_
  refine wl_y (y_move (by conv => lhs; whnf)) ?_
  refine wl_y (y_andB rfl rfl) ?_
  refine wl_y (y_add rfl rfl) ?_
  refine wl_y (y_assign (by conv => lhs; whnf)) ?_
  refine wl_nil ?_
  refine then_normal ?_
  refine wc_seq ?_
  refine wc_region ?_
  refine wl_y (y_move (by conv => lhs; whnf)) ?_
  refine wl_y (y_shr rfl rfl (by decide)) ?_
  refine wl_y (y_andB rfl rfl) ?_
  refine wl_y (y_move (by conv => lhs; whnf)) ?_
  refine wl_y (y_andB rfl rfl) ?_
  refine wl_y (y_add rfl rfl) ?_
  refine wl_y (y_assign (by conv => lhs; whnf)) ?_
  refine wl_nil ?_
  refine then_normal ?_
  refine wc_seq ?_
  refine wc_region ?_
  refine wl_y (y_move (by conv => lhs; whnf)) ?_
  refine wl_y (y_shr rfl rfl (by decide)) ?_
  refine wl_y (y_move (by conv => lhs; whnf)) ?_
  refine wl_y (y_add rfl rfl) ?_
  refine wl_y (y_andB rfl rfl) ?_
  refine wl_y (y_assign (by conv => lhs; whnf)) ?_
  refine wl_nil ?_
  refine then_normal ?_
  refine wc_seq ?_
  refine wc_region ?_
  refine wl_y (y_move (by conv => lhs; whnf)) ?_
  refine wl_y (y_move (by conv => lhs; whnf)) ?_
  refine wl_y (y_shr rfl rfl (by decide)) ?_
  refine wl_y (y_add rfl rfl) ?_
  refine wl_y (y_assign (by conv => lhs; whnf)) ?_
  refine wl_nil ?_
  refine then_normal ?_
  refine wc_seq ?_
  refine wc_region ?_
  refine wl_y (y_move (by conv => lhs; whnf)) ?_
  refine wl_y (y_move (by conv => lhs; whnf)) ?_
  refine wl_y (y_shr rfl rfl (by decide)) ?_
  refine wl_y (y_add rfl rfl) ?_
  refine wl_y (y_assign (by conv => lhs; whnf)) ?_
  refine wl_nil ?_
  refine then_normal ?_
  refine wc_seq ?_
  refine wc_region ?_
  refine wl_y (y_move (by conv => lhs; whnf)) ?_
  refine wl_y (y_move (by conv => lhs; whnf)) ?_
  refine wl_y (y_shr rfl rfl (by decide)) ?_
  refine wl_y (y_add rfl rfl) ?_
  refine wl_y (y_assign (by conv => lhs; whnf)) ?_
  refine wl_nil ?_
  refine then_normal ?_
  refine wc_seq ?_
  refine wc_region ?_
  refine wl_y (y_move (by conv => lhs; whnf)) ?_
  refine wl_y (y_convW rfl Try.underlying125 Try.underlying3) ?_
  refine wl_y (y_andB rfl rfl) ?_
  refine wl_y (y_assign (by conv => lhs; whnf)) ?_
  refine wl_nil ?_
  refine then_normal ?_
  refine wc_ret ?_
  refine post_ret (results_fr rfl) ?_
  refine ⟨congrArg (fun z => Ending.returned (Value.int .i64 z)) (?_ : _ = ((popF c : Nat) : Int)), hm.upd⟩
  clear hm
  revert c
  decide +kernel

set_option maxHeartbeats 4000000 in
theorem OnesCount_calls (w : World) (c : Nat) (hc : c < 32) : Cl Try.prog 59 [.int .u64 (c : Int)].toArray w (Ret w (.int .i64 (popF c : Nat))) := by
  have hm : Mem w [] [] w := Mem.init w
  refine cl_enter Try.func59 rfl Try.ntmps59 rfl ?_
  refine wc_seq ?_
  refine wc_region ?_
  refine wl_y (y_assign (by conv => lhs; whnf)) ?_
  refine wl_nil ?_
  refine then_normal ?_
  refine wc_seq ?_
  refine wc_cond_false rfl ?_
  refine wc_skip ?_
  refine then_normal ?_
  refine wc_seq ?_
  refine wc_region ?_
  refine wl_y (y_move (by conv => lhs; whnf)) ?_
  refine wl_callR hm hb89 (OnesCount64_calls _ _ hc) rfl rfl (fun W hm hu => ?_)
  refine wl_y (y_assign (by conv => lhs; whnf)) ?_
  refine wl_nil ?_
  refine then_normal ?_
  refine wc_ret ?_
  refine post_ret (results_fr rfl) ?_
  exact ⟨rfl, hm.upd⟩
end Go.Proofs.Ytofpdjpenmhbnaa
namespace Go.Proofs.Ytofpdjpenmhbnaa
open Go Go.Kx

set_option maxHeartbeats 4000000 in
theorem texts_calls (w : World) (v1 v2 : Value) (a c : List ByteArray) (hl1 : SlAt w 1 v1 a.length (strs a)) (hl2 : SlAt w 1 v2 c.length (strs c)) (ha : a.length ≤ 1000000) :
    Cl Try.prog 47 [v1, v2].toArray w (Ret w (.bool (decide (a = c)))) := by
  have hm : Mem w [] [] w := Mem.init w
  refine cl_enter Try.func47 rfl Try.ntmps47 rfl ?_
  refine wc_seq ?_
  refine wc_region ?_
  refine wl_y (y_assign (by conv => lhs; whnf)) ?_
  refine wl_nil ?_
  refine then_normal ?_
  refine wc_seq ?_
  refine wc_seq ?_
  refine wc_region ?_
  refine wl_y (y_move (by conv => lhs; whnf)) ?_
  refine wl_y (y_lenSl (by conv => lhs; whnf) (hl1.step hm.upd) Try.underlying47) ?_
  refine wl_y (y_move (by conv => lhs; whnf)) ?_
  refine wl_y (y_lenSl (by conv => lhs; whnf) (hl2.step hm.upd) Try.underlying47) ?_
  refine wl_y (y_neq rfl rfl) ?_
  refine wl_nil ?_
  refine then_normal ?_
  refine wc_cond_dec rfl (fun h1 => ?_) (fun h1 => ?_)
  · have hne : ¬ a = c := fun e => h1 (by rw [e])
    refine wc_seq ?_
    refine wc_region ?_
    refine wl_y (y_assign (by conv => lhs; whnf)) ?_
    refine wl_nil ?_
    refine then_normal ?_
    refine wc_ret ?_
    refine then_ret ?_
    refine post_ret (results_fr rfl) ?_
    refine ⟨?_, hm.upd⟩
    rw [decide_eq_false hne]; rfl
  · have hlen : a.length = c.length := by omega
    refine wc_skip ?_
    refine then_normal ?_
    refine wc_seq ?_
    refine wc_seq ?_
    refine wc_region ?_
    refine wl_y (y_assign (by conv => lhs; whnf)) ?_
    refine wl_nil ?_
    refine then_normal ?_
    refine wc_block ?_
    refine wc_loop [4, 5, 11, 12, 13, 14, 15, 16, 17, 18, 19, 20, 21, 22, 23, 24, 25] (fun (i : Nat) => [(5, .int .i64 (i : Int))]) (fun (i : Nat) W => Mem w [] [] W ∧ i ≤ a.length ∧ ∀ j, j < i → a.getD j ByteArray.empty = c.getD j ByteArray.empty) (fun (i : Nat) => a.length - i) ((0) : Nat) ?_ ?_ ?_
    · exact ⟨rfl, trivial⟩
    · exact ⟨hm, Nat.zero_le _, by omega⟩
    · rintro i u W ⟨hm, hi, hj⟩
      refine wc_seq ?_
      refine wc_seq ?_
      refine wc_region ?_
      refine wl_y (y_move (by conv => lhs; whnf)) ?_
      refine wl_y (y_move (by conv => lhs; whnf)) ?_
      refine wl_y (y_lenSl (by conv => lhs; whnf) (hl1.step hm.upd) Try.underlying47) ?_
      refine wl_y (y_lss rfl rfl) ?_
      refine wl_nil ?_
      refine then_normal ?_
      refine wc_cond_dec rfl (fun h2 => ?_) (fun h2 => ?_)
      · skip
        refine wc_skip ?_
        refine then_normal ?_
        refine wc_seq ?_
        refine wc_block ?_
        refine wc_seq ?_
        refine wc_quiet (C := fun W => Mem w [] [] W) mix (by kernel_rfl) (by kernel_rfl) (hm.step (upd_drew _)) ?_
        refine q_y (fun W hm => y_move (by conv => lhs; whnf)) ?_
        refine q_y (fun W hm => y_move (by conv => lhs; whnf)) ?_
        refine q_y (fun W hm => y_indexAddr (by conv => lhs; whnf) rfl (hl1.step hm.upd) (by omega) Try.underlying47 ti9 (by decide)) ?_
        refine q_y (fun W hm => y_loadSl rfl (hl1.step hm.upd) (by first | exact strs_atN (by omega) | exact strs_atI (by omega)) Try.underlying9 rfl) ?_
        refine q_y (fun W hm => y_move (by conv => lhs; whnf)) ?_
        refine q_y (fun W hm => y_move (by conv => lhs; whnf)) ?_
        refine q_y (fun W hm => y_indexAddr (by conv => lhs; whnf) rfl (hl2.step hm.upd) (by omega) Try.underlying47 ti9 (by decide)) ?_
        refine q_y (fun W hm => y_loadSl rfl (hl2.step hm.upd) (by first | exact strs_atN (by omega) | exact strs_atI (by omega)) Try.underlying9 rfl) ?_
        refine q_y (fun W hm => y_neqStr (by conv => lhs; whnf) (by conv => lhs; whnf)) ?_
        refine q_nil (fun W hm => ?_)
        refine then_normal ?_
        refine wc_cond_dec rfl (fun h3 => ?_) (fun h3 => ?_)
        · have hne : ¬ a = c := fun e => h3 (by rw [e])
          refine wc_seq ?_
          refine wc_region ?_
          refine wl_y (y_assign (by conv => lhs; whnf)) ?_
          refine wl_nil ?_
          refine then_normal ?_
          refine wc_ret ?_
          refine block_ret ?_
          refine then_ret ?_
          refine then_ret ?_
          refine block_ret ?_
          refine then_ret ?_
          refine post_ret (results_fr rfl) ?_
          refine ⟨?_, hm.upd⟩
          rw [decide_eq_false hne]; rfl
        · have hit : a.getD i ByteArray.empty = c.getD i ByteArray.empty := by first | exact Decidable.of_not_not h3
          refine wc_skip ?_
          refine block_normal ?_
          refine then_normal ?_
          refine wc_region ?_
          refine wl_y (y_move (by conv => lhs; whnf)) ?_
          refine wl_y (y_add64 rfl rfl (by omega)) ?_
          refine wl_y (y_assign (by conv => lhs; whnf)) ?_
          refine wl_nil ?_
          refine next_round (σ := Nat) (i + 1) rfl (by repeat first | exact out_hav | refine out_look rfl ?_ | refine out_havIn rfl ?_) ⟨rfl, trivial⟩ ⟨hm, by omega, allLt hj hit⟩ (by (try dsimp only); omega)
      · obtain rfl : i = a.length := by omega
        refine wc_exit ?_
        refine then_exit ?_
        refine then_exit ?_
        refine block_exit ?_
        refine then_normal ?_
        refine wc_seq ?_
        refine wc_region ?_
        refine wl_y (y_assign (by conv => lhs; whnf)) ?_
        refine wl_nil ?_
        refine then_normal ?_
        refine wc_ret ?_
        refine post_ret (results_fr rfl) ?_
        refine ⟨?_, hm.upd⟩
        rw [decide_eq_true (eq_of_getD ByteArray.empty hlen hj)]; rfl

end Go.Proofs.Ytofpdjpenmhbnaa
namespace Go.Proofs.Ytofpdjpenmhbnaa
open Go Go.Kx
theorem hb29 : HasBody Try.prog 29 := hasBody Try.func29 (by kernel_rfl) (by kernel_rfl)
end Go.Proofs.Ytofpdjpenmhbnaa
namespace Go.Proofs.Ytofpdjpenmhbnaa
open Go Go.Kx

set_option maxHeartbeats 4000000 in
theorem sign_calls (w : World) (ts : List Int) (set : Nat) (h5 : ts.length = 5) (hts : ∀ v, v < 5 → -1 ≤ ts.getD v 0 ∧ ts.getD v 0 < 5) (hset : set < 32) :
    Cl Try.prog 66 [.agg (ints ts).toArray, .int .i64 (set : Int)].toArray w (Ret w (.int .i64 (sgV ts set))) := by
  have hm : Mem w [] [] w := Mem.init w
  refine cl_enter Try.func66 rfl Try.ntmps66 rfl ?_
  refine wc_seq ?_
  refine wc_region ?_
  refine wl_box (v := .agg (ints ts).toArray) hm rfl (fun W b2 hm hb2 hu => ?_)
  refine wl_y (y_assign (by conv => lhs; whnf)) ?_
  refine wl_nil ?_
  refine then_normal ?_
  refine wc_seq ?_
  refine wc_region ?_
  refine wl_y (y_assign (by conv => lhs; whnf)) ?_
  refine wl_nil ?_
  refine then_normal ?_
  refine wc_seq ?_
  refine wc_region ?_
  refine wl_y (y_assign (by conv => lhs; whnf)) ?_
  refine wl_nil ?_
  refine then_normal ?_
  refine wc_seq ?_
  refine wc_region ?_
  refine wl_y (y_assign (by conv => lhs; whnf)) ?_
  have hm := hm.ownNil 3 1
  refine wl_nil ?_
  refine then_normal ?_
  refine wc_seq ?_
  refine wc_seq ?_
  refine wc_region ?_
  refine wl_y (y_loadBlk (xs := ints ts) rfl (hm.at (i := 0) rfl) Try.underlying90 rfl (by rw [show (ints ts).length = 5 by simp [h5]]; exact ti90)) ?_
  refine wl_y (y_move (by conv => lhs; whnf)) ?_
  refine wl_nil ?_
  refine then_normal ?_
  refine wc_block ?_
  refine wc_loop [4, 5, 6, 7, 8, 9, 11, 13, 14, 15, 16, 17, 18, 19, 20, 21, 22, 23, 24, 25, 26, 27, 28, 29, 30, 31, 32, 33, 34, 35, 36, 37, 38, 39, 40, 41, 42, 43, 44, 45, 46, 47, 48, 49, 50, 51, 52, 53, 54, 55, 56, 57, 58, 59, 60, 61, 62] (fun ((v, ud, s, l, vl) : Nat × Nat × Int × List Int × Value) => [(13, .int .i64 (v : Int)), (5, .int .i64 (ud : Int)), (6, .int .i64 s), (7, vl)]) (fun ((v, ud, s, l, vl) : Nat × Nat × Int × List Int × Value) W => Mem w [] [.blk b2 90 (ints ts), .own 3 1 vl l.length (ints l)] W ∧ v ≤ 5 ∧ sgTo ts set v = some (ud, s, l) ∧ ud < 32 ∧ (s = 1 ∨ s = -1) ∧ l.length ≤ v) (fun ((v, ud, s, l, vl) : Nat × Nat × Int × List Int × Value) => 5 - v) ((0, 0, 1, [], .slice none 0 0) : Nat × Nat × Int × List Int × Value) ?_ ?_ ?_
  · exact ⟨rfl, rfl, rfl, rfl, trivial⟩
  · exact ⟨hm, Nat.zero_le _, rfl, by decide, .inl rfl, Nat.le_refl _⟩
  · rintro ⟨v, ud, s, l, vl⟩ u W ⟨hm, hv, hst, hu32, hs1, hll⟩
    refine wc_seq ?_
    refine wc_region ?_
    refine wl_y (y_lss rfl rfl) ?_
    refine wl_nil ?_
    refine then_normal ?_
    refine wc_seq ?_
    refine wc_cond_dec rfl (fun h1 => ?_) (fun h1 => ?_)
    · have hv5 : v < 5 := by omega
      have hb := hts v hv5
      have hsv : set >>> v ≤ set := Nat.shiftRight_le ..
      have hand := Nat.and_one_is_mod (set >>> v)
      refine wc_skip ?_
      refine then_normal ?_
      refine wc_seq ?_
      refine wc_block ?_
      refine wc_seq ?_
      refine wc_region ?_
      refine wl_y (y_move (by conv => lhs; whnf)) ?_
      refine wl_y (y_index (v := .int .i64 (ts.getD v 0)) rfl rfl (by omega) Try.underlying90 ti3 Try.underlying3 rfl (ints_arr (by omega))) ?_
      refine wl_y (y_assign (by conv => lhs; whnf)) ?_
      refine wl_y (y_assign (by conv => lhs; whnf)) ?_
      refine wl_nil ?_
      refine then_normal ?_
      refine wc_seq ?_
      refine wc_seq ?_
      refine wc_region ?_
      refine wl_y (y_move (by conv => lhs; whnf)) ?_
      refine wl_y (y_move (by conv => lhs; whnf)) ?_
      refine wl_y (y_conv rfl Try.underlying3 Try.underlying39 (IntWalk.u64_in _ (by omega))) ?_
      refine wl_y (y_shrN rfl rfl (by omega)) ?_
      refine wl_y (y_and1 rfl rfl (by omega)) ?_
      refine wl_y (y_eql rfl rfl) ?_
      refine wl_nil ?_
      refine then_normal ?_
      refine wc_cond_dec rfl (fun h2 => ?_) (fun h2 => ?_)
      · have hnx := sg_skip hst (by omega)
        refine wc_exit ?_
        refine then_exit ?_
        refine block_exit ?_
        refine then_normal ?_
        refine wc_region ?_
        refine wl_y (y_add64 rfl rfl (by omega)) ?_
        refine wl_y (y_move (by conv => lhs; whnf)) ?_
        refine wl_nil ?_
        refine next_round (σ := Nat × Nat × Int × List Int × Value) (v + 1, ud, s, l, vl) rfl (by repeat first | exact out_hav | refine out_look rfl ?_ | refine out_havIn rfl ?_) ⟨rfl, rfl, rfl, rfl, trivial⟩ ⟨hm, by omega, hnx, hu32, hs1, by omega⟩ (by (try dsimp only); omega)
      · have hbit : ¬ (set >>> v) % 2 = 0 := by omega
        have hst1 : set >>> (ts.getD v 0).toNat ≤ set := Nat.shiftRight_le ..
        have hst2 : ud >>> (ts.getD v 0).toNat ≤ ud := Nat.shiftRight_le ..
        have hand1 := Nat.and_one_is_mod (set >>> (ts.getD v 0).toNat)
        have hand2 := Nat.and_one_is_mod (ud >>> (ts.getD v 0).toNat)
        refine wc_skip ?_
        refine then_normal ?_
        refine wc_seq ?_
        refine wc_seq ?_
        refine wc_region ?_
        refine wl_y (y_move (by conv => lhs; whnf)) ?_
        refine wl_y (y_lss rfl rfl) ?_
        refine wl_split rfl (fun h3 => ?_) (fun h3 => ?_)
        · skip
          refine wl_guard_no rfl ?_
          refine wl_guard_no rfl ?_
          refine wl_guard_no rfl ?_
          refine wl_guard_no rfl ?_
          refine wl_guard_no rfl ?_
          refine wl_guard_no rfl ?_
          refine wl_y (y_pick_true rfl (by conv => lhs; whnf)) ?_
          refine wl_y (y_move (by conv => lhs; whnf)) ?_
          refine wl_guard_no rfl ?_
          refine wl_guard_no rfl ?_
          refine wl_guard_no rfl ?_
          refine wl_guard_no rfl ?_
          refine wl_guard_no rfl ?_
          refine wl_guard_no rfl ?_
          refine wl_y (y_pick_true rfl (by conv => lhs; whnf)) ?_
          refine wl_nil ?_
          refine then_normal ?_
          refine wc_cond_true rfl ?_
          refine wc_seq ?_
          refine wc_region ?_
          refine wl_y (y_assign (by conv => lhs; whnf)) ?_
          refine wl_nil ?_
          refine then_normal ?_
          refine wc_ret ?_
          refine then_ret ?_
          refine block_ret ?_
          refine then_ret ?_
          refine then_ret ?_
          refine block_ret ?_
          refine then_ret ?_
          refine post_ret (results_fr rfl) ?_
          refine ⟨?_, hm.upd⟩
          rw [sg_bad (v := v) (x := (ud, s, l)) hv5 hst hbit (.inl (by omega))]; rfl
        · skip
          refine wl_guard_yes rfl ?_
          refine wl_y (y_move (by conv => lhs; whnf)) ?_
          refine wl_guard_yes rfl ?_
          refine wl_y (y_move (by conv => lhs; whnf)) ?_
          refine wl_guard_yes rfl ?_
          refine wl_y (y_conv rfl Try.underlying3 Try.underlying39 (IntWalk.u64_in _ (by omega))) ?_
          refine wl_guard_yes rfl ?_
          refine wl_y (y_shrNI (m := set) rfl rfl (by omega)) ?_
          refine wl_guard_yes rfl ?_
          refine wl_y (y_and1 rfl rfl (by omega)) ?_
          refine wl_guard_yes rfl ?_
          refine wl_y (y_eql rfl rfl) ?_
          refine wl_y (y_pick_false rfl (by conv => lhs; whnf)) ?_
          refine wl_split rfl (fun h4 => ?_) (fun h4 => ?_)
          · skip
            refine wl_guard_no rfl ?_
            refine wl_guard_no rfl ?_
            refine wl_guard_no rfl ?_
            refine wl_guard_no rfl ?_
            refine wl_guard_no rfl ?_
            refine wl_guard_no rfl ?_
            refine wl_y (y_pick_true rfl (by conv => lhs; whnf)) ?_
            refine wl_nil ?_
            refine then_normal ?_
            refine wc_cond_true rfl ?_
            refine wc_seq ?_
            refine wc_region ?_
            refine wl_y (y_assign (by conv => lhs; whnf)) ?_
            refine wl_nil ?_
            refine then_normal ?_
            refine wc_ret ?_
            refine then_ret ?_
            refine block_ret ?_
            refine then_ret ?_
            refine then_ret ?_
            refine block_ret ?_
            refine then_ret ?_
            refine post_ret (results_fr rfl) ?_
            refine ⟨?_, hm.upd⟩
            rw [sg_bad (v := v) (x := (ud, s, l)) hv5 hst hbit (.inr (.inl (by omega)))]; rfl
          · skip
            refine wl_guard_yes rfl ?_
            refine wl_y (y_move (by conv => lhs; whnf)) ?_
            refine wl_guard_yes rfl ?_
            refine wl_y (y_move (by conv => lhs; whnf)) ?_
            refine wl_guard_yes rfl ?_
            refine wl_y (y_conv rfl Try.underlying3 Try.underlying39 (IntWalk.u64_in _ (by omega))) ?_
            refine wl_guard_yes rfl ?_
            refine wl_y (y_shrNI (m := ud) rfl rfl (by omega)) ?_
            refine wl_guard_yes rfl ?_
            refine wl_y (y_and1 rfl rfl (by omega)) ?_
            refine wl_guard_yes rfl ?_
            refine wl_y (y_eql rfl rfl) ?_
            refine wl_y (y_pick_false rfl (by conv => lhs; whnf)) ?_
            refine wl_nil ?_
            refine then_normal ?_
            refine wc_cond_dec rfl (fun h5 => ?_) (fun h5 => ?_)
            · skip
              refine wc_seq ?_
              refine wc_region ?_
              refine wl_y (y_assign (by conv => lhs; whnf)) ?_
              refine wl_nil ?_
              refine then_normal ?_
              refine wc_ret ?_
              refine then_ret ?_
              refine block_ret ?_
              refine then_ret ?_
              refine then_ret ?_
              refine block_ret ?_
              refine then_ret ?_
              refine post_ret (results_fr rfl) ?_
              refine ⟨?_, hm.upd⟩
              rw [sg_bad (v := v) (x := (ud, s, l)) hv5 hst hbit (.inr (.inr (by show (ud >>> _) % 2 = 1; omega)))]; rfl
            · have hnb : ¬ sgBad ts set ud v := fun hb2 => by rcases hb2 with h | h | h <;> omega
              have hnx := sg_more hst hbit hnb
              have hpw : 2 ^ (ts.getD v 0).toNat ≤ 16 := two_pow_small (k := 5) (by omega) (by decide)
              have hor : ud ||| 2 ^ (ts.getD v 0).toNat < 2 ^ 5 := Nat.or_lt_two_pow (by omega) (by omega)
              refine wc_skip ?_
              refine then_normal ?_
              refine wc_seq ?_
              refine wc_region ?_
              refine wl_y (y_move (by conv => lhs; whnf)) ?_
              refine wl_y (y_move (by conv => lhs; whnf)) ?_
              refine wl_y (y_conv rfl Try.underlying3 Try.underlying39 (IntWalk.u64_in _ (by omega))) ?_
              refine wl_y (y_bitI rfl rfl (by omega)) ?_
              refine wl_y (y_orN rfl rfl (by omega)) ?_
              refine wl_y (y_assign (by conv => lhs; whnf)) ?_
              refine wl_nil ?_
              refine then_normal ?_
              refine wc_seq ?_
              refine wc_seq ?_
              refine wc_region ?_
              refine wl_y (y_move (by conv => lhs; whnf)) ?_
              refine wl_y (y_lenSl (by conv => lhs; whnf) (hm.slAt 1 rfl) Try.underlying55) ?_
              refine wl_y (y_move (by conv => lhs; whnf)) ?_
              refine wl_nil ?_
              refine then_normal ?_
              refine wc_block ?_
              refine wc_loop [6, 11, 48, 49, 50, 51, 52, 53, 54, 55, 56, 57] (fun (j : Nat) => [(48, .int .i64 (j : Int)), (6, .int .i64 (negTo l (ts.getD v 0) s j))]) (fun (j : Nat) W => Mem w [] [.blk b2 90 (ints ts), .own 3 1 vl l.length (ints l)] W ∧ j ≤ l.length) (fun (j : Nat) => l.length - j) ((0) : Nat) ?_ ?_ ?_
              · exact ⟨rfl, rfl, trivial⟩
              · exact ⟨hm, Nat.zero_le _⟩
              · rintro j u W ⟨hm, hj⟩
                refine wc_seq ?_
                refine wc_region ?_
                refine wl_y (y_lss rfl rfl) ?_
                refine wl_nil ?_
                refine then_normal ?_
                refine wc_seq ?_
                refine wc_cond_dec rfl (fun h6 => ?_) (fun h6 => ?_)
                · have hpm := negTo_pm (l := l) (to := (ts.getD v 0)) hs1 j
                  refine wc_skip ?_
                  refine then_normal ?_
                  refine wc_seq ?_
                  refine wc_block ?_
                  refine wc_seq ?_
                  refine wc_region ?_
                  refine wl_y (y_indexAddr (by conv => lhs; whnf) rfl (hm.slAt 1 rfl) (by omega) Try.underlying55 ti3 (by decide)) ?_
                  refine wl_y (y_loadSl rfl (hm.slAt 1 rfl) (by first | exact ints_atN (by omega) | exact ints_atI (by omega)) Try.underlying3 rfl) ?_
                  refine wl_y (y_assign (by conv => lhs; whnf)) ?_
                  refine wl_nil ?_
                  refine then_normal ?_
                  refine wc_seq ?_
                  refine wc_region ?_
                  refine wl_y (y_move (by conv => lhs; whnf)) ?_
                  refine wl_y (y_move (by conv => lhs; whnf)) ?_
                  refine wl_y (y_gtr rfl rfl) ?_
                  refine wl_nil ?_
                  refine then_normal ?_
                  refine wc_cond_dec rfl (fun h7 => ?_) (fun h7 => ?_)
                  · skip
                    refine wc_region ?_
                    refine wl_y (y_move (by conv => lhs; whnf)) ?_
                    refine wl_y (y_neg64 rfl (by omega)) ?_
                    refine wl_y (y_assign (by conv => lhs; whnf)) ?_
                    refine wl_nil ?_
                    refine block_normal ?_
                    refine then_normal ?_
                    refine wc_region ?_
                    refine wl_y (y_add64 rfl rfl (by omega)) ?_
                    refine wl_y (y_move (by conv => lhs; whnf)) ?_
                    refine wl_nil ?_
                    refine next_round (σ := Nat) (j + 1) rfl (by repeat first | exact out_hav | refine out_look rfl ?_ | refine out_havIn rfl ?_) ⟨rfl, (by first | (rw [negTo, if_pos (by omega)]; rfl) | (rw [negTo, if_neg (by omega)]; rfl)), trivial⟩ ⟨hm, by omega⟩ (by (try dsimp only); omega)
                  · skip
                    refine wc_skip ?_
                    refine block_normal ?_
                    refine then_normal ?_
                    refine wc_region ?_
                    refine wl_y (y_add64 rfl rfl (by omega)) ?_
                    refine wl_y (y_move (by conv => lhs; whnf)) ?_
                    refine wl_nil ?_
                    refine next_round (σ := Nat) (j + 1) rfl (by repeat first | exact out_hav | refine out_look rfl ?_ | refine out_havIn rfl ?_) ⟨rfl, (by first | (rw [negTo, if_pos (by omega)]; rfl) | (rw [negTo, if_neg (by omega)]; rfl)), trivial⟩ ⟨hm, by omega⟩ (by (try dsimp only); omega)
                · obtain rfl : j = l.length := by omega
                  refine wc_exit ?_
                  refine then_exit ?_
                  refine then_exit ?_
                  refine block_exit ?_
                  refine then_normal ?_
                  refine wc_region ?_
                  refine wl_y (y_move (by conv => lhs; whnf)) ?_
                  refine wl_y (y_move (by conv => lhs; whnf)) ?_
                  refine wl_lit1 hm (by conv => lhs; whnf) Try.underlying55 ti3 rfl (by decide) (fun W v60 hm hu => ?_)
                  refine wl_appendTo (i := 1) hm (by conv => lhs; whnf) (by conv => lhs; whnf) rfl (hm.slAt 2 rfl) (ints_snoc _ _) Try.underlying55 ti3 rfl (by decide) (by simp [Value.cells, Value.oneCell']) (by omega) (fun W v61 hm hv61 => ?_)
                  have hm := hm.take 2
                  refine wl_y (y_assign (by conv => lhs; whnf)) ?_
                  refine wl_nil ?_
                  refine block_normal ?_
                  refine then_normal ?_
                  refine wc_region ?_
                  refine wl_y (y_add64 rfl rfl (by omega)) ?_
                  refine wl_y (y_move (by conv => lhs; whnf)) ?_
                  refine wl_nil ?_
                  refine next_round (σ := Nat × Nat × Int × List Int × Value) (v + 1, ud ||| 2 ^ (ts.getD v 0).toNat, negTo l (ts.getD v 0) s l.length, l ++ [(ts.getD v 0)], v61) rfl (by repeat first | exact out_hav | refine out_look rfl ?_ | refine out_havIn rfl ?_) ⟨rfl, rfl, rfl, rfl, trivial⟩ ⟨by rw [List.length_append]; exact hm, by omega, hnx, by omega, negTo_pm hs1 _, by rw [List.length_append]; simp; omega⟩ (by (try dsimp only); omega)
    · obtain rfl : v = 5 := by omega
      refine wc_exit ?_
      refine then_exit ?_
      refine then_exit ?_
      refine block_exit ?_
      refine then_normal ?_
      refine wc_seq ?_
      refine wc_region ?_
      refine wl_y (y_move (by conv => lhs; whnf)) ?_
      refine wl_y (y_assign (by conv => lhs; whnf)) ?_
      refine wl_nil ?_
      refine then_normal ?_
      refine wc_ret ?_
      refine post_ret (results_fr rfl) ?_
      refine ⟨?_, hm.upd⟩
      unfold sgV
      rw [hst]; rfl
end Go.Proofs.Ytofpdjpenmhbnaa
namespace Go.Proofs.Ytofpdjpenmhbnaa
open Go Go.Kx
theorem hb95 : HasBody Try.prog 95 := hasBody Try.func95 (by kernel_rfl) (by kernel_rfl)
set_option maxHeartbeats 4000000 in
theorem Min_calls (w : World) (vl : Value) (zs : List Int) (hl : SlAt w 1 vl zs.length (ints zs)) (hz1 : 1 ≤ zs.length ∧ zs.length ≤ 1000000) :
    Cl Try.prog 95 [vl].toArray w (Ret w (.int .i64 (minTo zs (zs.length - 1)))) := by
  have hm : Mem w [] [] w := Mem.init w
  refine cl_enter Try.func95 rfl Try.ntmps95 rfl ?_
  refine wc_seq ?_
  refine wc_region ?_
  refine wl_y (y_assign (by conv => lhs; whnf)) ?_
  refine wl_nil ?_
  refine then_normal ?_
  refine wc_seq ?_
  refine wc_seq ?_
  refine wc_region ?_
  refine wl_y (y_move (by conv => lhs; whnf)) ?_
  refine wl_y (y_lenSl (by conv => lhs; whnf) (hl.step hm.upd) Try.underlying55) ?_
  refine wl_y (y_lss rfl rfl) ?_
  refine wl_nil ?_
  refine then_normal ?_
  refine wc_cond_dec rfl (fun h1 => ?_) (fun h1 => ?_)
  · exfalso
    omega
  · skip
    refine wc_skip ?_
    refine then_normal ?_
    refine wc_seq ?_
    refine wc_region ?_
    refine wl_y (y_move (by conv => lhs; whnf)) ?_
    refine wl_y (y_indexAddr (by conv => lhs; whnf) rfl (hl.step hm.upd) (by omega) Try.underlying55 ti3 (by decide)) ?_
    refine wl_y (y_loadSl rfl (hl.step hm.upd) (by first | exact ints_atN (by omega) | exact ints_atI (by omega)) Try.underlying3 rfl) ?_
    refine wl_y (y_assign (by conv => lhs; whnf)) ?_
    refine wl_nil ?_
    refine then_normal ?_
    refine wc_seq ?_
    refine wc_seq ?_
    refine wc_region ?_
    refine wl_y (y_assign (by conv => lhs; whnf)) ?_
    refine wl_nil ?_
    refine then_normal ?_
    refine wc_block ?_
    refine wc_loop [3, 4, 12, 13, 14, 15, 16, 17, 18, 19, 20, 21, 22, 23] (fun (j : Nat) => [(4, .int .i64 ((j + 1 : Nat) : Int)), (3, .int .i64 (minTo zs j))]) (fun (j : Nat) W => Mem w [] [] W ∧ j + 1 ≤ zs.length) (fun (j : Nat) => zs.length - j) ((0) : Nat) ?_ ?_ ?_
    · exact ⟨rfl, rfl, trivial⟩
    · exact ⟨hm, hz1.1⟩
    · rintro j u W ⟨hm, hj⟩
      refine wc_seq ?_
      refine wc_seq ?_
      refine wc_region ?_
      refine wl_y (y_move (by conv => lhs; whnf)) ?_
      refine wl_y (y_move (by conv => lhs; whnf)) ?_
      refine wl_y (y_lenSl (by conv => lhs; whnf) (hl.step hm.upd) Try.underlying55) ?_
      refine wl_y (y_lss rfl rfl) ?_
      refine wl_nil ?_
      refine then_normal ?_
      refine wc_cond_dec rfl (fun h2 => ?_) (fun h2 => ?_)
      · skip
        refine wc_skip ?_
        refine then_normal ?_
        refine wc_seq ?_
        refine wc_block ?_
        refine wc_region ?_
        refine wl_y (y_move (by conv => lhs; whnf)) ?_
        refine wl_y (y_move (by conv => lhs; whnf)) ?_
        refine wl_y (y_move (by conv => lhs; whnf)) ?_
        refine wl_y (y_indexAddr (by conv => lhs; whnf) rfl (hl.step hm.upd) (by omega) Try.underlying55 ti3 (by decide)) ?_
        refine wl_y (y_loadSl rfl (hl.step hm.upd) (by first | exact ints_atN (by omega) | exact ints_atI (by omega)) Try.underlying3 rfl) ?_
        refine wl_y (y_min rfl rfl) ?_
        refine wl_y (y_assign (by conv => lhs; whnf)) ?_
        refine wl_nil ?_
        refine block_normal ?_
        refine then_normal ?_
        refine wc_region ?_
        refine wl_y (y_move (by conv => lhs; whnf)) ?_
        refine wl_y (y_add64 rfl rfl (by omega)) ?_
        refine wl_y (y_assign (by conv => lhs; whnf)) ?_
        refine wl_nil ?_
        refine next_round (σ := Nat) (j + 1) rfl (by repeat first | exact out_hav | refine out_look rfl ?_ | refine out_havIn rfl ?_) ⟨rfl, rfl, trivial⟩ ⟨hm, by omega⟩ (by (try dsimp only); omega)
      · obtain hjl : j = zs.length - 1 := by omega
        refine wc_exit ?_
        refine then_exit ?_
        refine then_exit ?_
        refine block_exit ?_
        refine then_normal ?_
        refine wc_seq ?_
        refine wc_region ?_
        refine wl_y (y_move (by conv => lhs; whnf)) ?_
        refine wl_y (y_assign (by conv => lhs; whnf)) ?_
        refine wl_nil ?_
        refine then_normal ?_
        refine wc_ret ?_
        refine post_ret (results_fr rfl) ?_
        refine ⟨?_, hm.upd⟩
        rw [← hjl]; rfl

set_option maxHeartbeats 4000000 in
theorem least_calls (w : World) (vl : Value) (zs : List Int) (hl : SlAt w 1 vl zs.length (ints zs)) (hz1 : 1 ≤ zs.length ∧ zs.length ≤ 1000000) :
    Cl Try.prog 78 [vl].toArray w (Ret w (.int .i64 (minTo zs (zs.length - 1)))) := by
  have hm : Mem w [] [] w := Mem.init w
  refine cl_enter Try.func78 rfl Try.ntmps78 rfl ?_
  refine wc_seq ?_
  refine wc_region ?_
  refine wl_y (y_assign (by conv => lhs; whnf)) ?_
  refine wl_nil ?_
  refine then_normal ?_
  refine wc_seq ?_
  refine wc_region ?_
  refine wl_y (y_move (by conv => lhs; whnf)) ?_
  refine wl_callR hm hb95 (Min_calls _ _ _ (hl.step hm.upd) hz1) rfl rfl (fun W hm hu => ?_)
  refine wl_y (y_assign (by conv => lhs; whnf)) ?_
  refine wl_nil ?_
  refine then_normal ?_
  refine wc_ret ?_
  refine post_ret (results_fr rfl) ?_
  exact ⟨rfl, hm.upd⟩

set_option maxHeartbeats 4000000 in
theorem EqualInts_calls (w : World) (v1 v2 : Value) (a c : List Int) (hl1 : SlAt w 1 v1 a.length (ints a)) (hl2 : SlAt w 1 v2 c.length (ints c)) (ha : a.length ≤ 1000000) :
    Cl Try.prog 94 [v1, v2].toArray w (Ret w (.bool (decide (a = c)))) := by
  have hm : Mem w [] [] w := Mem.init w
  refine cl_enter Try.func94 rfl Try.ntmps94 rfl ?_
  refine wc_seq ?_
  refine wc_region ?_
  refine wl_y (y_assign (by conv => lhs; whnf)) ?_
  refine wl_nil ?_
  refine then_normal ?_
  refine wc_seq ?_
  refine wc_seq ?_
  refine wc_region ?_
  refine wl_y (y_move (by conv => lhs; whnf)) ?_
  refine wl_y (y_lenSl (by conv => lhs; whnf) (hl1.step hm.upd) Try.underlying55) ?_
  refine wl_y (y_move (by conv => lhs; whnf)) ?_
  refine wl_y (y_lenSl (by conv => lhs; whnf) (hl2.step hm.upd) Try.underlying55) ?_
  refine wl_y (y_neq rfl rfl) ?_
  refine wl_nil ?_
  refine then_normal ?_
  refine wc_cond_dec rfl (fun h1 => ?_) (fun h1 => ?_)
  · have hne : ¬ a = c := fun e => h1 (by rw [e])
    refine wc_seq ?_
    refine wc_region ?_
    refine wl_y (y_assign (by conv => lhs; whnf)) ?_
    refine wl_nil ?_
    refine then_normal ?_
    refine wc_ret ?_
    refine then_ret ?_
    refine post_ret (results_fr rfl) ?_
    refine ⟨?_, hm.upd⟩
    rw [decide_eq_false hne]; rfl
  · have hlen : a.length = c.length := by omega
    refine wc_skip ?_
    refine then_normal ?_
    refine wc_seq ?_
    refine wc_seq ?_
    refine wc_region ?_
    refine wl_y (y_move (by conv => lhs; whnf)) ?_
    refine wl_y (y_lenSl (by conv => lhs; whnf) (hl1.step hm.upd) Try.underlying55) ?_
    refine wl_y (y_move (by conv => lhs; whnf)) ?_
    refine wl_nil ?_
    refine then_normal ?_
    refine wc_block ?_
    refine wc_loop [4, 5, 13, 14, 15, 16, 17, 18, 19, 20, 21, 22, 23, 24, 25] (fun (i : Nat) => [(13, .int .i64 (i : Int))]) (fun (i : Nat) W => Mem w [] [] W ∧ i ≤ a.length ∧ ∀ j, j < i → a.getD j 0 = c.getD j 0) (fun (i : Nat) => a.length - i) ((0) : Nat) ?_ ?_ ?_
    · exact ⟨rfl, trivial⟩
    · exact ⟨hm, Nat.zero_le _, by omega⟩
    · rintro i u W ⟨hm, hi, hj⟩
      refine wc_seq ?_
      refine wc_region ?_
      refine wl_y (y_lss rfl rfl) ?_
      refine wl_nil ?_
      refine then_normal ?_
      refine wc_seq ?_
      refine wc_cond_dec rfl (fun h2 => ?_) (fun h2 => ?_)
      · skip
        refine wc_skip ?_
        refine then_normal ?_
        refine wc_seq ?_
        refine wc_block ?_
        refine wc_seq ?_
        refine wc_region ?_
        refine wl_y (y_move (by conv => lhs; whnf)) ?_
        refine wl_y (y_assign (by conv => lhs; whnf)) ?_
        refine wl_nil ?_
        refine then_normal ?_
        refine wc_seq ?_
        refine wc_quiet (C := fun W => Mem w [] [] W) mix (by kernel_rfl) (by kernel_rfl) (hm.step (upd_drew _)) ?_
        refine q_y (fun W hm => y_move (by conv => lhs; whnf)) ?_
        refine q_y (fun W hm => y_move (by conv => lhs; whnf)) ?_
        refine q_y (fun W hm => y_indexAddr (by conv => lhs; whnf) rfl (hl1.step hm.upd) (by omega) Try.underlying55 ti3 (by decide)) ?_
        refine q_y (fun W hm => y_loadSl rfl (hl1.step hm.upd) (by first | exact ints_atN (by omega) | exact ints_atI (by omega)) Try.underlying3 rfl) ?_
        refine q_y (fun W hm => y_move (by conv => lhs; whnf)) ?_
        refine q_y (fun W hm => y_move (by conv => lhs; whnf)) ?_
        refine q_y (fun W hm => y_indexAddr (by conv => lhs; whnf) rfl (hl2.step hm.upd) (by omega) Try.underlying55 ti3 (by decide)) ?_
        refine q_y (fun W hm => y_loadSl rfl (hl2.step hm.upd) (by first | exact ints_atN (by omega) | exact ints_atI (by omega)) Try.underlying3 rfl) ?_
        refine q_y (fun W hm => y_neq rfl rfl) ?_
        refine q_nil (fun W hm => ?_)
        refine then_normal ?_
        refine wc_cond_dec rfl (fun h3 => ?_) (fun h3 => ?_)
        · have hne : ¬ a = c := fun e => h3 (by rw [e])
          refine wc_seq ?_
          refine wc_region ?_
          refine wl_y (y_assign (by conv => lhs; whnf)) ?_
          refine wl_nil ?_
          refine then_normal ?_
          refine wc_ret ?_
          refine block_ret ?_
          refine then_ret ?_
          refine then_ret ?_
          refine block_ret ?_
          refine then_ret ?_
          refine post_ret (results_fr rfl) ?_
          refine ⟨?_, hm.upd⟩
          rw [decide_eq_false hne]; rfl
        · have hit : a.getD i 0 = c.getD i 0 := Decidable.of_not_not h3
          refine wc_skip ?_
          refine block_normal ?_
          refine then_normal ?_
          refine wc_region ?_
          refine wl_y (y_add64 rfl rfl (by omega)) ?_
          refine wl_y (y_move (by conv => lhs; whnf)) ?_
          refine wl_nil ?_
          refine next_round (σ := Nat) (i + 1) rfl (by repeat first | exact out_hav | refine out_look rfl ?_ | refine out_havIn rfl ?_) ⟨rfl, trivial⟩ ⟨hm, by omega, allLt hj hit⟩ (by (try dsimp only); omega)
      · obtain rfl : i = a.length := by omega
        refine wc_exit ?_
        refine then_exit ?_
        refine then_exit ?_
        refine block_exit ?_
        refine then_normal ?_
        refine wc_seq ?_
        refine wc_region ?_
        refine wl_y (y_assign (by conv => lhs; whnf)) ?_
        refine wl_nil ?_
        refine then_normal ?_
        refine wc_ret ?_
        refine post_ret (results_fr rfl) ?_
        refine ⟨?_, hm.upd⟩
        rw [decide_eq_true (eq_of_getD 0 hlen hj)]; rfl
end Go.Proofs.Ytofpdjpenmhbnaa
namespace Go.Proofs.Ytofpdjpenmhbnaa
open Go Go.Kx
theorem ti132 : TI Try.prog 132 (.agg #[.int .i64 0, .int .i64 0, .int .i64 0]) 3 24 := by show _ = _; kernel_rfl
theorem hb78 : HasBody Try.prog 78 := hasBody Try.func78 (by kernel_rfl) (by kernel_rfl)
theorem hb94 : HasBody Try.prog 94 := hasBody Try.func94 (by kernel_rfl) (by kernel_rfl)
theorem ok132 : KeyOk Try.prog 132 (arrV .i64 (len := 3)) := keyOk_arr Try.underlying132 ti3 Try.underlying3
theorem NetAt.row {W : World} {b k : Nat} {nx : List Int} (h : NetAt W b k nx) {v : Nat} (hv : v < 5) : ∀ (j : Nat) (u : Value), [Value.int .i64 (tabN nx v 0), Value.int .i64 (tabN nx v 1)][j]? = some u → W.cell? ⟨b, 0 + 1 + (v : Int).toNat * 2 + j, none⟩ = some u := by
  intro j u hj
  rcases j with _ | _ | j
  · have := h.next (i := v) (x := 0) hv (by decide); simp only [List.getElem?_cons_zero, Option.some.injEq] at hj; subst hj; exact this
  · have := h.next (i := v) (x := 1) hv (by decide); simp only [List.getElem?_cons_succ, List.getElem?_cons_zero, Option.some.injEq] at hj; subst hj; exact this
  · simp at hj
theorem least2_calls (w : World) (vl : Value) (a c : Int) (hl : SlAt w 1 vl 2 [.int .i64 a, .int .i64 c]) : Cl Try.prog 78 [vl].toArray w (Ret w (.int .i64 (min a c))) := least_calls w vl [a, c] hl (by simp)
theorem row_at {nx : List Int} {v x : Nat} (hx : x < 2) : (#[Value.int .i64 (tabN nx v 0), Value.int .i64 (tabN nx v 1)] : Array Value)[(x : Int).toNat]? = some (.int .i64 (tabN nx v x)) := by
  have h01 : x = 0 ∨ x = 1 := by omega
  rcases h01 with rfl | rfl <;> rfl

set_option maxHeartbeats 4000000 in
theorem equal_calls (w : World) (bn k : Nat) (nx : List Int) (hn : NetAt w bn k nx) (ho : Okf k (tabN nx)) (hk1 : 1 ≤ k) :
    Cl Try.prog 76 [pb bn].toArray w (fun e w' => ∃ v, e = .returned v ∧ Mem w [] [.own 3 1 v k (ints (eqV (tabN nx) k))] w') := by
  have hk := ho.k5
  have hm : Mem w [] [] w := Mem.init w
  refine cl_enter Try.func76 rfl Try.ntmps76 rfl ?_
  refine wc_seq ?_
  refine wc_region ?_
  refine wl_y (y_assign (by conv => lhs; whnf)) ?_
  refine wl_nil ?_
  refine then_normal ?_
  refine wc_seq ?_
  refine wc_region ?_
  refine wl_y (y_move (by conv => lhs; whnf)) ?_
  refine wl_y (y_nilCheck rfl) ?_
  refine wl_y (y_fieldAddr (off := 0) (ft := 3) rfl Try.underlying94 rfl ti3) ?_
  refine wl_y (y_load rfl (blk_cell (hn.step hm.upd).at_ rfl) Try.underlying3 rfl) ?_
  refine wl_makeZ hm rfl rfl Try.underlying55 ti3 rfl (by omega) (by omega) (fun W v16 hm hu => ?_)
  refine wl_y (y_assign (by conv => lhs; whnf)) ?_
  refine wl_nil ?_
  refine then_normal ?_
  refine wc_block ?_
  refine wc_loop [2, 3, 4, 5, 6, 7, 8, 9, 10, 11, 17, 18, 19, 20, 21, 22, 23, 24, 25, 26, 27, 28, 29, 30, 31, 32, 33, 34, 35, 36, 37, 38, 39, 40, 41, 42, 43, 44, 45, 46, 47, 48, 49, 50, 51, 52, 53, 54, 55, 56, 57, 58, 59, 60, 61, 62, 63, 64, 65, 66, 67, 68, 69, 70, 71, 72, 73, 74, 75, 76, 77, 78, 79, 80] (fun ((j, v3) : Nat × Value) => [(3, v3)]) (fun ((j, v3) : Nat × Value) W => Mem w [] [.own 3 1 v3 k (ints (eqIter (tabN nx) k j))] W ∧ (∀ i, i < j → ¬ eqIter (tabN nx) k (i + 1) = eqIter (tabN nx) k i)) (fun ((j, v3) : Nat × Value) => k - j) ((0, v16) : Nat × Value) ?_ ?_ ?_
  · exact ⟨rfl, trivial⟩
  · exact ⟨by rw [show eqIter (tabN nx) k 0 = List.replicate k 0 from rfl, ← ints_rep]; exact hm, by omega⟩
  · rintro ⟨j, v3⟩ u W ⟨hm, hdf⟩
    have hcl : (eqIter (tabN nx) k j).length = k := (eqIter_canon (tabN nx) k j).len
    have hfx := eqIter_fixes (f := tabN nx) hk1 j hdf
    have hfl := fixes_le k (eqIter (tabN nx) k j)
    refine wc_block ?_
    refine wc_seq ?_
    refine wc_region ?_
    refine wl_makeMap hm (arrV .i64 (len := 3)) (fun W m17 hm hm17 hu => ?_)
    refine wl_y (y_assign (by conv => lhs; whnf)) ?_
    refine wl_nil ?_
    refine then_normal ?_
    refine wc_seq ?_
    refine wc_region ?_
    refine wl_y (y_move (by conv => lhs; whnf)) ?_
    refine wl_y (y_nilCheck rfl) ?_
    refine wl_y (y_fieldAddr (off := 0) (ft := 3) rfl Try.underlying94 rfl ti3) ?_
    refine wl_y (y_load rfl (blk_cell (hn.step hm.upd).at_ rfl) Try.underlying3 rfl) ?_
    refine wl_makeZ hm rfl rfl Try.underlying55 ti3 rfl (by omega) (by omega) (fun W v22 hm hu => ?_)
    refine wl_y (y_assign (by conv => lhs; whnf)) ?_
    refine wl_nil ?_
    refine then_normal ?_
    refine wc_seq ?_
    refine wc_seq ?_
    refine wc_region ?_
    refine wl_y (y_move (by conv => lhs; whnf)) ?_
    refine wl_y (y_nilCheck rfl) ?_
    refine wl_y (y_fieldAddr (off := 0) (ft := 3) rfl Try.underlying94 rfl ti3) ?_
    refine wl_y (y_load rfl (blk_cell (hn.step hm.upd).at_ rfl) Try.underlying3 rfl) ?_
    refine wl_y (y_move (by conv => lhs; whnf)) ?_
    refine wl_nil ?_
    refine then_normal ?_
    refine wc_block ?_
    refine wc_loop [6, 7, 8, 9, 10, 11, 27, 28, 29, 30, 31, 32, 33, 34, 35, 36, 37, 38, 39, 40, 41, 42, 43, 44, 45, 46, 47, 48, 49, 50, 51, 52, 53, 54, 55, 56, 57, 58, 59, 60, 61, 62, 63, 64, 65, 66, 67, 68, 69, 70, 71, 72, 73, 74, 75] (fun (v : Nat) => [(27, .int .i64 (v : Int))]) (fun (v : Nat) W => Mem w [] [.own 3 1 v3 k (ints (eqIter (tabN nx) k j)), mapEn (arrV .i64 (len := 3)) m17 (kvOf (tabN nx) (eqIter (tabN nx) k j) v), .own 3 1 v22 k (ints (nxtTo (tabN nx) (eqIter (tabN nx) k j) k v))] W ∧ v ≤ k) (fun (v : Nat) => k - v) ((0) : Nat) ?_ ?_ ?_
    · exact ⟨rfl, trivial⟩
    · exact ⟨by rw [nxtTo_zero, ← ints_rep]; exact hm, Nat.zero_le _⟩
    · rintro v u W ⟨hm, hv⟩
      refine wc_seq ?_
      refine wc_region ?_
      refine wl_y (y_lss rfl rfl) ?_
      refine wl_nil ?_
      refine then_normal ?_
      refine wc_seq ?_
      refine wc_cond_dec rfl (fun h1 => ?_) (fun h1 => ?_)
      · have hcle := cls_le (tabN nx) (eqIter (tabN nx) k j) v
        refine wc_skip ?_
        refine then_normal ?_
        refine wc_seq ?_
        refine wc_block ?_
        refine wc_seq ?_
        refine wc_region ?_
        refine wl_y (y_move (by conv => lhs; whnf)) ?_
        refine wl_y (y_assign (by conv => lhs; whnf)) ?_
        refine wl_nil ?_
        refine then_normal ?_
        refine wc_seq ?_
        refine wc_region ?_
        refine wl_y (y_move (by conv => lhs; whnf)) ?_
        refine wl_y (y_move (by conv => lhs; whnf)) ?_
        refine wl_y (y_indexAddr (by conv => lhs; whnf) rfl (hm.slAt 0 rfl) (by omega) Try.underlying55 ti3 (by decide)) ?_
        refine wl_y (y_loadSl rfl (hm.slAt 0 rfl) (by first | exact ints_atN (by omega) | exact ints_atI (by omega)) Try.underlying3 rfl) ?_
        refine wl_y (y_buildL (cells := (ints (keyP (tabN nx) (eqIter (tabN nx) k j) v 0)).toArray) rfl (by kernel_rfl)) ?_
        refine wl_alloc hm ti132 (fun W b7 hm hb7 hu => ?_)
        refine wl_storeBlk (i := 3) (vs := ints (keyP (tabN nx) (eqIter (tabN nx) k j) v 0)) hm rfl rfl rfl ti132 rfl rfl (ints_one _) (fun W hm => ?_)
        refine wl_nil ?_
        refine then_normal ?_
        refine wc_seq ?_
        refine wc_seq ?_
        refine wc_region ?_
        refine wl_y (y_move (by conv => lhs; whnf)) ?_
        refine wl_y (y_move (by conv => lhs; whnf)) ?_
        refine wl_y (y_nilCheck rfl) ?_
        refine wl_y (y_fieldAddr (off := 1) (ft := 92) rfl Try.underlying94 rfl ti92) ?_
        refine wl_y (y_indexArr rfl rfl (by omega) Try.underlying92 ti27) ?_
        refine wl_y (y_loadAgg (vs := [.int .i64 (tabN nx v 0), .int .i64 (tabN nx v 1)]) rfl ((hn.step hm.upd).row (by omega)) Try.underlying27 rfl ti27) ?_
        refine wl_y (y_move (by conv => lhs; whnf)) ?_
        refine wl_nil ?_
        refine then_normal ?_
        refine wc_block ?_
        refine wc_loop [8, 9, 41, 42, 43, 44, 45, 46, 47, 48, 49, 50, 51, 52, 53, 54] (fun (x : Nat) => [(41, .int .i64 (x : Int))]) (fun (x : Nat) W => Mem w [] [.own 3 1 v3 k (ints (eqIter (tabN nx) k j)), mapEn (arrV .i64 (len := 3)) m17 (kvOf (tabN nx) (eqIter (tabN nx) k j) v), .own 3 1 v22 k (ints (nxtTo (tabN nx) (eqIter (tabN nx) k j) k v)), .blk b7 132 (ints (keyP (tabN nx) (eqIter (tabN nx) k j) v x))] W ∧ x ≤ 2) (fun (x : Nat) => 2 - x) ((0) : Nat) ?_ ?_ ?_
        · exact ⟨rfl, trivial⟩
        · exact ⟨hm, Nat.zero_le _⟩
        · rintro x u W ⟨hm, hx⟩
          refine wc_seq ?_
          refine wc_region ?_
          refine wl_y (y_lss rfl rfl) ?_
          refine wl_nil ?_
          refine then_normal ?_
          refine wc_seq ?_
          refine wc_cond_dec rfl (fun h2 => ?_) (fun h2 => ?_)
          · have hlo := ho.lo v x (by omega) (by omega)
            have hhi := ho.hi v x (by omega) (by omega)
            refine wc_skip ?_
            refine then_normal ?_
            refine wc_seq ?_
            refine wc_block ?_
            refine wc_seq ?_
            refine wc_region ?_
            refine wl_y (y_move (by conv => lhs; whnf)) ?_
            refine wl_y (y_index (v := .int .i64 (tabN nx v x)) rfl rfl (by omega) Try.underlying27 ti3 Try.underlying3 rfl (row_at (by omega))) ?_
            refine wl_y (y_assign (by conv => lhs; whnf)) ?_
            refine wl_y (y_assign (by conv => lhs; whnf)) ?_
            refine wl_nil ?_
            refine then_normal ?_
            refine wc_seq ?_
            refine wc_region ?_
            refine wl_y (y_move (by conv => lhs; whnf)) ?_
            refine wl_y (y_geq rfl rfl) ?_
            refine wl_nil ?_
            refine then_normal ?_
            refine wc_cond_dec rfl (fun h3 => ?_) (fun h3 => ?_)
            · have hge := h3
              refine wc_region ?_
              refine wl_y (y_move (by conv => lhs; whnf)) ?_
              refine wl_y (y_add64 rfl rfl (by omega)) ?_
              refine wl_y (y_move (by conv => lhs; whnf)) ?_
              refine wl_y (y_move (by conv => lhs; whnf)) ?_
              refine wl_y (y_indexAddr (by conv => lhs; whnf) rfl (hm.slAt 0 rfl) (by omega) Try.underlying55 ti3 (by decide)) ?_
              refine wl_y (y_loadSl (w := .int .i64 (kx (tabN nx) (eqIter (tabN nx) k j) v x)) rfl (hm.slAt 0 rfl) (by rw [kx_pos hge]; exact ints_atI (by rw [hcl]; omega)) Try.underlying3 rfl) ?_
              refine wl_y (y_indexArr rfl rfl (by omega) Try.underlying132 ti3) ?_
              refine wl_store1 (i := 3) (v := .int .i64 (kx (tabN nx) (eqIter (tabN nx) k j) v x)) hm rfl rfl rfl ti3 (by simp [keyP_len]; omega) rfl rfl (fun W hm => ?_)
              rw [ints_setX, keyP_set (by omega)] at hm
              refine wl_nil ?_
              refine block_normal ?_
              refine then_normal ?_
              refine wc_region ?_
              refine wl_y (y_add64 rfl rfl (by omega)) ?_
              refine wl_y (y_move (by conv => lhs; whnf)) ?_
              refine wl_nil ?_
              refine next_round (σ := Nat) (x + 1) rfl (by repeat first | exact out_hav | refine out_look rfl ?_ | refine out_havIn rfl ?_) ⟨rfl, trivial⟩ ⟨hm, by omega⟩ (by (try dsimp only); omega)
            · rw [keyP_skip (by omega) h3] at hm
              refine wc_skip ?_
              refine block_normal ?_
              refine then_normal ?_
              refine wc_region ?_
              refine wl_y (y_add64 rfl rfl (by omega)) ?_
              refine wl_y (y_move (by conv => lhs; whnf)) ?_
              refine wl_nil ?_
              refine next_round (σ := Nat) (x + 1) rfl (by repeat first | exact out_hav | refine out_look rfl ?_ | refine out_havIn rfl ?_) ⟨rfl, trivial⟩ ⟨hm, by omega⟩ (by (try dsimp only); omega)
          · obtain rfl : x = 2 := by omega
            refine wc_exit ?_
            refine then_exit ?_
            refine then_exit ?_
            refine block_exit ?_
            refine then_normal ?_
            refine wc_seq ?_
            refine wc_seq ?_
            refine wc_region ?_
            refine wl_y (y_move (by conv => lhs; whnf)) ?_
            refine wl_y (y_loadBlk (xs := ints (keyA (tabN nx) (eqIter (tabN nx) k j) v).1) rfl (hm.at (i := 3) rfl) Try.underlying132 rfl ti132) ?_
            refine wl_y (y_lookupOk (k := (keyA (tabN nx) (eqIter (tabN nx) k j) v)) (hm.at (i := 1) rfl) rfl rfl Try.underlying131 ok132 ti3) ?_
            refine wl_y (y_move (by conv => lhs; whnf)) ?_
            refine wl_y (y_extract rfl rfl) ?_
            refine wl_y (y_extract rfl rfl) ?_
            refine wl_y (y_assign (by conv => lhs; whnf)) ?_
            refine wl_y (y_assign (by conv => lhs; whnf)) ?_
            refine wl_nil ?_
            refine then_normal ?_
            refine wc_seq ?_
            refine wc_region ?_
            refine wl_y (y_move (by conv => lhs; whnf)) ?_
            refine wl_y (y_not rfl) ?_
            refine wl_nil ?_
            refine then_normal ?_
            refine wc_cond rfl (fun h4 => ?_) (fun h4 => ?_)
            · have hhas : ¬ kvHas (kvOf (tabN nx) (eqIter (tabN nx) k j) v) (keyA (tabN nx) (eqIter (tabN nx) k j) v) = true := by simpa using h4
              refine wc_region ?_
              refine wl_y (y_move (by conv => lhs; whnf)) ?_
              refine wl_y (y_loadBlk (xs := ints (keyA (tabN nx) (eqIter (tabN nx) k j) v).1) rfl (hm.at (i := 3) rfl) Try.underlying132 rfl ti132) ?_
              refine wl_y (y_move (by conv => lhs; whnf)) ?_
              refine wl_mapUpdate (i := 1) (k := (keyA (tabN nx) (eqIter (tabN nx) k j) v)) (v := .int .i64 (v : Int)) hm rfl rfl rfl rfl Try.underlying131 ok132 (fun W hm => ?_)
              rw [← kvOf_no hhas] at hm
              refine wl_nil ?_
              refine then_normal ?_
              refine wc_region ?_
              refine wl_y (y_move (by conv => lhs; whnf)) ?_
              refine wl_y (y_move (by conv => lhs; whnf)) ?_
              refine wl_y (y_move (by conv => lhs; whnf)) ?_
              refine wl_y (y_loadBlk (xs := ints (keyA (tabN nx) (eqIter (tabN nx) k j) v).1) rfl (hm.at (i := 3) rfl) Try.underlying132 rfl ti132) ?_
              refine wl_y (v := .int .i64 (clsV (tabN nx) (eqIter (tabN nx) k j) v : Nat)) (by rw [← kvGet_cls]; exact y_lookup (k := (keyA (tabN nx) (eqIter (tabN nx) k j) v)) (hm.at (i := 1) rfl) rfl rfl Try.underlying131 ok132 ti3) ?_
              refine wl_y (y_move (by conv => lhs; whnf)) ?_
              refine wl_lit2 (v := .int .i64 (clsV (tabN nx) (eqIter (tabN nx) k j) v : Nat)) (w := .int .i64 (v : Int)) hm rfl rfl Try.underlying55 ti3 rfl rfl (fun W v72 hm hu => ?_)
              refine wl_callR (v := .int .i64 (clsV (tabN nx) (eqIter (tabN nx) k j) v : Nat)) hm hb78 (by have h := least2_calls W v72 (clsV (tabN nx) (eqIter (tabN nx) k j) v : Nat) (v : Nat) (hm.slAt 4 rfl); rw [show min ((clsV (tabN nx) (eqIter (tabN nx) k j) v : Nat) : Int) ((v : Nat) : Int) = ((clsV (tabN nx) (eqIter (tabN nx) k j) v : Nat) : Int) by omega] at h; exact h) rfl rfl (fun W hm hu => ?_)
              refine wl_y (y_indexAddr (by conv => lhs; whnf) rfl (hm.slAt 2 rfl) (by omega) Try.underlying55 ti3 (by decide)) ?_
              refine wl_storeOwn1 (i := 2) (v := .int .i64 (clsV (tabN nx) (eqIter (tabN nx) k j) v : Nat)) hm rfl rfl rfl ti3 (by simp [nxtTo_len]; omega) rfl rfl (fun W hm => ?_)
              rw [ints_setN, nxtTo_set (by omega)] at hm
              have hm := hm.take 3
              refine wl_nil ?_
              refine block_normal ?_
              refine then_normal ?_
              refine wc_region ?_
              refine wl_y (y_add64 rfl rfl (by omega)) ?_
              refine wl_y (y_move (by conv => lhs; whnf)) ?_
              refine wl_nil ?_
              refine next_round (σ := Nat) (v + 1) rfl (by repeat first | exact out_hav | refine out_look rfl ?_ | refine out_havIn rfl ?_) ⟨rfl, trivial⟩ ⟨hm, by omega⟩ (by (try dsimp only); omega)
            · have hhas : kvHas (kvOf (tabN nx) (eqIter (tabN nx) k j) v) (keyA (tabN nx) (eqIter (tabN nx) k j) v) = true := by simpa using h4
              rw [← kvOf_yes hhas] at hm
              refine wc_skip ?_
              refine then_normal ?_
              refine wc_region ?_
              refine wl_y (y_move (by conv => lhs; whnf)) ?_
              refine wl_y (y_move (by conv => lhs; whnf)) ?_
              refine wl_y (y_move (by conv => lhs; whnf)) ?_
              refine wl_y (y_loadBlk (xs := ints (keyA (tabN nx) (eqIter (tabN nx) k j) v).1) rfl (hm.at (i := 3) rfl) Try.underlying132 rfl ti132) ?_
              refine wl_y (v := .int .i64 (clsV (tabN nx) (eqIter (tabN nx) k j) v : Nat)) (by rw [← kvGet_cls]; exact y_lookup (k := (keyA (tabN nx) (eqIter (tabN nx) k j) v)) (hm.at (i := 1) rfl) rfl rfl Try.underlying131 ok132 ti3) ?_
              refine wl_y (y_move (by conv => lhs; whnf)) ?_
              refine wl_lit2 (v := .int .i64 (clsV (tabN nx) (eqIter (tabN nx) k j) v : Nat)) (w := .int .i64 (v : Int)) hm rfl rfl Try.underlying55 ti3 rfl rfl (fun W v72 hm hu => ?_)
              refine wl_callR (v := .int .i64 (clsV (tabN nx) (eqIter (tabN nx) k j) v : Nat)) hm hb78 (by have h := least2_calls W v72 (clsV (tabN nx) (eqIter (tabN nx) k j) v : Nat) (v : Nat) (hm.slAt 4 rfl); rw [show min ((clsV (tabN nx) (eqIter (tabN nx) k j) v : Nat) : Int) ((v : Nat) : Int) = ((clsV (tabN nx) (eqIter (tabN nx) k j) v : Nat) : Int) by omega] at h; exact h) rfl rfl (fun W hm hu => ?_)
              refine wl_y (y_indexAddr (by conv => lhs; whnf) rfl (hm.slAt 2 rfl) (by omega) Try.underlying55 ti3 (by decide)) ?_
              refine wl_storeOwn1 (i := 2) (v := .int .i64 (clsV (tabN nx) (eqIter (tabN nx) k j) v : Nat)) hm rfl rfl rfl ti3 (by simp [nxtTo_len]; omega) rfl rfl (fun W hm => ?_)
              rw [ints_setN, nxtTo_set (by omega)] at hm
              have hm := hm.take 3
              refine wl_nil ?_
              refine block_normal ?_
              refine then_normal ?_
              refine wc_region ?_
              refine wl_y (y_add64 rfl rfl (by omega)) ?_
              refine wl_y (y_move (by conv => lhs; whnf)) ?_
              refine wl_nil ?_
              refine next_round (σ := Nat) (v + 1) rfl (by repeat first | exact out_hav | refine out_look rfl ?_ | refine out_havIn rfl ?_) ⟨rfl, trivial⟩ ⟨hm, by omega⟩ (by (try dsimp only); omega)
      · obtain rfl : k = v := by omega
        refine wc_exit ?_
        refine then_exit ?_
        refine then_exit ?_
        refine block_exit ?_
        refine then_normal ?_
        refine wc_seq ?_
        refine wc_seq ?_
        refine wc_region ?_
        refine wl_y (y_move (by conv => lhs; whnf)) ?_
        refine wl_y (y_move (by conv => lhs; whnf)) ?_
        refine wl_callR hm hb94 (EqualInts_calls _ _ _ (newC (tabN nx) k (eqIter (tabN nx) k j)) (eqIter (tabN nx) k j) (by rw [show (newC (tabN nx) k (eqIter (tabN nx) k j)).length = k by simp [newC], ← nxtTo_end]; exact hm.slAt 2 rfl) (by rw [hcl]; exact hm.slAt 0 rfl) (by simp [newC]; omega)) rfl rfl (fun W hm hu => ?_)
        refine wl_nil ?_
        refine then_normal ?_
        refine wc_cond_dec rfl (fun h5 => ?_) (fun h5 => ?_)
        · skip
          refine wc_seq ?_
          refine wc_region ?_
          refine wl_y (y_move (by conv => lhs; whnf)) ?_
          refine wl_y (y_assign (by conv => lhs; whnf)) ?_
          refine wl_nil ?_
          refine then_normal ?_
          refine wc_ret ?_
          refine then_ret ?_
          refine block_ret ?_
          refine then_ret ?_
          refine block_ret ?_
          refine post_ret (results_fr rfl) ?_
          have heq : newC (tabN nx) k (eqIter (tabN nx) k j) = (eqIter (tabN nx) k j) := by assumption
          have hst : eqV (tabN nx) k = newC (tabN nx) k (eqIter (tabN nx) k j) := by rw [heq]; exact eqIter_stay (j := j) (by rw [eqIter]; exact heq) k (by omega)
          refine ⟨v22, rfl, ?_⟩
          rw [hst, ← nxtTo_end]; exact hm.drop 2
        · skip
          refine wc_skip ?_
          refine then_normal ?_
          refine wc_region ?_
          refine wl_y (y_move (by conv => lhs; whnf)) ?_
          refine wl_y (y_assign (by conv => lhs; whnf)) ?_
          refine wl_nil ?_
          refine block_normal ?_
          refine next_round (σ := Nat × Value) (j + 1, v22) rfl (by repeat first | exact out_hav | refine out_look rfl ?_ | refine out_havIn rfl ?_) ⟨rfl, trivial⟩ ⟨by rw [eqIter, ← nxtTo_end]; exact hm.drop 2, allLt hdf (by assumption)⟩ (by (try dsimp only); omega)
end Go.Proofs.Ytofpdjpenmhbnaa
namespace Go.Proofs.Ytofpdjpenmhbnaa
open Go Go.Kx
theorem hb76 : HasBody Try.prog 76 := hasBody Try.func76 (by kernel_rfl) (by kernel_rfl)
theorem ok116 : KeyOk Try.prog 3 (Value.int .i64) := keyOk_int Try.underlying3
theorem net_k (k : Nat) (nx : List Int) : (netCells k nx).set (0 + 0) (.int .i64 ((k : Int) + 1)) = netCells (k + 1) nx := rfl

set_option maxHeartbeats 4000000 in
theorem form_calls (w : World) (bn k : Nat) (nx : List Int) (hn : NetAt w bn k nx) (ho : Okf k (tabN nx)) (hk1 : 1 ≤ k) :
    Cl Try.prog 56 [pb bn].toArray w (fun e w' => ∃ b, e = .returned (pb b) ∧ Mem w [] [.blk b 94 (netCells (rk (eqV (tabN nx) k) k) (fmTo (tabN nx) (eqV (tabN nx) k) k))] w') := by
  have hk := ho.k5
  have hcan : Canon k (eqV (tabN nx) k) := eqIter_canon (tabN nx) k k
  have hcl := hcan.len
  have hm : Mem w [] [] w := Mem.init w
  refine cl_enter Try.func56 rfl Try.ntmps56 rfl ?_
  refine wc_seq ?_
  refine wc_region ?_
  refine wl_y (y_assign (by conv => lhs; whnf)) ?_
  refine wl_nil ?_
  refine then_normal ?_
  refine wc_seq ?_
  refine wc_region ?_
  refine wl_y (y_move (by conv => lhs; whnf)) ?_
  refine wl_call hb76 (equal_calls _ _ _ _ (hn.step hm.upd) ho hk1) rfl rfl (fun e W h => ?_)
  obtain ⟨v13, rfl, h13⟩ := h
  refine ⟨_, rfl, ?_⟩
  have hm := hm.call h13
  refine wl_y (y_assign (by conv => lhs; whnf)) ?_
  refine wl_nil ?_
  refine then_normal ?_
  refine wc_seq ?_
  refine wc_region ?_
  refine wl_makeMap hm (Value.int .i64) (fun W m14 hm hm14 hu => ?_)
  refine wl_insert (i := 1) (k := (-1 : Int)) (v := .int .i64 (-1)) hm rfl rfl rfl rfl Try.underlying116 ok116 (fun W hm => ?_)
  refine wl_y (y_move (by conv => lhs; whnf)) ?_
  refine wl_y (y_assign (by conv => lhs; whnf)) ?_
  refine wl_nil ?_
  refine then_normal ?_
  refine wc_seq ?_
  refine wc_region ?_
  refine wl_y (y_buildL (parts := []) (cells := (netCells 0 (List.replicate 10 0)).toArray) rfl (by kernel_rfl)) ?_
  refine wl_box hm (by conv => lhs; whnf) (fun W b17 hm hb17 hu => ?_)
  refine wl_y (y_assign (by conv => lhs; whnf)) ?_
  refine wl_nil ?_
  refine then_normal ?_
  refine wc_seq ?_
  refine wc_seq ?_
  refine wc_region ?_
  refine wl_y (y_move (by conv => lhs; whnf)) ?_
  refine wl_y (y_lenSl (by conv => lhs; whnf) (hm.slAt 0 rfl) Try.underlying55) ?_
  refine wl_y (y_move (by conv => lhs; whnf)) ?_
  refine wl_nil ?_
  refine then_normal ?_
  refine wc_block ?_
  refine wc_loop [6, 7, 20, 21, 22, 23, 24, 25, 26, 27, 28, 29, 30, 31, 32, 33, 34, 35, 36, 37, 38, 39, 40, 41] (fun (v : Nat) => [(20, .int .i64 (v : Int))]) (fun (v : Nat) W => Mem w [] [.own 3 1 v13 k (ints (eqV (tabN nx) k)), mapEn (Value.int .i64) m14 (numKv (eqV (tabN nx) k) v), .blk b17 94 (netCells (rk (eqV (tabN nx) k) v) (List.replicate 10 0))] W ∧ v ≤ k) (fun (v : Nat) => k - v) ((0) : Nat) ?_ ?_ ?_
  · exact ⟨rfl, trivial⟩
  · exact ⟨hm, Nat.zero_le _⟩
  · rintro v u W ⟨hm, hv⟩
    refine wc_seq ?_
    refine wc_region ?_
    refine wl_y (y_lss rfl rfl) ?_
    refine wl_nil ?_
    refine then_normal ?_
    refine wc_seq ?_
    refine wc_cond_dec rfl (fun h1 => ?_) (fun h1 => ?_)
    · have hrle := rk_le (eqV (tabN nx) k) v
      refine wc_skip ?_
      refine then_normal ?_
      refine wc_seq ?_
      refine wc_block ?_
      refine wc_seq ?_
      refine wc_region ?_
      refine wl_y (y_move (by conv => lhs; whnf)) ?_
      refine wl_y (y_indexAddr (by conv => lhs; whnf) rfl (hm.slAt 0 rfl) (by omega) Try.underlying55 ti3 (by decide)) ?_
      refine wl_y (y_loadSl rfl (hm.slAt 0 rfl) (by first | exact ints_atN (by omega) | exact ints_atI (by omega)) Try.underlying3 rfl) ?_
      refine wl_y (y_assign (by conv => lhs; whnf)) ?_
      refine wl_y (y_assign (by conv => lhs; whnf)) ?_
      refine wl_nil ?_
      refine then_normal ?_
      refine wc_seq ?_
      refine wc_region ?_
      refine wl_y (y_move (by conv => lhs; whnf)) ?_
      refine wl_y (y_move (by conv => lhs; whnf)) ?_
      refine wl_y (y_eql rfl rfl) ?_
      refine wl_nil ?_
      refine then_normal ?_
      refine wc_cond_dec rfl (fun h2 => ?_) (fun h2 => ?_)
      · have hfix : isFix (eqV (tabN nx) k) v := h2
        refine wc_seq ?_
        refine wc_region ?_
        refine wl_y (y_move (by conv => lhs; whnf)) ?_
        refine wl_y (y_move (by conv => lhs; whnf)) ?_
        refine wl_y (y_move (by conv => lhs; whnf)) ?_
        refine wl_y (y_nilCheck rfl) ?_
        refine wl_y (y_fieldAddr (off := 0) (ft := 3) rfl Try.underlying94 rfl ti3) ?_
        refine wl_y (y_load rfl (hm.blk_cell 2 rfl rfl) Try.underlying3 rfl) ?_
        refine wl_mapUpdate (i := 1) (k := (v : Int)) (v := .int .i64 (rk (eqV (tabN nx) k) v : Nat)) hm rfl rfl rfl rfl Try.underlying116 ok116 (fun W hm => ?_)
        rw [show kvSet (numKv (eqV (tabN nx) k) v) (v : Int) (.int .i64 (rk (eqV (tabN nx) k) v : Nat)) = numKv (eqV (tabN nx) k) (v + 1) by rw [numKv, if_pos hfix]] at hm
        refine wl_nil ?_
        refine then_normal ?_
        refine wc_region ?_
        refine wl_y (y_move (by conv => lhs; whnf)) ?_
        refine wl_y (y_nilCheck rfl) ?_
        refine wl_y (y_fieldAddr (off := 0) (ft := 3) rfl Try.underlying94 rfl ti3) ?_
        refine wl_y (y_load rfl (hm.blk_cell 2 rfl rfl) Try.underlying3 rfl) ?_
        refine wl_y (y_add64 rfl rfl (by omega)) ?_
        refine wl_y (y_nilCheck rfl) ?_
        refine wl_y (y_fieldAddr (off := 0) (ft := 3) rfl Try.underlying94 rfl ti3) ?_
        refine wl_store1 (i := 2) (v := .int .i64 ((rk (eqV (tabN nx) k) v : Nat) + 1 : Int)) hm rfl rfl rfl ti3 (by simp [netCells]) rfl rfl (fun W hm => ?_)
        rw [net_k, show rk (eqV (tabN nx) k) v + 1 = rk (eqV (tabN nx) k) (v + 1) by rw [rk, if_pos hfix]] at hm
        refine wl_nil ?_
        refine block_normal ?_
        refine then_normal ?_
        refine wc_region ?_
        refine wl_y (y_add64 rfl rfl (by omega)) ?_
        refine wl_y (y_move (by conv => lhs; whnf)) ?_
        refine wl_nil ?_
        refine next_round (σ := Nat) (v + 1) rfl (by repeat first | exact out_hav | refine out_look rfl ?_ | refine out_havIn rfl ?_) ⟨rfl, trivial⟩ ⟨hm, by omega⟩ (by (try dsimp only); omega)
      · have hnf : ¬ isFix (eqV (tabN nx) k) v := h2
        refine wc_skip ?_
        refine block_normal ?_
        refine then_normal ?_
        refine wc_region ?_
        refine wl_y (y_add64 rfl rfl (by omega)) ?_
        refine wl_y (y_move (by conv => lhs; whnf)) ?_
        refine wl_nil ?_
        refine next_round (σ := Nat) (v + 1) rfl (by repeat first | exact out_hav | refine out_look rfl ?_ | refine out_havIn rfl ?_) ⟨rfl, trivial⟩ ⟨by rw [numKv, if_neg hnf, rk, if_neg hnf]; exact hm, by omega⟩ (by (try dsimp only); omega)
    · obtain rfl : k = v := by omega
      refine wc_exit ?_
      refine then_exit ?_
      refine then_exit ?_
      refine block_exit ?_
      refine then_normal ?_
      refine wc_seq ?_
      refine wc_seq ?_
      refine wc_region ?_
      refine wl_y (y_move (by conv => lhs; whnf)) ?_
      refine wl_y (y_lenSl (by conv => lhs; whnf) (hm.slAt 0 rfl) Try.underlying55) ?_
      refine wl_y (y_move (by conv => lhs; whnf)) ?_
      refine wl_nil ?_
      refine then_normal ?_
      refine wc_block ?_
      refine wc_loop [8, 9, 10, 11, 44, 45, 46, 47, 48, 49, 50, 51, 52, 53, 54, 55, 56, 57, 58, 59, 60, 61, 62, 63, 64, 65, 66, 67, 68, 69, 70, 71, 72, 73, 74, 75, 76, 77, 78, 79, 80, 81] (fun (v : Nat) => [(44, .int .i64 (v : Int))]) (fun (v : Nat) W => Mem w [] [.own 3 1 v13 k (ints (eqV (tabN nx) k)), mapEn (Value.int .i64) m14 (numKv (eqV (tabN nx) k) k), .blk b17 94 (netCells (rk (eqV (tabN nx) k) k) (fmTo (tabN nx) (eqV (tabN nx) k) v))] W ∧ v ≤ k) (fun (v : Nat) => k - v) ((0) : Nat) ?_ ?_ ?_
      · exact ⟨rfl, trivial⟩
      · exact ⟨hm, Nat.zero_le _⟩
      · rintro v u W ⟨hm, hv⟩
        refine wc_seq ?_
        refine wc_region ?_
        refine wl_y (y_lss rfl rfl) ?_
        refine wl_nil ?_
        refine then_normal ?_
        refine wc_seq ?_
        refine wc_cond_dec rfl (fun h3 => ?_) (fun h3 => ?_)
        · skip
          refine wc_skip ?_
          refine then_normal ?_
          refine wc_seq ?_
          refine wc_block ?_
          refine wc_seq ?_
          refine wc_region ?_
          refine wl_y (y_move (by conv => lhs; whnf)) ?_
          refine wl_y (y_indexAddr (by conv => lhs; whnf) rfl (hm.slAt 0 rfl) (by omega) Try.underlying55 ti3 (by decide)) ?_
          refine wl_y (y_loadSl rfl (hm.slAt 0 rfl) (by first | exact ints_atN (by omega) | exact ints_atI (by omega)) Try.underlying3 rfl) ?_
          refine wl_y (y_assign (by conv => lhs; whnf)) ?_
          refine wl_y (y_assign (by conv => lhs; whnf)) ?_
          refine wl_nil ?_
          refine then_normal ?_
          refine wc_seq ?_
          refine wc_seq ?_
          refine wc_region ?_
          refine wl_y (y_move (by conv => lhs; whnf)) ?_
          refine wl_y (y_move (by conv => lhs; whnf)) ?_
          refine wl_y (y_neq rfl rfl) ?_
          refine wl_nil ?_
          refine then_normal ?_
          refine wc_cond_dec rfl (fun h4 => ?_) (fun h4 => ?_)
          · have hnf : ¬ isFix (eqV (tabN nx) k) v := h4
            refine wc_exit ?_
            refine then_exit ?_
            refine block_exit ?_
            refine then_normal ?_
            refine wc_region ?_
            refine wl_y (y_add64 rfl rfl (by omega)) ?_
            refine wl_y (y_move (by conv => lhs; whnf)) ?_
            refine wl_nil ?_
            refine next_round (σ := Nat) (v + 1) rfl (by repeat first | exact out_hav | refine out_look rfl ?_ | refine out_havIn rfl ?_) ⟨rfl, trivial⟩ ⟨by rw [← fm_skip hnf]; exact hm, by omega⟩ (by (try dsimp only); omega)
          · have hfix : isFix (eqV (tabN nx) k) v := Decidable.of_not_not h4
            have hrk := rk_lt (show v < k by omega) hfix
            have hrk5 := rk_le (eqV (tabN nx) k) k
            refine wc_skip ?_
            refine then_normal ?_
            refine wc_seq ?_
            refine wc_region ?_
            refine wl_y (y_move (by conv => lhs; whnf)) ?_
            refine wl_y (y_move (by conv => lhs; whnf)) ?_
            refine wl_y (y_nilCheck rfl) ?_
            refine wl_y (y_fieldAddr (off := 1) (ft := 92) rfl Try.underlying94 rfl ti92) ?_
            refine wl_y (y_indexArr rfl rfl (by omega) Try.underlying92 ti27) ?_
            refine wl_y (y_loadAgg (vs := [.int .i64 (tabN nx v 0), .int .i64 (tabN nx v 1)]) rfl ((hn.step hm.upd).row (by omega)) Try.underlying27 rfl ti27) ?_
            refine wl_y (y_move (by conv => lhs; whnf)) ?_
            refine wl_nil ?_
            refine then_normal ?_
            refine wc_block ?_
            refine wc_loop [10, 11, 58, 59, 60, 61, 62, 63, 64, 65, 66, 67, 68, 69, 70, 71, 72, 73, 74, 75, 76, 77, 78, 79, 80] (fun (x : Nat) => [(58, .int .i64 (x : Int))]) (fun (x : Nat) W => Mem w [] [.own 3 1 v13 k (ints (eqV (tabN nx) k)), mapEn (Value.int .i64) m14 (numKv (eqV (tabN nx) k) k), .blk b17 94 (netCells (rk (eqV (tabN nx) k) k) (fmX (tabN nx) (eqV (tabN nx) k) v x))] W ∧ x ≤ 2) (fun (x : Nat) => 2 - x) ((0) : Nat) ?_ ?_ ?_
            · exact ⟨rfl, trivial⟩
            · exact ⟨hm, Nat.zero_le _⟩
            · rintro x u W ⟨hm, hx⟩
              refine wc_seq ?_
              refine wc_region ?_
              refine wl_y (y_lss rfl rfl) ?_
              refine wl_nil ?_
              refine then_normal ?_
              refine wc_seq ?_
              refine wc_cond_dec rfl (fun h5 => ?_) (fun h5 => ?_)
              · have hlo := ho.lo v x (by omega) (by omega)
                have hhi := ho.hi v x (by omega) (by omega)
                refine wc_skip ?_
                refine then_normal ?_
                refine wc_seq ?_
                refine wc_block ?_
                refine wc_seq ?_
                refine wc_region ?_
                refine wl_y (y_move (by conv => lhs; whnf)) ?_
                refine wl_y (y_index (v := .int .i64 (tabN nx v x)) rfl rfl (by omega) Try.underlying27 ti3 Try.underlying3 rfl (row_at (by omega))) ?_
                refine wl_y (y_assign (by conv => lhs; whnf)) ?_
                refine wl_y (y_assign (by conv => lhs; whnf)) ?_
                refine wl_nil ?_
                refine then_normal ?_
                refine wc_seq ?_
                refine wc_seq ?_
                refine wc_region ?_
                refine wl_y (y_move (by conv => lhs; whnf)) ?_
                refine wl_y (y_geq rfl rfl) ?_
                refine wl_nil ?_
                refine then_normal ?_
                refine wc_cond_dec rfl (fun h6 => ?_) (fun h6 => ?_)
                · have hlk : ∀ z, kvGet (numKv (eqV (tabN nx) k) k) ((eqV (tabN nx) k).getD (tabN nx v x).toNat 0) z = .int .i64 (fval (tabN nx) (eqV (tabN nx) k) v x) := fun z => num_cls hcan h6 hhi z
                  refine wc_region ?_
                  refine wl_y (y_move (by conv => lhs; whnf)) ?_
                  refine wl_y (y_move (by conv => lhs; whnf)) ?_
                  refine wl_y (y_indexAddr (by conv => lhs; whnf) rfl (hm.slAt 0 rfl) (by omega) Try.underlying55 ti3 (by decide)) ?_
                  refine wl_y (y_loadSl rfl (hm.slAt 0 rfl) (by first | exact ints_atN (by omega) | exact ints_atI (by omega)) Try.underlying3 rfl) ?_
                  refine wl_y (y_assign (by conv => lhs; whnf)) ?_
                  refine wl_nil ?_
                  refine then_normal ?_
                  refine wc_draw (C := fun W => Mem w [] [.own 3 1 v13 k (ints (eqV (tabN nx) k)), mapEn (Value.int .i64) m14 (numKv (eqV (tabN nx) k) k), .blk b17 94 (netCells (rk (eqV (tabN nx) k) k) (fmX (tabN nx) (eqV (tabN nx) k) v x))] W) (some 12) mix (by kernel_rfl) (by kernel_rfl) (Mem.stable _ _ _) (hm.step (upd_drew _)) ?_
                  refine al_y (by kernel_rfl) (fun W hm => y_move (by conv => lhs; whnf)) ?_
                  refine al_y (by kernel_rfl) (fun W hm => y_move (by conv => lhs; whnf)) ?_
                  refine al_y (by kernel_rfl) (fun W hm => y_move (by conv => lhs; whnf)) ?_
                  refine al_y (v := .int .i64 (rk (eqV (tabN nx) k) v : Nat)) (by kernel_rfl) (fun W hm => by rw [← num_fix (m := k) (by omega) hfix]; exact y_lookup (k := (v : Int)) (hm.at (i := 1) rfl) rfl rfl Try.underlying116 ok116  ti3) ?_
                  refine al_y (by kernel_rfl) (fun W hm => y_move (by conv => lhs; whnf)) ?_
                  refine al_y (by kernel_rfl) (fun W hm => y_move (by conv => lhs; whnf)) ?_
                  refine al_y (by kernel_rfl) (fun W hm => y_move (by conv => lhs; whnf)) ?_
                  refine al_y (v := .int .i64 (fval (tabN nx) (eqV (tabN nx) k) v x)) (by kernel_rfl) (fun W hm => by rw [← hlk (.int .i64 0)]; exact y_lookup (hm.at (i := 1) rfl) rfl rfl Try.underlying116 ok116 ti3) ?_
                  refine al_y (by kernel_rfl) (fun W hm => y_nilCheck rfl) ?_
                  refine al_y (by kernel_rfl) (fun W hm => y_fieldAddr (off := 1) (ft := 92) rfl Try.underlying94 rfl ti92) ?_
                  refine al_y (by kernel_rfl) (fun W hm => y_indexArr rfl rfl (by omega) Try.underlying92 ti27) ?_
                  refine al_y (by kernel_rfl) (fun W hm => y_indexArr rfl rfl (by omega) Try.underlying27 ti3) ?_
                  refine al_loud (by kernel_rfl) (fun W hm => ?_)
                  refine wl_store1 (i := 2) (v := .int .i64 (fval (tabN nx) (eqV (tabN nx) k) v x)) hm rfl rfl rfl ti3 (by simp [netCells, fmX_len]; omega) rfl rfl (fun W hm => ?_)
                  rw [netCells_set] at hm
                  refine nx_store none hm rfl ?_
                  refine al_nil (by kernel_rfl) (fun W hm => ?_)
                  refine block_normal ?_
                  refine then_normal ?_
                  refine wc_region ?_
                  refine wl_y (y_add64 rfl rfl (by omega)) ?_
                  refine wl_y (y_move (by conv => lhs; whnf)) ?_
                  refine wl_nil ?_
                  refine next_round (σ := Nat) (x + 1) rfl (by repeat first | exact out_hav | refine out_look rfl ?_ | refine out_havIn rfl ?_) ⟨rfl, trivial⟩ ⟨hm, by omega⟩ (by (try dsimp only); omega)
                · have hlk : ∀ z, kvGet (numKv (eqV (tabN nx) k) k) (tabN nx v x) z = .int .i64 (fval (tabN nx) (eqV (tabN nx) k) v x) := fun z => by rw [fval, if_neg h6, show tabN nx v x = -1 by omega]; exact num_neg _ _ z
                  refine wc_skip ?_
                  refine then_normal ?_
                  refine wc_draw (C := fun W => Mem w [] [.own 3 1 v13 k (ints (eqV (tabN nx) k)), mapEn (Value.int .i64) m14 (numKv (eqV (tabN nx) k) k), .blk b17 94 (netCells (rk (eqV (tabN nx) k) k) (fmX (tabN nx) (eqV (tabN nx) k) v x))] W) (some 12) mix (by kernel_rfl) (by kernel_rfl) (Mem.stable _ _ _) (hm.step (upd_drew _)) ?_
                  refine al_y (by kernel_rfl) (fun W hm => y_move (by conv => lhs; whnf)) ?_
                  refine al_y (by kernel_rfl) (fun W hm => y_move (by conv => lhs; whnf)) ?_
                  refine al_y (by kernel_rfl) (fun W hm => y_move (by conv => lhs; whnf)) ?_
                  refine al_y (v := .int .i64 (rk (eqV (tabN nx) k) v : Nat)) (by kernel_rfl) (fun W hm => by rw [← num_fix (m := k) (by omega) hfix]; exact y_lookup (k := (v : Int)) (hm.at (i := 1) rfl) rfl rfl Try.underlying116 ok116  ti3) ?_
                  refine al_y (by kernel_rfl) (fun W hm => y_move (by conv => lhs; whnf)) ?_
                  refine al_y (by kernel_rfl) (fun W hm => y_move (by conv => lhs; whnf)) ?_
                  refine al_y (by kernel_rfl) (fun W hm => y_move (by conv => lhs; whnf)) ?_
                  refine al_y (v := .int .i64 (fval (tabN nx) (eqV (tabN nx) k) v x)) (by kernel_rfl) (fun W hm => by rw [← hlk (.int .i64 0)]; exact y_lookup (hm.at (i := 1) rfl) rfl rfl Try.underlying116 ok116 ti3) ?_
                  refine al_y (by kernel_rfl) (fun W hm => y_nilCheck rfl) ?_
                  refine al_y (by kernel_rfl) (fun W hm => y_fieldAddr (off := 1) (ft := 92) rfl Try.underlying94 rfl ti92) ?_
                  refine al_y (by kernel_rfl) (fun W hm => y_indexArr rfl rfl (by omega) Try.underlying92 ti27) ?_
                  refine al_y (by kernel_rfl) (fun W hm => y_indexArr rfl rfl (by omega) Try.underlying27 ti3) ?_
                  refine al_loud (by kernel_rfl) (fun W hm => ?_)
                  refine wl_store1 (i := 2) (v := .int .i64 (fval (tabN nx) (eqV (tabN nx) k) v x)) hm rfl rfl rfl ti3 (by simp [netCells, fmX_len]; omega) rfl rfl (fun W hm => ?_)
                  rw [netCells_set] at hm
                  refine nx_store none hm rfl ?_
                  refine al_nil (by kernel_rfl) (fun W hm => ?_)
                  refine block_normal ?_
                  refine then_normal ?_
                  refine wc_region ?_
                  refine wl_y (y_add64 rfl rfl (by omega)) ?_
                  refine wl_y (y_move (by conv => lhs; whnf)) ?_
                  refine wl_nil ?_
                  refine next_round (σ := Nat) (x + 1) rfl (by repeat first | exact out_hav | refine out_look rfl ?_ | refine out_havIn rfl ?_) ⟨rfl, trivial⟩ ⟨hm, by omega⟩ (by (try dsimp only); omega)
              · obtain rfl : x = 2 := by omega
                refine wc_exit ?_
                refine then_exit ?_
                refine then_exit ?_
                refine block_exit ?_
                refine block_normal ?_
                refine then_normal ?_
                refine wc_region ?_
                refine wl_y (y_add64 rfl rfl (by omega)) ?_
                refine wl_y (y_move (by conv => lhs; whnf)) ?_
                refine wl_nil ?_
                refine next_round (σ := Nat) (v + 1) rfl (by repeat first | exact out_hav | refine out_look rfl ?_ | refine out_havIn rfl ?_) ⟨rfl, trivial⟩ ⟨by rw [← fmX_end hfix]; exact hm, by omega⟩ (by (try dsimp only); omega)
        · obtain rfl : k = v := by omega
          refine wc_exit ?_
          refine then_exit ?_
          refine then_exit ?_
          refine block_exit ?_
          refine then_normal ?_
          refine wc_seq ?_
          refine wc_region ?_
          refine wl_y (y_move (by conv => lhs; whnf)) ?_
          refine wl_y (y_assign (by conv => lhs; whnf)) ?_
          refine wl_nil ?_
          refine then_normal ?_
          refine wc_ret ?_
          refine post_ret (results_fr rfl) ?_
          exact ⟨b17, rfl, hm.drop 2⟩
end Go.Proofs.Ytofpdjpenmhbnaa
namespace Go.Proofs.Ytofpdjpenmhbnaa
open Go Go.Kx
theorem hb56 : HasBody Try.prog 56 := hasBody Try.func56 (by kernel_rfl) (by kernel_rfl)
theorem hb59 : HasBody Try.prog 59 := hasBody Try.func59 (by kernel_rfl) (by kernel_rfl)
theorem hb66 : HasBody Try.prog 66 := hasBody Try.func66 (by kernel_rfl) (by kernel_rfl)
set_option maxHeartbeats 4000000 in
theorem Signed_yes (w : World) (vl : Value) (ps : List (Int × Int)) (n : Int) (hl : SlAt w 2 vl ps.length (prs ps)) (hok : NetOk ps) :
    Cl Try.prog 24 [vl, .int .i64 n].toArray w (Ret w (.tuple (if 1 ≤ n ∧ n ≤ 10 then #[.int .i64 (signedTo (formF (tabR ps) ps.length) (formK (tabR ps) ps.length) n.toNat (2 ^ n.toNat)), .int .i64 0] else #[.int .i64 0, .int .i64 1]))) := by
  have hm : Mem w [] [] w := Mem.init w
  refine cl_enter_marks Try.func24 rfl Try.ntmps24 rfl ?_
  refine wc_seq ?_
  refine wc_region ?_
  refine wl_box hm (by conv => lhs; whnf) (fun W b3 hm hb3 hu => ?_)
  refine wl_y (y_assign (by conv => lhs; whnf)) ?_
  refine wl_y (y_assign (by conv => lhs; whnf)) ?_
  refine wl_nil ?_
  refine then_normal ?_
  refine wc_seq ?_
  refine wc_region ?_
  refine wl_y (y_move (by conv => lhs; whnf)) ?_
  refine wl_callM hm hb54 (open_yes _ _ ps (hl.step hm.upd) hok) rfl rfl (fun W v16 E hm hu hE => ?_)
  obtain ⟨bn, nx, rfl, rfl, hnet⟩ := hE
  have ho := hnet.okf
  have hk5 := ho.k5
  refine wl_y (y_move (by conv => lhs; whnf)) ?_
  refine wl_y (y_extract rfl rfl) ?_
  refine wl_y (y_extract rfl rfl) ?_
  refine wl_y (y_assign (by conv => lhs; whnf)) ?_
  refine wl_y (y_assign (by conv => lhs; whnf)) ?_
  refine wl_nil ?_
  refine then_normal ?_
  refine wc_seq ?_
  refine wc_seq ?_
  refine wc_region ?_
  refine wl_y (y_move (by conv => lhs; whnf)) ?_
  refine wl_y (y_neq rfl rfl) ?_
  refine wl_nil ?_
  refine then_normal ?_
  refine wc_cond_dec rfl (fun h1 => ?_) (fun h1 => ?_)
  · exact absurd rfl h1
  · skip
    refine wc_skip ?_
    refine then_normal ?_
    refine wc_seq ?_
    refine wc_seq ?_
    refine wc_region ?_
    refine wl_y (y_load rfl (hm.blk_cell 0 rfl rfl) Try.underlying3 rfl) ?_
    refine wl_y (y_lss rfl rfl) ?_
    refine wl_split rfl (fun h2 => ?_) (fun h2 => ?_)
    · skip
      refine wl_guard_no rfl ?_
      refine wl_guard_no rfl ?_
      refine wl_y (y_pick_true rfl (by conv => lhs; whnf)) ?_
      refine wl_nil ?_
      refine then_normal ?_
      refine wc_cond_true rfl ?_
      refine wc_seq ?_
      refine wc_region ?_
      refine wl_y (y_assign (by conv => lhs; whnf)) ?_
      refine wl_y (y_assign (by conv => lhs; whnf)) ?_
      refine wl_nil ?_
      refine then_normal ?_
      refine wc_ret ?_
      refine then_ret ?_
      refine post_ret0M (results_fr2 rfl) ?_
      refine ⟨?_, hm.upd⟩
      rw [if_neg (by omega)]; rfl
    · skip
      refine wl_guard_yes rfl ?_
      refine wl_y (y_load rfl (hm.blk_cell 0 rfl rfl) Try.underlying3 rfl) ?_
      refine wl_guard_yes rfl ?_
      refine wl_y (y_gtr rfl rfl) ?_
      refine wl_y (y_pick_false rfl (by conv => lhs; whnf)) ?_
      refine wl_nil ?_
      refine then_normal ?_
      refine wc_cond_dec rfl (fun h3 => ?_) (fun h3 => ?_)
      · skip
        refine wc_seq ?_
        refine wc_region ?_
        refine wl_y (y_assign (by conv => lhs; whnf)) ?_
        refine wl_y (y_assign (by conv => lhs; whnf)) ?_
        refine wl_nil ?_
        refine then_normal ?_
        refine wc_ret ?_
        refine then_ret ?_
        refine post_ret0M (results_fr2 rfl) ?_
        refine ⟨?_, hm.upd⟩
        rw [if_neg (by omega)]; rfl
      · have hn : 1 ≤ n ∧ n ≤ 10 := by omega
        obtain ⟨m, rfl⟩ : ∃ m : Nat, n = m := ⟨n.toNat, by omega⟩
        have hp10 : 2 ^ m ≤ 2 ^ 10 := Nat.pow_le_pow_right (by decide) (by omega)
        refine wc_skip ?_
        refine then_normal ?_
        refine wc_seq ?_
        refine wc_region ?_
        refine wl_y (y_move (by conv => lhs; whnf)) ?_
        have hk1 : 1 ≤ ps.length := hok.1.1
        refine wl_call hb56 (form_calls _ _ _ _ (⟨hm.at (i := 1) rfl, hnet.nx.1⟩ : NetAt _ _ _ _) ho hk1) rfl rfl (fun e W h => ?_)
        obtain ⟨bf, rfl, hbf⟩ := h
        refine ⟨_, rfl, ?_⟩
        have hm := hm.call hbf
        have hof : Okf (formK (tabN nx) ps.length) (formF (tabN nx) ps.length) := form_okf (eqIter_canon (tabN nx) ps.length ps.length) ho hk1
        have hk5f := hof.k5
        have h32 := pow_le_32 hk5f
        have hpp := Nat.two_pow_pos (formK (tabN nx) ps.length)
        refine wl_alloc hm ti72 (fun W b8 hm hb8 hu => ?_)
        refine wl_store1 (i := 3) hm rfl (by conv => lhs; whnf) rfl ti72 (by first | decide | simp) rfl rfl (fun W hm => ?_)
        refine wl_nil ?_
        refine then_normal ?_
        refine wc_seq ?_
        refine wc_region ?_
        refine wl_alloc hm ti3 (fun W b9 hm hb9 hu => ?_)
        refine wl_store1 (i := 4) hm rfl (by conv => lhs; whnf) rfl ti3 (by first | decide | simp) rfl rfl (fun W hm => ?_)
        refine wl_nil ?_
        refine then_normal ?_
        refine wc_seq ?_
        refine wc_seq ?_
        refine wc_region ?_
        refine wl_y (y_load rfl (hm.blk_cell 0 rfl rfl) Try.underlying3 rfl) ?_
        refine wl_callM hm hb64 (every_calls _ _) rfl rfl (fun W v31 E hm hu hE => ?_)
        obtain ⟨b1w, rfl, rfl⟩ := hE
        refine wl_nil ?_
        refine then_normal ?_
        refine wc_block ?_
        have hm : Mem w [] ([.blk b3 3 [.int .i64 (m : Int)], .blk bn 94 (netCells ps.length nx), .blk bf 94 (netCells (formK (tabN nx) ps.length) (fmTo (tabN nx) (eqV (tabN nx) ps.length) ps.length)), .blk b8 72 [pb bf], .blk b9 3 [.int .i64 0]] ++ [.blk b1w 3 [.int .i64 (m : Int)]]) W := hm
        have hm : Mem w [] ([.blk b3 3 [.int .i64 (m : Int)], .blk bf 94 (netCells (formK (tabN nx) ps.length) (fmTo (tabN nx) (eqV (tabN nx) ps.length) ps.length)), .blk b8 72 [pb bf], .blk b9 3 [.int .i64 0]] ++ [.blk b1w 3 [.int .i64 (m : Int)]]) W := hm.erase 1
        refine wc_rangeFunc hm rfl hb90 (upto (2 ^ m)) (fun ys E => E = [.blk b3 3 [.int .i64 (m : Int)], .blk bf 94 (netCells (formK (tabN nx) ps.length) (fmTo (tabN nx) (eqV (tabN nx) ps.length) ps.length)), .blk b8 72 [pb bf], .blk b9 3 [.int .i64 (signedTo (formF (tabN nx) ps.length) (formK (tabN nx) ps.length) m ys.length)]]) (fun _ => False) ([]) (rfl) (fun ys E h e he => by cases he) (fun lp J D F W hY hD hs hJ hf => every1_calls J D _ m lp b1w W F hY (hD (fun _ h => h)) (by omega) rfl hJ hf) (fun bd lp fnn ys v rest E wr SR rr hL hE hrr hSR hm => ?_) (fun bd lp r W E hE hm => ?_) (fun bd lp r W E hE hm => ?_)
        · subst hE
          obtain ⟨hys, rfl, hlt⟩ := upto_item hL
          have hsle := signed_le (f := (formF (tabN nx) ps.length)) (n := m) hk5f ys.length
          refine wc_region ?_
          refine wl_y (y_assign (by conv => lhs; whnf)) ?_
          refine wl_nil ?_
          refine begin_round hrr hm (fun W hm => ?_)
          refine wc_block ?_
          refine wc_seq ?_
          refine wc_region ?_
          refine wl_y (y_load rfl (hm.blk_cell 4 rfl rfl) Try.underlying72 rfl) ?_
          refine wl_y (y_move (by conv => lhs; whnf)) ?_
          refine wl_y (y_load rfl (hm.blk_cell 2 rfl rfl) Try.underlying3 rfl) ?_
          refine wl_callR hm hb65 (through_calls _ _ _ _ ys.length m (⟨hm.at (i := 3) rfl, fmTo_len _ _ _⟩ : NetAt _ _ _ _) hof (by omega) (by omega)) rfl rfl (fun W hm hu => ?_)
          refine wl_alloc hm ti90 (fun W b11 hm hb11 hu => ?_)
          refine wl_storeBlk (i := 6) (vs := ints (thrTo (formF (tabN nx) ps.length) ys.length m (formK (tabN nx) ps.length))) hm rfl rfl rfl ti90 (by simp [thrTo_len]) rfl (ints_one _) (fun W hm => ?_)
          have hts : ∀ v, v < 5 → -1 ≤ (thrTo (formF (tabN nx) ps.length) ys.length m (formK (tabN nx) ps.length)).getD v 0 ∧ (thrTo (formF (tabN nx) ps.length) ys.length m (formK (tabN nx) ps.length)).getD v 0 < 5 := fun v hv => by have h := thr_ok hof ys.length m v hv; omega
          refine wl_nil ?_
          refine then_normal ?_
          refine wc_seq ?_
          refine wc_region ?_
          refine wl_y (y_assign (by conv => lhs; whnf)) ?_
          refine wl_nil ?_
          refine then_normal ?_
          refine wc_block ?_
          refine wc_loop [12, 13, 37, 38, 39, 40, 41, 42, 43, 44, 45, 46, 47, 48, 49, 50, 51, 52, 53, 54, 55, 56] (fun (i : Nat) => [(12, .int .i64 ((i + 1 : Nat) : Int))]) (fun (i : Nat) W => Mem wr SR [blockEn bd, loopEn lp (rr .busy none), .blk b3 3 [.int .i64 (m : Int)], .blk bf 94 (netCells (formK (tabN nx) ps.length) (fmTo (tabN nx) (eqV (tabN nx) ps.length) ps.length)), .blk b8 72 [pb bf], .blk b9 3 [.int .i64 ((signedTo (formF (tabN nx) ps.length) (formK (tabN nx) ps.length) m ys.length) + sgnI (thrTo (formF (tabN nx) ps.length) ys.length m (formK (tabN nx) ps.length)) i)], .blk b11 90 (ints (thrTo (formF (tabN nx) ps.length) ys.length m (formK (tabN nx) ps.length)))] W ∧ i + 1 ≤ 2 ^ (formK (tabN nx) ps.length)) (fun (i : Nat) => 2 ^ (formK (tabN nx) ps.length) - i) ((0) : Nat) ?_ ?_ ?_
          · exact ⟨rfl, trivial⟩
          · exact ⟨by rw [sgnI, Int.add_zero]; exact hm, by omega⟩
          · rintro i u W ⟨hm, hi⟩
            refine wc_seq ?_
            refine wc_seq ?_
            refine wc_region ?_
            refine wl_y (y_move (by conv => lhs; whnf)) ?_
            refine wl_y (y_load rfl (hm.blk_cell 4 rfl rfl) Try.underlying72 rfl) ?_
            refine wl_callR hm hb58 (all_calls _ _ _ _ (⟨hm.at (i := 3) rfl, fmTo_len _ _ _⟩ : NetAt _ _ _ _) hk5f) rfl rfl (fun W hm hu => ?_)
            refine wl_y (y_leq rfl rfl) ?_
            refine wl_nil ?_
            refine then_normal ?_
            refine wc_cond_dec rfl (fun h4 => ?_) (fun h4 => ?_)
            · have hpm := sgV_pm (thrTo (formF (tabN nx) ps.length) ys.length m (formK (tabN nx) ps.length)) (i + 1)
              have hile := sgnI_le (thrTo (formF (tabN nx) ps.length) ys.length m (formK (tabN nx) ps.length)) i
              refine wc_skip ?_
              refine then_normal ?_
              refine wc_seq ?_
              refine wc_block ?_
              refine wc_seq ?_
              refine wc_region ?_
              refine wl_y (y_loadBlk (xs := ints (thrTo (formF (tabN nx) ps.length) ys.length m (formK (tabN nx) ps.length))) rfl (hm.at (i := 6) rfl) Try.underlying90 rfl (by rw [show (ints (thrTo (formF (tabN nx) ps.length) ys.length m (formK (tabN nx) ps.length))).length = 5 by simp [thrTo_len]]; exact ti90)) ?_
              refine wl_y (y_move (by conv => lhs; whnf)) ?_
              refine wl_callR hm hb66 (sign_calls _ _ _ (thrTo_len _ _ _ _) hts (by omega)) rfl rfl (fun W hm hu => ?_)
              refine wl_y (y_assign (by conv => lhs; whnf)) ?_
              refine wl_nil ?_
              refine then_normal ?_
              refine wc_seq ?_
              refine wc_region ?_
              refine wl_y (y_move (by conv => lhs; whnf)) ?_
              refine wl_y (y_conv rfl Try.underlying3 Try.underlying39 (IntWalk.u64_in _ (by omega))) ?_
              refine wl_callR hm hb59 (OnesCount_calls _ (i + 1) (by omega)) rfl rfl (fun W hm hu => ?_)
              refine wl_y ((by first | exact y_rem2 rfl rfl | exact y_rem rfl rfl (by omega))) ?_
              refine wl_y (y_eql rfl rfl) ?_
              refine wl_nil ?_
              refine then_normal ?_
              refine wc_cond_dec rfl (fun h5 => ?_) (fun h5 => ?_)
              · skip
                refine wc_region ?_
                refine wl_y (y_load rfl (hm.blk_cell 5 rfl rfl) Try.underlying3 rfl) ?_
                refine wl_y (y_move (by conv => lhs; whnf)) ?_
                refine wl_y (y_add64 rfl rfl (by omega)) ?_
                refine wl_store1 (i := 5) hm rfl (by conv => lhs; whnf) rfl ti3 (by first | decide | simp) rfl rfl (fun W hm => ?_)
                refine wl_nil ?_
                refine block_normal ?_
                refine then_normal ?_
                refine wc_region ?_
                refine wl_y (y_move (by conv => lhs; whnf)) ?_
                refine wl_y (y_add64 rfl rfl (by omega)) ?_
                refine wl_y (y_assign (by conv => lhs; whnf)) ?_
                refine wl_nil ?_
                refine next_round (σ := Nat) (i + 1) rfl (by repeat first | exact out_hav | refine out_look rfl ?_ | refine out_havIn rfl ?_) ⟨rfl, trivial⟩ ⟨by rw [sgnI, if_pos (by omega), ← Int.add_assoc]; exact hm, by omega⟩ (by (try dsimp only); omega)
              · skip
                refine wc_region ?_
                refine wl_y (y_load rfl (hm.blk_cell 5 rfl rfl) Try.underlying3 rfl) ?_
                refine wl_y (y_move (by conv => lhs; whnf)) ?_
                refine wl_y (y_sub64 rfl rfl (by omega)) ?_
                refine wl_store1 (i := 5) hm rfl (by conv => lhs; whnf) rfl ti3 (by first | decide | simp) rfl rfl (fun W hm => ?_)
                refine wl_nil ?_
                refine block_normal ?_
                refine then_normal ?_
                refine wc_region ?_
                refine wl_y (y_move (by conv => lhs; whnf)) ?_
                refine wl_y (y_add64 rfl rfl (by omega)) ?_
                refine wl_y (y_assign (by conv => lhs; whnf)) ?_
                refine wl_nil ?_
                refine next_round (σ := Nat) (i + 1) rfl (by repeat first | exact out_hav | refine out_look rfl ?_ | refine out_havIn rfl ?_) ⟨rfl, trivial⟩ ⟨by rw [sgnI, if_neg (by omega), ← Int.add_sub_assoc]; exact hm, by omega⟩ (by (try dsimp only); omega)
            · obtain rfl : i = 2 ^ (formK (tabN nx) ps.length) - 1 := by omega
              refine wc_exit ?_
              refine then_exit ?_
              refine then_exit ?_
              refine block_exit ?_
              refine block_normal ?_
              have hst : signedTo (formF (tabN nx) ps.length) (formK (tabN nx) ps.length) m (ys ++ [Value.int .i64 (ys.length : Nat)]).length = (signedTo (formF (tabN nx) ps.length) (formK (tabN nx) ps.length) m ys.length) + sgnI (thrTo (formF (tabN nx) ps.length) ys.length m (formK (tabN nx) ps.length)) (2 ^ (formK (tabN nx) ps.length) - 1) := by rw [List.length_append]; rfl
              exact end_round hrr hSR (hm.take 6) (by rw [hst]; rfl)
        · subst hE
          refine block_normal ?_
          refine then_normal ?_
          refine wc_seq ?_
          refine wc_region ?_
          refine wl_y (y_load rfl (hm.blk_cell 5 rfl rfl) Try.underlying3 rfl) ?_
          refine wl_y (y_assign (by conv => lhs; whnf)) ?_
          refine wl_y (y_assign (by conv => lhs; whnf)) ?_
          refine wl_nil ?_
          refine then_normal ?_
          refine wc_ret ?_
          refine post_retM hm (fun W hm => results_fr2 rfl) (fun W hm => ?_)
          refine ⟨?_, hm.upd⟩
          rw [if_pos hn, Int.toNat_natCast, ← hnet.formF, ← hnet.formK, show signedTo (formF (tabN nx) ps.length) (formK (tabN nx) ps.length) m (2 ^ m) = signedTo (formF (tabN nx) ps.length) (formK (tabN nx) ps.length) m (upto (2 ^ m)).length by rw [upto_len]]; rfl
        · exact hE.elim

set_option maxHeartbeats 4000000 in
theorem Signed_no (w : World) (vl : Value) (ps : List (Int × Int)) (n : Int) (hl : SlAt w 2 vl ps.length (prs ps)) (hok : ¬ NetOk ps) :
    Cl Try.prog 24 [vl, .int .i64 n].toArray w (Ret w (.tuple #[.int .i64 0, .int .i64 70])) := by
  have hm : Mem w [] [] w := Mem.init w
  refine cl_enter_marks Try.func24 rfl Try.ntmps24 rfl ?_
  refine wc_seq ?_
  refine wc_region ?_
  refine wl_box hm (by conv => lhs; whnf) (fun W b3 hm hb3 hu => ?_)
  refine wl_y (y_assign (by conv => lhs; whnf)) ?_
  refine wl_y (y_assign (by conv => lhs; whnf)) ?_
  refine wl_nil ?_
  refine then_normal ?_
  refine wc_seq ?_
  refine wc_region ?_
  refine wl_y (y_move (by conv => lhs; whnf)) ?_
  refine wl_callR hm hb54 (open_no _ _ _ (hl.step hm.upd) hok) rfl rfl (fun W hm hu => ?_)
  refine wl_y (y_move (by conv => lhs; whnf)) ?_
  refine wl_y (y_extract rfl rfl) ?_
  refine wl_y (y_extract rfl rfl) ?_
  refine wl_y (y_assign (by conv => lhs; whnf)) ?_
  refine wl_y (y_assign (by conv => lhs; whnf)) ?_
  refine wl_nil ?_
  refine then_normal ?_
  refine wc_seq ?_
  refine wc_seq ?_
  refine wc_region ?_
  refine wl_y (y_move (by conv => lhs; whnf)) ?_
  refine wl_y (y_neq rfl rfl) ?_
  refine wl_nil ?_
  refine then_normal ?_
  refine wc_cond_dec rfl (fun h1 => ?_) (fun h1 => ?_)
  · skip
    refine wc_seq ?_
    refine wc_region ?_
    refine wl_y (y_move (by conv => lhs; whnf)) ?_
    refine wl_y (y_assign (by conv => lhs; whnf)) ?_
    refine wl_y (y_assign (by conv => lhs; whnf)) ?_
    refine wl_nil ?_
    refine then_normal ?_
    refine wc_ret ?_
    refine then_ret ?_
    refine post_ret0M (results_fr2 rfl) ?_
    exact ⟨rfl, hm.upd⟩
  · exfalso
    omega

theorem Signed_calls (w : World) (vl : Value) (ps : List (Int × Int)) (n : Int) (hl : SlAt w 2 vl ps.length (prs ps)) :
    Cl Try.prog 24 [vl, .int .i64 n].toArray w (Ret w (.tuple #[.int .i64 (signedW ps n).1, .int .i64 (signedW ps n).2])) := by
  by_cases hok : NetOk ps
  · have h := Signed_yes w vl ps n hl hok
    rw [show (.tuple #[.int .i64 (signedW ps n).1, .int .i64 (signedW ps n).2] : Value) = .tuple (if 1 ≤ n ∧ n ≤ 10 then #[.int .i64 (signedTo (formF (tabR ps) ps.length) (formK (tabR ps) ps.length) n.toNat (2 ^ n.toNat)), .int .i64 0] else #[.int .i64 0, .int .i64 1]) by simp only [signedW, signedV, if_pos hok]; split <;> rfl]; exact h
  · have h := Signed_no w vl ps n hl hok
    rw [show (.tuple #[.int .i64 (signedW ps n).1, .int .i64 (signedW ps n).2] : Value) = .tuple #[.int .i64 0, .int .i64 70] by simp [signedW, signedV, hok]]; exact h
end Go.Proofs.Ytofpdjpenmhbnaa
namespace Go.Proofs.Ytofpdjpenmhbnaa
open Go Go.Kx

theorem ok77 : KeyOk Try.prog 77 (prV .i64) := keyOk_pairS Try.underlying77 (by kernel_rfl) (by show _ = _; kernel_rfl) Try.underlying3 Try.underlying3

set_option maxHeartbeats 4000000 in
theorem goes_calls (w : World) (vl : Value) (zs : List Int) (t : Int) (hl : SlAt w 1 vl zs.length (ints zs)) (ht : t < zs.length) :
    Cl Try.prog 77 [vl, .int .i64 t].toArray w (Ret w (.int .i64 (if t < 0 then -1 else zs.getD t.toNat 0))) := by
  have hm : Mem w [] [] w := Mem.init w
  refine cl_enter Try.func77 rfl Try.ntmps77 rfl ?_
  refine wc_seq ?_
  refine wc_region ?_
  refine wl_y (y_assign (by conv => lhs; whnf)) ?_
  refine wl_nil ?_
  refine then_normal ?_
  refine wc_seq ?_
  refine wc_seq ?_
  refine wc_region ?_
  refine wl_y (y_move (by conv => lhs; whnf)) ?_
  refine wl_y (y_lss rfl rfl) ?_
  refine wl_nil ?_
  refine then_normal ?_
  refine wc_cond_dec rfl (fun h1 => ?_) (fun h1 => ?_)
  · skip
    refine wc_seq ?_
    refine wc_region ?_
    refine wl_y (y_assign (by conv => lhs; whnf)) ?_
    refine wl_nil ?_
    refine then_normal ?_
    refine wc_ret ?_
    refine then_ret ?_
    refine post_ret (results_fr rfl) ?_
    refine ⟨?_, hm.upd⟩
    rw [if_pos (by assumption)]; rfl
  · skip
    refine wc_skip ?_
    refine then_normal ?_
    refine wc_seq ?_
    refine wc_region ?_
    refine wl_y (y_move (by conv => lhs; whnf)) ?_
    refine wl_y (y_move (by conv => lhs; whnf)) ?_
    refine wl_y (y_indexAddr (by conv => lhs; whnf) rfl (hl.step hm.upd) (by omega) Try.underlying55 ti3 (by decide)) ?_
    refine wl_y (y_loadSl rfl (hl.step hm.upd) (ints_atI (by omega)) Try.underlying3 rfl) ?_
    refine wl_y (y_assign (by conv => lhs; whnf)) ?_
    refine wl_nil ?_
    refine then_normal ?_
    refine wc_ret ?_
    refine post_ret (results_fr rfl) ?_
    refine ⟨?_, hm.upd⟩
    rw [if_neg (by assumption)]; rfl
end Go.Proofs.Ytofpdjpenmhbnaa
namespace Go.Proofs.Ytofpdjpenmhbnaa
open Go Go.Kx

set_option maxHeartbeats 4000000 in
theorem pairs1_calls (J : List Value → List Nat → World → Prop) (D : List Nat → World → Prop) (L : List Value) (nx : List Int) (bn k lp b1 : Nat) (w : World) (F : List Nat) (hY : YieldsTo Try.prog lp L J D) (hnet : ∀ ys F W, J ys F W → NetAt W bn k nx) (hk5 : k ≤ 5)
    (hL : L = pairI k k) (hJ : J [] F w) (hfr : Free [.blk b1 72 [pb bn]] F w) :
    Cl Try.prog 98 [.func (.yield lp) #[] #[], pb b1].toArray w (fun e W' => (∃ v, e = .returned v) ∧ ∃ F', (J L F' W' ∨ D F' W')) := by
  have hb1 : ∀ {F W}, Free [.blk b1 72 [pb bn]] F W → (En.blk b1 72 [pb bn]).holds W := fun h => (h _ (by simp)).1
  have hm : Mem w [] [] w := Mem.init w
  refine cl_enter Try.func98 rfl Try.ntmps98 rfl ?_
  refine wc_seq ?_
  refine wc_region ?_
  refine wl_y (y_load rfl (blk_cell (hb1 hfr) rfl) Try.underlying72 rfl) ?_
  refine wl_y (y_nilCheck rfl) ?_
  refine wl_y (y_fieldAddr (off := 0) (ft := 3) rfl Try.underlying94 rfl ti3) ?_
  refine wl_y (y_load rfl (blk_cell ((hnet _ _ _ hJ).at_) rfl) Try.underlying3 rfl) ?_
  refine wl_y (y_move (by conv => lhs; whnf)) ?_
  refine wl_nil ?_
  refine then_normal ?_
  refine wc_block ?_
  refine wc_loop [3, 4, 9, 10, 11, 12, 13, 14, 15, 16, 17, 18, 19, 20, 21, 22, 23, 24, 25, 26, 27, 28] (fun ((p, F) : Nat × List Nat) => [(9, .int .i64 (p : Int))]) (fun ((p, F) : Nat × List Nat) W => J (pairI k p) F W ∧ Free [.blk b1 72 [pb bn]] F W ∧ p ≤ k) (fun ((p, F) : Nat × List Nat) => k - p) ((0, F) : Nat × List Nat) ?_ ?_ ?_
  · exact ⟨rfl, trivial⟩
  · exact ⟨hJ, hfr, Nat.zero_le _⟩
  · rintro ⟨p, F⟩ u W ⟨hJ, hfr, hp⟩
    refine wc_seq ?_
    refine wc_region ?_
    refine wl_y (y_lss rfl rfl) ?_
    refine wl_nil ?_
    refine then_normal ?_
    refine wc_seq ?_
    refine wc_cond_dec rfl (fun h1 => ?_) (fun h1 => ?_)
    · skip
      refine wc_skip ?_
      refine then_normal ?_
      refine wc_seq ?_
      refine wc_block ?_
      refine wc_seq ?_
      refine wc_region ?_
      refine wl_y (y_move (by conv => lhs; whnf)) ?_
      refine wl_y (y_assign (by conv => lhs; whnf)) ?_
      refine wl_nil ?_
      refine then_normal ?_
      refine wc_seq ?_
      refine wc_region ?_
      refine wl_y (y_move (by conv => lhs; whnf)) ?_
      refine wl_y (y_add64 rfl rfl (by omega)) ?_
      refine wl_y (y_assign (by conv => lhs; whnf)) ?_
      refine wl_nil ?_
      refine then_normal ?_
      refine wc_block ?_
      refine wc_loop [4, 14, 15, 16, 17, 18, 19, 20, 21, 22, 23, 24, 25, 26, 27] (fun ((j, F) : Nat × List Nat) => [(4, .int .i64 ((p + 1 + j : Nat) : Int))]) (fun ((j, F) : Nat × List Nat) W => J (pairI k p ++ rowI p j) F W ∧ Free [.blk b1 72 [pb bn]] F W ∧ j ≤ k - 1 - p) (fun ((j, F) : Nat × List Nat) => k - 1 - p - j) ((0, F) : Nat × List Nat) ?_ ?_ ?_
      · exact ⟨rfl, trivial⟩
      · exact ⟨by rw [rowI, List.append_nil]; exact hJ, hfr, Nat.zero_le _⟩
      · rintro ⟨j, F⟩ u W ⟨hJ, hfr, hj⟩
        refine wc_seq ?_
        refine wc_seq ?_
        refine wc_region ?_
        refine wl_y (y_move (by conv => lhs; whnf)) ?_
        refine wl_y (y_load rfl (blk_cell (hb1 hfr) rfl) Try.underlying72 rfl) ?_
        refine wl_y (y_nilCheck rfl) ?_
        refine wl_y (y_fieldAddr (off := 0) (ft := 3) rfl Try.underlying94 rfl ti3) ?_
        refine wl_y (y_load rfl (blk_cell ((hnet _ _ _ hJ).at_) rfl) Try.underlying3 rfl) ?_
        refine wl_y (y_lss rfl rfl) ?_
        refine wl_nil ?_
        refine then_normal ?_
        refine wc_cond_dec rfl (fun h2 => ?_) (fun h2 => ?_)
        · skip
          refine wc_skip ?_
          refine then_normal ?_
          refine wc_seq ?_
          refine wc_block ?_
          refine wc_seq ?_
          refine wc_region ?_
          refine wl_y (y_move (by conv => lhs; whnf)) ?_
          refine wl_y (y_move (by conv => lhs; whnf)) ?_
          refine wl_y (y_move (by conv => lhs; whnf)) ?_
          refine wl_y (y_buildL (cells := #[.int .i64 (p : Int), .int .i64 ((p + 1 + j : Nat) : Int)]) rfl (by kernel_rfl)) ?_
          obtain ⟨rest, hsp⟩ := pairs_split (k := k) (p := p) (j := j) (by omega) (by omega)
          refine wl_yield hY (ys := pairI k p ++ rowI p j) (rest' := rest) (v := pv p (p + 1 + j)) (by rw [hL, hsp]) hJ rfl rfl (fun W F1 hg1 hJ1 => ?_) (fun W F1 hg1 hD1 => ?_)
          · skip
            refine wl_y (y_not rfl) ?_
            refine wl_nil ?_
            refine then_normal ?_
            refine wc_cond_false rfl ?_
            refine wc_skip ?_
            refine block_normal ?_
            refine then_normal ?_
            refine wc_region ?_
            refine wl_y (y_move (by conv => lhs; whnf)) ?_
            refine wl_y (y_add64 rfl rfl (by omega)) ?_
            refine wl_y (y_assign (by conv => lhs; whnf)) ?_
            refine wl_nil ?_
            refine next_round (σ := Nat × List Nat) (j + 1, F1) rfl (by repeat first | exact out_hav | refine out_look rfl ?_ | refine out_havIn rfl ?_) ⟨rfl, trivial⟩ ⟨by rw [rowI, ← List.append_assoc]; exact hJ1, hfr.gr hg1, by omega⟩ (by (try dsimp only); omega)
          · skip
            refine wl_y (y_not rfl) ?_
            refine wl_nil ?_
            refine then_normal ?_
            refine wc_cond_true rfl ?_
            refine wc_ret ?_
            refine block_ret ?_
            refine then_ret ?_
            refine then_ret ?_
            refine block_ret ?_
            refine block_ret ?_
            refine then_ret ?_
            refine then_ret ?_
            refine block_ret ?_
            refine post_ret (results_fr0 rfl) ?_
            exact ⟨⟨_, rfl⟩, F1, .inr hD1⟩
        · obtain rfl : j = k - 1 - p := by omega
          refine wc_exit ?_
          refine then_exit ?_
          refine then_exit ?_
          refine block_exit ?_
          refine block_normal ?_
          refine then_normal ?_
          refine wc_region ?_
          refine wl_y (y_add64 rfl rfl (by omega)) ?_
          refine wl_y (y_move (by conv => lhs; whnf)) ?_
          refine wl_nil ?_
          refine next_round (σ := Nat × List Nat) (p + 1, F) rfl (by repeat first | exact out_hav | refine out_look rfl ?_ | refine out_havIn rfl ?_) ⟨rfl, trivial⟩ ⟨hJ, hfr, by omega⟩ (by (try dsimp only); omega)
    · obtain rfl : k = p := by omega
      refine wc_exit ?_
      refine then_exit ?_
      refine then_exit ?_
      refine block_exit ?_
      refine post_end (results_fr0 rfl) ?_
      exact ⟨⟨_, rfl⟩, F, .inl (by rw [hL]; exact hJ)⟩

set_option maxHeartbeats 4000000 in
theorem pairs_calls (w : World) (bn : Nat) :
    Cl Try.prog 84 [pb bn].toArray w (fun e w' => ∃ v E, e = .returned v ∧ Mem w [] E w' ∧ ∃ b1, v = .func (.func 98) #[] [pb b1].toArray ∧ E = [.blk b1 72 [pb bn]]) := by
  have hm : Mem w [] [] w := Mem.init w
  refine cl_enter Try.func84 rfl Try.ntmps84 rfl ?_
  refine wc_seq ?_
  refine wc_region ?_
  refine wl_box hm (by conv => lhs; whnf) (fun W b1 hm hb1 hu => ?_)
  refine wl_y (y_assign (by conv => lhs; whnf)) ?_
  refine wl_nil ?_
  refine then_normal ?_
  refine wc_seq ?_
  refine wc_region ?_
  refine wl_y (y_makeFuncL rfl rfl) ?_
  refine wl_y (y_assign (by conv => lhs; whnf)) ?_
  refine wl_nil ?_
  refine then_normal ?_
  refine wc_ret ?_
  refine post_ret (results_fr rfl) ?_
  exact ⟨_, _, rfl, hm, b1, rfl, rfl⟩
end Go.Proofs.Ytofpdjpenmhbnaa
