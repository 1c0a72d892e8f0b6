import Derived.Test.YtofpdjpenmhbnaaC0
set_option linter.unusedVariables false
set_option linter.unusedSimpArgs false
set_option linter.unusedSectionVars false
namespace Go.Proofs.Ytofpdjpenmhbnaa
open Go Go.Kx
theorem ti77 : TI Try.prog 77 (.agg #[.int .i64 0, .int .i64 0]) 2 16 := by show _ = _; kernel_rfl
set_option maxHeartbeats 4000000 in
theorem behind_calls (w : World) (bn k : Nat) (nx : List Int) (p q c : Nat) (hn : NetAt w bn k nx) (ho : Okf k (tabN nx)) (hp : p < k) (hq : q < k) (hc : c < 2) :
    Cl Try.prog 85 [pb bn, pv p q, .int .i64 (c : Int)].toArray w (Ret w (.tuple #[prV .i64 (tabN nx p c, tabN nx q c), .bool (decide (0 ≤ min (tabN nx p c) (tabN nx q c) ∧ ¬ tabN nx p c = tabN nx q c))])) := by
  have hk5 := ho.k5
  have hm : Mem w [] [] w := Mem.init w
  refine cl_enter Try.func85 rfl Try.ntmps85 rfl ?_
  refine wc_seq ?_
  refine wc_region ?_
  refine wl_box (v := pv p q) hm rfl (fun W b4 hm hb4 hu => ?_)
  have hm : Mem w [] [.blk b4 77 [.int .i64 (p : Int), .int .i64 (q : Int)]] W := hm
  refine wl_alloc hm ti77 (fun W b6 hm hb6 hu => ?_)
  refine wl_y (y_assign (by conv => lhs; whnf)) ?_
  refine wl_nil ?_
  refine then_normal ?_
  refine wc_seq ?_
  refine wc_draw (C := fun W => Mem w [] [.blk b4 77 [.int .i64 (p : Int), .int .i64 (q : Int)], .blk b6 77 [.int .i64 0, .int .i64 0]] W) (some 20) mix (by kernel_rfl) (by kernel_rfl) (Mem.stable _ _ _) (hm.step (upd_drew _)) ?_
  refine al_y (by kernel_rfl) (fun W hm => y_move (by conv => lhs; whnf)) ?_
  refine al_y (by kernel_rfl) (fun W hm => y_fieldAddr (off := 0) (ft := 3) rfl Try.underlying77 rfl ti3) ?_
  refine al_y (by kernel_rfl) (fun W hm => y_load rfl (hm.blk_cell 0 rfl rfl) Try.underlying3 rfl) ?_
  refine al_y (by kernel_rfl) (fun W hm => y_move (by conv => lhs; whnf)) ?_
  refine al_y (by kernel_rfl) (fun W hm => y_nilCheck rfl) ?_
  refine al_y (by kernel_rfl) (fun W hm => y_fieldAddr (off := 1) (ft := 92) rfl Try.underlying94 rfl ti92) ?_
  refine al_y (by kernel_rfl) (fun W hm => y_indexArr rfl rfl (by omega) Try.underlying92 ti27) ?_
  refine al_y (by kernel_rfl) (fun W hm => y_indexArr rfl rfl (by omega) Try.underlying27 ti3) ?_
  refine al_y (by kernel_rfl) (fun W hm => y_load (v := .int .i64 (tabN nx p c)) rfl ((hn.step hm.upd).next (by omega) hc) Try.underlying3 rfl) ?_
  refine al_y (by kernel_rfl) (fun W hm => y_move (by conv => lhs; whnf)) ?_
  refine al_y (by kernel_rfl) (fun W hm => y_fieldAddr (off := 1) (ft := 3) rfl Try.underlying77 rfl ti3) ?_
  refine al_y (by kernel_rfl) (fun W hm => y_load rfl (hm.blk_cell 0 rfl rfl) Try.underlying3 rfl) ?_
  refine al_y (by kernel_rfl) (fun W hm => y_move (by conv => lhs; whnf)) ?_
  refine al_y (by kernel_rfl) (fun W hm => y_nilCheck rfl) ?_
  refine al_y (by kernel_rfl) (fun W hm => y_fieldAddr (off := 1) (ft := 92) rfl Try.underlying94 rfl ti92) ?_
  refine al_y (by kernel_rfl) (fun W hm => y_indexArr rfl rfl (by omega) Try.underlying92 ti27) ?_
  refine al_y (by kernel_rfl) (fun W hm => y_indexArr rfl rfl (by omega) Try.underlying27 ti3) ?_
  refine al_y (by kernel_rfl) (fun W hm => y_load (v := .int .i64 (tabN nx q c)) rfl ((hn.step hm.upd).next (by omega) hc) Try.underlying3 rfl) ?_
  refine al_y (by kernel_rfl) (fun W hm => y_buildL (cells := #[.int .i64 (tabN nx p c), .int .i64 (tabN nx q c)]) rfl (by kernel_rfl)) ?_
  refine al_loud (by kernel_rfl) (fun W hm => ?_)
  refine wl_alloc hm ti77 (fun W b8 hm hb8 hu => ?_)
  refine nx_keep hm (fun W h => h.take 2) ?_
  refine al_loud (by kernel_rfl) (fun W hm => ?_)
  refine wl_storeBlk (i := 2) (vs := [.int .i64 (tabN nx p c), .int .i64 (tabN nx q c)]) hm rfl rfl rfl ti77 rfl rfl (by simp [Value.oneCell']) (fun W hm => ?_)
  refine nx_store none hm rfl ?_
  refine al_nil (by kernel_rfl) (fun W hm => ?_)
  refine then_normal ?_
  refine wc_seq ?_
  have hm : Mem w [] [.blk b4 77 [.int .i64 (p : Int), .int .i64 (q : Int)], vagueEn b6 77 2, .blk b8 77 [.int .i64 (tabN nx p c), .int .i64 (tabN nx q c)]] W := hm.vague 1 rfl
  refine wc_draw (C := fun W => Mem w [] [.blk b4 77 [.int .i64 (p : Int), .int .i64 (q : Int)], vagueEn b6 77 2, .blk b8 77 [.int .i64 (tabN nx p c), .int .i64 (tabN nx q c)]] W) none mix (by kernel_rfl) (by kernel_rfl) (Mem.stable _ _ _) (hm.step (upd_drew _)) ?_
  refine al_y (by kernel_rfl) (fun W hm => y_loadBlk rfl (hm.at (i := 2) rfl) Try.underlying77 rfl ti77) ?_
  refine al_y (by kernel_rfl) (fun W hm => y_fieldAddr (off := 0) (ft := 3) rfl Try.underlying77 rfl ti3) ?_
  refine al_y (by kernel_rfl) (fun W hm => y_load rfl (hm.blk_cell 2 rfl rfl) Try.underlying3 rfl) ?_
  refine al_y (by kernel_rfl) (fun W hm => y_fieldAddr (off := 1) (ft := 3) rfl Try.underlying77 rfl ti3) ?_
  refine al_y (by kernel_rfl) (fun W hm => y_load rfl (hm.blk_cell 2 rfl rfl) Try.underlying3 rfl) ?_
  refine al_loud (by kernel_rfl) (fun W hm => ?_)
  refine wl_lit2 (v := .int .i64 (tabN nx p c)) (w := .int .i64 (tabN nx q c)) hm rfl rfl Try.underlying55 ti3 rfl rfl (fun W v33 hm hu => ?_)
  refine nx_keep hm (fun W h => h.take 3) ?_
  refine al_callR (by kernel_rfl) hb78 (fun W hm => least2_calls W v33 _ _ (hm.slAt 3 rfl)) rfl rfl ?_
  refine al_y (by kernel_rfl) (fun W hm => y_geq rfl rfl) ?_
  refine al_split (by kernel_rfl) rfl (fun h1 => ?_) (fun h1 => ?_)
  · skip
    refine al_yg rfl (by kernel_rfl) (fun W hm => y_fieldAddr (off := 0) (ft := 3) rfl Try.underlying77 rfl ti3) ?_
    refine al_yg rfl (by kernel_rfl) (fun W hm => y_load rfl (hm.blk_cell 2 rfl rfl) Try.underlying3 rfl) ?_
    refine al_yg rfl (by kernel_rfl) (fun W hm => y_fieldAddr (off := 1) (ft := 3) rfl Try.underlying77 rfl ti3) ?_
    refine al_yg rfl (by kernel_rfl) (fun W hm => y_load rfl (hm.blk_cell 2 rfl rfl) Try.underlying3 rfl) ?_
    refine al_yg rfl (by kernel_rfl) (fun W hm => y_neq rfl rfl) ?_
    refine al_y (by kernel_rfl) (fun W hm => y_pick_true rfl (by conv => lhs; whnf)) ?_
    refine al_loud (by kernel_rfl) (fun W hm => ?_)
    obtain ⟨xs, hxl, hm⟩ := hm.known 1 rfl
    refine wl_storeBlk (i := 1) (vs := [.int .i64 (tabN nx p c), .int .i64 (tabN nx q c)]) hm rfl rfl rfl ti77 rfl hxl (by simp [Value.oneCell']) (fun W hm => ?_)
    refine nx_keep (H' := [.blk b4 77 [.int .i64 (p : Int), .int .i64 (q : Int)], .blk b6 77 [.int .i64 (tabN nx p c), .int .i64 (tabN nx q c)], .blk b8 77 [.int .i64 (tabN nx p c), .int .i64 (tabN nx q c)], .own 3 1 v33 2 [.int .i64 (tabN nx p c), .int .i64 (tabN nx q c)]]) hm (fun W h => h.vague 1 rfl) ?_
    refine al_y (by kernel_rfl) (fun W hm => y_assign (by conv => lhs; whnf)) ?_
    refine al_nil (by kernel_rfl) (fun W hm => ?_)
    refine then_normal ?_
    refine wc_ret ?_
    refine post_ret (results_ct rfl rfl (run_loadVar_agg (hm.at (i := 1) rfl) Try.underlying77 rfl ti77)) ?_
    refine ⟨?_, hm.upd⟩
    rw [show decide (0 ≤ min (tabN nx p c) (tabN nx q c) ∧ ¬ (tabN nx p c) = (tabN nx q c)) = decide (¬ (tabN nx p c) = (tabN nx q c)) from decide_eq_decide.2 ⟨fun h => h.2, fun h => ⟨by omega, h⟩⟩]; rfl
  · skip
    refine al_guard_no rfl rfl (by kernel_rfl) ?_
    refine al_guard_no rfl rfl (by kernel_rfl) ?_
    refine al_guard_no rfl rfl (by kernel_rfl) ?_
    refine al_guard_no rfl rfl (by kernel_rfl) ?_
    refine al_guard_no rfl rfl (by kernel_rfl) ?_
    refine al_y (by kernel_rfl) (fun W hm => y_pick_false rfl (by conv => lhs; whnf)) ?_
    refine al_loud (by kernel_rfl) (fun W hm => ?_)
    obtain ⟨xs, hxl, hm⟩ := hm.known 1 rfl
    refine wl_storeBlk (i := 1) (vs := [.int .i64 (tabN nx p c), .int .i64 (tabN nx q c)]) hm rfl rfl rfl ti77 rfl hxl (by simp [Value.oneCell']) (fun W hm => ?_)
    refine nx_keep (H' := [.blk b4 77 [.int .i64 (p : Int), .int .i64 (q : Int)], .blk b6 77 [.int .i64 (tabN nx p c), .int .i64 (tabN nx q c)], .blk b8 77 [.int .i64 (tabN nx p c), .int .i64 (tabN nx q c)], .own 3 1 v33 2 [.int .i64 (tabN nx p c), .int .i64 (tabN nx q c)]]) hm (fun W h => h.vague 1 rfl) ?_
    refine al_y (by kernel_rfl) (fun W hm => y_assign (by conv => lhs; whnf)) ?_
    refine al_nil (by kernel_rfl) (fun W hm => ?_)
    refine then_normal ?_
    refine wc_ret ?_
    refine post_ret (results_ct rfl rfl (run_loadVar_agg (hm.at (i := 1) rfl) Try.underlying77 rfl ti77)) ?_
    refine ⟨?_, hm.upd⟩
    rw [show decide (0 ≤ min (tabN nx p c) (tabN nx q c) ∧ ¬ (tabN nx p c) = (tabN nx q c)) = false from decide_eq_false (fun h => by omega)]; rfl
end Go.Proofs.Ytofpdjpenmhbnaa
namespace Go.Proofs.Ytofpdjpenmhbnaa
open Go Go.Kx
theorem hb85 : HasBody Try.prog 85 := hasBody Try.func85 (by kernel_rfl) (by kernel_rfl)
set_option maxHeartbeats 4000000 in
theorem goal_calls (w : World) (x y : Int × Int) (b5 : Nat) (hb : (En.blk b5 77 [.int .i64 y.1, .int .i64 y.2]).holds w) :
    Cl Try.prog 87 [prV .i64 x, pb b5].toArray w (Ret w (.bool (decide (x = y)))) := by
  have hbk : ∀ {W}, Upd [] w W → (En.blk b5 77 [.int .i64 y.1, .int .i64 y.2]).holds W := fun hu => hb.kept (fun k hk => hu.block k (hb.lt hk) (by simp))
  have hm : Mem w [] [] w := Mem.init w
  refine cl_enter Try.func87 rfl Try.ntmps87 rfl ?_
  refine wc_seq ?_
  refine wc_region ?_
  refine wl_box (v := prV .i64 x) hm rfl (fun W b2 hm hb2 hu => ?_)
  have hm : Mem w [] [.blk b2 77 [.int .i64 x.1, .int .i64 x.2]] W := hm
  refine wl_y (y_assign (by conv => lhs; whnf)) ?_
  refine wl_nil ?_
  refine then_normal ?_
  refine wc_seq ?_
  refine wc_region ?_
  refine wl_y (y_loadBlk rfl (hm.at (i := 0) rfl) Try.underlying77 rfl ti77) ?_
  refine wl_y (y_loadBlk rfl (hbk hm.upd) Try.underlying77 rfl ti77) ?_
  refine wl_y (y_eqlPairS (a := x.1) (c := x.2) (a' := y.1) (c' := y.2) rfl rfl (by kernel_rfl) Try.underlying77 (by kernel_rfl) (by kernel_rfl) Try.underlying3 Try.underlying3) ?_
  refine wl_y (y_assign (by conv => lhs; whnf)) ?_
  refine wl_nil ?_
  refine then_normal ?_
  refine wc_ret ?_
  refine post_ret (results_fr rfl) ?_
  refine ⟨?_, hm.upd⟩
  rw [show decide (x = y) = decide (x.1 = y.1 ∧ x.2 = y.2) from decide_eq_decide.2 ⟨fun h => by subst h; exact ⟨rfl, rfl⟩, fun h => Prod.ext h.1 h.2⟩]; rfl

set_option maxHeartbeats 4000000 in
theorem next_calls (w : World) (bn bx k : Nat) (nx : List Int) (x1 x2 : Int) (c : Nat) (hn : NetAt w bn k nx) (ho : Okf k (tabN nx)) (hb : (En.blk bx 72 [pb bn]).holds w) (hx : 0 ≤ x1 → x1 < k ∧ 0 ≤ x2 ∧ x2 < k) (hc : c < 2) :
    Cl Try.prog 86 [prV .i64 (x1, x2), .int .i64 (c : Int), pb bx].toArray w (Ret w (prV .i64 (nextP (tabN nx) (x1, x2) c))) := by
  have hbk : ∀ {W}, Upd [] w W → (En.blk bx 72 [pb bn]).holds W := fun hu => hb.kept (fun k hk => hu.block k (hb.lt hk) (by simp))
  have hm : Mem w [] [] w := Mem.init w
  refine cl_enter Try.func86 rfl Try.ntmps86 rfl ?_
  refine wc_seq ?_
  refine wc_region ?_
  refine wl_box (v := prV .i64 (x1, x2)) hm rfl (fun W b3 hm hb3 hu => ?_)
  have hm : Mem w [] [.blk b3 77 [.int .i64 x1, .int .i64 x2]] W := hm
  refine wl_alloc hm ti77 (fun W b5 hm hb5 hu => ?_)
  refine wl_nil ?_
  refine then_normal ?_
  refine wc_seq ?_
  refine wc_seq ?_
  refine wc_region ?_
  refine wl_y (y_fieldAddr (off := 0) (ft := 3) rfl Try.underlying77 rfl ti3) ?_
  refine wl_y (y_load rfl (hm.blk_cell 0 rfl rfl) Try.underlying3 rfl) ?_
  refine wl_y (y_geq rfl rfl) ?_
  refine wl_nil ?_
  refine then_normal ?_
  refine wc_cond_dec rfl (fun h1 => ?_) (fun h1 => ?_)
  · obtain ⟨p, rfl⟩ : ∃ p : Nat, x1 = p := ⟨x1.toNat, by omega⟩
    obtain ⟨q, rfl⟩ : ∃ q : Nat, x2 = q := ⟨x2.toNat, by omega⟩
    refine wc_seq ?_
    refine wc_region ?_
    refine wl_y (y_load rfl (blk_cell (hbk hm.upd) rfl) Try.underlying72 rfl) ?_
    refine wl_y (y_loadBlk rfl (hm.at (i := 0) rfl) Try.underlying77 rfl ti77) ?_
    refine wl_y (y_move (by conv => lhs; whnf)) ?_
    refine wl_callR hm hb85 (behind_calls _ _ _ _ p q c (hn.step hm.upd) ho (by omega) (by omega) hc) rfl rfl (fun W hm hu => ?_)
    refine wl_y (y_move (by conv => lhs; whnf)) ?_
    refine wl_y (y_extract rfl rfl) ?_
    refine wl_y (y_extract rfl rfl) ?_
    refine wl_alloc hm ti77 (fun W b6 hm hb6 hu => ?_)
    refine wl_storeBlk (i := 2) (vs := [.int .i64 (tabN nx p c), .int .i64 (tabN nx q c)]) hm rfl rfl rfl ti77 rfl rfl (by simp [Value.oneCell']) (fun W hm => ?_)
    refine wl_y (y_assign (by conv => lhs; whnf)) ?_
    refine wl_nil ?_
    refine then_normal ?_
    refine wc_seq ?_
    refine wc_region ?_
    refine wl_y (y_move (by conv => lhs; whnf)) ?_
    refine wl_nil ?_
    refine then_normal ?_
    refine wc_cond_dec rfl (fun h2 => ?_) (fun h2 => ?_)
    · have hnx : nextP (tabN nx) ((p : Int), (q : Int)) c = (tabN nx p c, tabN nx q c) := if_pos ⟨Int.natCast_nonneg p, h2⟩
      refine wc_seq ?_
      refine wc_region ?_
      refine wl_y (y_loadBlk rfl (hm.at (i := 2) rfl) Try.underlying77 rfl ti77) ?_
      refine wl_storeBlk (i := 1) (vs := [.int .i64 (tabN nx p c), .int .i64 (tabN nx q c)]) hm rfl rfl rfl ti77 rfl rfl (by simp [Value.oneCell']) (fun W hm => ?_)
      refine wl_nil ?_
      refine then_normal ?_
      refine wc_ret ?_
      refine then_ret ?_
      refine post_ret (results_c1 rfl rfl (run_loadVar_agg (hm.at (i := 1) rfl) Try.underlying77 rfl ti77)) ?_
      refine ⟨?_, hm.upd⟩
      rw [hnx]; rfl
    · have hnx : nextP (tabN nx) ((p : Int), (q : Int)) c = (-1, -1) := if_neg (fun h => (by assumption : ¬ (0 ≤ min (tabN nx p c) (tabN nx q c) ∧ ¬ tabN nx p c = tabN nx q c)) h.2)
      refine wc_skip ?_
      refine then_normal ?_
      refine wc_seq ?_
      refine wc_region ?_
      refine wl_y (y_buildL (cells := #[.int .i64 (-1), .int .i64 (-1)]) rfl (by kernel_rfl)) ?_
      refine wl_storeBlk (i := 1) (vs := [.int .i64 (-1), .int .i64 (-1)]) hm rfl rfl rfl ti77 rfl rfl (by simp [Value.oneCell']) (fun W hm => ?_)
      refine wl_nil ?_
      refine then_normal ?_
      refine wc_ret ?_
      refine post_ret (results_c1 rfl rfl (run_loadVar_agg (hm.at (i := 1) rfl) Try.underlying77 rfl ti77)) ?_
      refine ⟨?_, hm.upd⟩
      rw [hnx]; rfl
  · have hnx : nextP (tabN nx) (x1, x2) c = (-1, -1) := if_neg (fun h => (by assumption : ¬ 0 ≤ x1) h.1)
    refine wc_skip ?_
    refine then_normal ?_
    refine wc_seq ?_
    refine wc_region ?_
    refine wl_y (y_buildL (cells := #[.int .i64 (-1), .int .i64 (-1)]) rfl (by kernel_rfl)) ?_
    refine wl_storeBlk (i := 1) (vs := [.int .i64 (-1), .int .i64 (-1)]) hm rfl rfl rfl ti77 rfl rfl (by simp [Value.oneCell']) (fun W hm => ?_)
    refine wl_nil ?_
    refine then_normal ?_
    refine wc_ret ?_
    refine post_ret (results_c1 rfl rfl (run_loadVar_agg (hm.at (i := 1) rfl) Try.underlying77 rfl ti77)) ?_
    refine ⟨?_, hm.upd⟩
    rw [hnx]; rfl
end Go.Proofs.Ytofpdjpenmhbnaa
namespace Go.Proofs.Ytofpdjpenmhbnaa
open Go Go.Kx

set_option maxHeartbeats 4000000 in
theorem search_calls (w : World) (s : Int × Int) (f : Int × Int → Nat → Int × Int) (g : Int × Int → Bool) (D : Int × Int → Prop) (dom : List (Int × Int)) (N fs ff : Nat) (cs cf : List Value)
    (hbs : HasBody Try.prog fs) (hbf : HasBody Try.prog ff) (hst : ∀ W p (c : Nat), Upd [] w W → D p → c < 2 → Cl Try.prog fs ([prV .i64 p, .int .i64 (c : Int)] ++ cs).toArray W (Ret W (prV .i64 (f p c))))
    (hfo : ∀ W p, Upd [] w W → D p → Cl Try.prog ff ([prV .i64 p] ++ cf).toArray W (Ret W (.bool (g p)))) (hs : D s) (hD : ∀ p (c : Nat), D p → c < 2 → D (f p c)) (hdom : ∀ p, D p → p ∈ dom) (hN : dom.length ≤ N) (hN2 : N ≤ 100000) :
    Cl Try.prog 69 [prV .i64 s, .func (.func fs) #[] cs.toArray, .func (.func ff) #[] cf.toArray].toArray w (Ret w (.tuple #[.string (bfsV f g s N).1, .bool (bfsV f g s N).2])) := by
  have hm : Mem w [] [] w := Mem.init w
  refine cl_enter Try.func69 rfl Try.ntmps69 rfl ?_
  refine wc_seq ?_
  refine wc_region ?_
  refine wl_box (v := prV .i64 s) hm rfl (fun W b3 hm hb3 hu => ?_)
  have hm : Mem w [] [.blk b3 77 [.int .i64 s.1, .int .i64 s.2]] W := hm
  refine wl_y (y_assign (by conv => lhs; whnf)) ?_
  refine wl_y (y_assign (by conv => lhs; whnf)) ?_
  refine wl_nil ?_
  refine then_normal ?_
  refine wc_seq ?_
  refine wc_region ?_
  refine wl_makeMap hm (prV .i64) (fun W m17 hm hm17 hu => ?_)
  refine wl_y (y_loadBlk rfl (hm.at (i := 0) rfl) Try.underlying77 rfl ti77) ?_
  refine wl_insert (i := 1) (k := s) (v := .string ⟨#[]⟩) hm rfl rfl rfl rfl Try.underlying127 ok77 (fun W hm => ?_)
  refine wl_y (y_move (by conv => lhs; whnf)) ?_
  refine wl_y (y_assign (by conv => lhs; whnf)) ?_
  refine wl_nil ?_
  refine then_normal ?_
  refine wc_seq ?_
  refine wc_region ?_
  refine wl_y (y_loadBlk rfl (hm.at (i := 0) rfl) Try.underlying77 rfl ti77) ?_
  refine wl_lit1 hm rfl Try.underlying128 ti77 rfl (by decide) (fun W v21 hm hu => ?_)
  refine wl_y (y_assign (by conv => lhs; whnf)) ?_
  have hm : Mem w [] [.blk b3 77 [.int .i64 s.1, .int .i64 s.2], mapEn (prV .i64) m17 (entKv (bfsTo f s 0)), .own 77 2 v21 (bfsTo f s 0).length (prs (Keys (bfsTo f s 0)))] W := hm
  refine wl_nil ?_
  refine then_normal ?_
  refine wc_seq ?_
  refine wc_seq ?_
  refine wc_region ?_
  refine wl_y (y_assign (by conv => lhs; whnf)) ?_
  refine wl_nil ?_
  refine then_normal ?_
  refine wc_block ?_
  refine wc_loop [6, 7, 9, 10, 11, 12, 13, 14, 15, 16, 22, 23, 24, 25, 26, 27, 28, 29, 30, 31, 32, 33, 34, 35, 36, 37, 38, 39, 40, 41, 42, 43, 44, 45, 46, 47, 48, 49, 50, 51, 52, 53, 54, 55, 56, 57, 58, 59, 60, 61, 62, 63, 64, 65, 66] (fun ((i, vq) : Nat × Value) => [(10, .int .i64 (i : Int)), (9, vq)]) (fun ((i, vq) : Nat × Value) W => Mem w [] [.blk b3 77 [.int .i64 s.1, .int .i64 s.2], mapEn (prV .i64) m17 (entKv (bfsTo f s i)), .own 77 2 vq (bfsTo f s i).length (prs (Keys (bfsTo f s i)))] W ∧ i ≤ (bfsTo f s i).length ∧ bfsGo f g s i (N - i) = bfsV f g s N) (fun ((i, vq) : Nat × Value) => N - i) ((0, v21) : Nat × Value) ?_ ?_ ?_
  · exact ⟨rfl, rfl, trivial⟩
  · exact ⟨hm, Nat.zero_le _, rfl⟩
  · rintro ⟨i, vq⟩ u W ⟨hm, hi, hans⟩
    have hok := bfs_ok hs hD i
    have hlen := hok.len hdom hN
    refine wc_seq ?_
    refine wc_seq ?_
    refine wc_region ?_
    refine wl_y (y_move (by conv => lhs; whnf)) ?_
    refine wl_y (y_move (by conv => lhs; whnf)) ?_
    refine wl_y (y_lenSl (by conv => lhs; whnf) (hm.slAt 2 rfl) Try.underlying128) ?_
    refine wl_y (y_lss rfl rfl) ?_
    refine wl_nil ?_
    refine then_normal ?_
    refine wc_cond_dec rfl (fun h1 => ?_) (fun h1 => ?_)
    · have hil : i < (bfsTo f s i).length := by omega
      obtain ⟨q0, hu0⟩ : ∃ q0, (bfsTo f s i)[i]? = some q0 := ⟨_, List.getElem?_eq_getElem hil⟩
      have hmem := List.mem_of_getElem? hu0
      have hDu := (hok.all q0 hmem).1
      have husz := (hok.all q0 hmem).2
      have huk : (Keys (bfsTo f s i)).getD i (0, 0) = q0.1 := by simp [Keys, List.getD, hu0]
      refine wc_skip ?_
      refine then_normal ?_
      refine wc_seq ?_
      refine wc_block ?_
      refine wc_seq ?_
      refine wc_region ?_
      refine wl_y (y_move (by conv => lhs; whnf)) ?_
      refine wl_y (y_move (by conv => lhs; whnf)) ?_
      refine wl_y (y_indexAddr (by conv => lhs; whnf) rfl (hm.slAt 2 rfl) (by omega) Try.underlying128 ti77 (by decide)) ?_
      refine wl_y (v := prV .i64 q0.1) (by rw [← huk]; exact y_loadPair rfl (hm.slAt 2 rfl) (by rw [Keys_len]; omega) Try.underlying77 rfl ti77) ?_
      refine wl_alloc hm ti77 (fun W b11 hm hb11 hu => ?_)
      refine wl_storeBlk (i := 3) (vs := [.int .i64 q0.1.1, .int .i64 q0.1.2]) hm rfl rfl rfl ti77 rfl rfl (by simp [Value.oneCell']) (fun W hm => ?_)
      refine wl_nil ?_
      refine then_normal ?_
      refine wc_seq ?_
      refine wc_seq ?_
      refine wc_region ?_
      refine wl_y (y_move (by conv => lhs; whnf)) ?_
      refine wl_y (y_loadBlk rfl (hm.at (i := 3) rfl) Try.underlying77 rfl ti77) ?_
      refine wl_callCl (al := [prV .i64 q0.1]) (cap := cf) hbf (hfo _ _ hm.upd hDu) rfl rfl (fun e W h => ?_)
      obtain ⟨rfl, hu⟩ := h
      refine ⟨_, rfl, ?_⟩
      have hm := hm.step hu
      refine wl_nil ?_
      refine then_normal ?_
      refine wc_cond rfl (fun h2 => ?_) (fun h2 => ?_)
      · have hgt : g q0.1 = true := h2
        rw [bfsGo_found (by omega) hu0 hgt] at hans
        refine wc_seq ?_
        refine wc_region ?_
        refine wl_y (y_move (by conv => lhs; whnf)) ?_
        refine wl_y (y_loadBlk rfl (hm.at (i := 3) rfl) Try.underlying77 rfl ti77) ?_
        refine wl_y (v := .string q0.2) (by rw [← kvGet_ent hok.nd hmem (.string ⟨#[]⟩)]; exact y_lookup (k := q0.1) (hm.at (i := 1) rfl) rfl rfl Try.underlying127 ok77 ti9) ?_
        refine wl_y (y_assign (by conv => lhs; whnf)) ?_
        refine wl_y (y_assign (by conv => lhs; whnf)) ?_
        refine wl_nil ?_
        refine then_normal ?_
        refine wc_ret ?_
        refine then_ret ?_
        refine block_ret ?_
        refine then_ret ?_
        refine then_ret ?_
        refine block_ret ?_
        refine then_ret ?_
        refine post_ret (results_fr2 rfl) ?_
        refine ⟨?_, hm.upd⟩
        rw [← hans]; rfl
      · have hgf : g q0.1 = false := h2
        have hans1 := hans
        rw [bfsGo_next (N := N) (by omega) hu0 hgf] at hans1
        have hm : Mem w [] [.blk b3 77 [.int .i64 s.1, .int .i64 s.2], mapEn (prV .i64) m17 (entKv (bfsP f q0 (bfsTo f s i) 0)), .own 77 2 vq (bfsP f q0 (bfsTo f s i) 0).length (prs (Keys (bfsP f q0 (bfsTo f s i) 0))), .blk b11 77 [.int .i64 q0.1.1, .int .i64 q0.1.2]] W := hm
        refine wc_skip ?_
        refine then_normal ?_
        refine wc_seq ?_
        refine wc_region ?_
        refine wl_rangeStr hm (by conv => lhs; whnf) Try.underlying9 (fun W b38 hm hb38 hu => ?_)
        refine wl_nil ?_
        refine then_normal ?_
        refine wc_block ?_
        refine wc_loop [9, 12, 13, 14, 15, 16, 39, 40, 41, 42, 43, 44, 45, 46, 47, 48, 49, 50, 51, 52, 53, 54, 55, 56, 57, 58, 59, 60, 61, 62, 63, 64, 65, 66] (fun ((c, vq) : Nat × Value) => [(9, vq)]) (fun ((c, vq) : Nat × Value) W => Mem w [] [.blk b3 77 [.int .i64 s.1, .int .i64 s.2], mapEn (prV .i64) m17 (entKv (bfsP f q0 (bfsTo f s i) c)), .own 77 2 vq (bfsP f q0 (bfsTo f s i) c).length (prs (Keys (bfsP f q0 (bfsTo f s i) c))), .blk b11 77 [.int .i64 q0.1.1, .int .i64 q0.1.2], .obj b38 (· = .stringIter ⟨#[97, 98]⟩ (c))] W ∧ c ≤ 2) (fun ((c, vq) : Nat × Value) => 2 - c) ((0, vq) : Nat × Value) ?_ ?_ ?_
        · exact ⟨rfl, trivial⟩
        · exact ⟨hm, Nat.zero_le _⟩
        · rintro ⟨c, vq⟩ u W ⟨hm, hc⟩
          refine wc_seq ?_
          refine wc_region ?_
          refine wl_nextStr (i := 4) hm rfl rfl (fun h3 W hm => ?_) (fun h3 => ?_)
          · rw [ab_decode h3] at hm ⊢
            have hc2 : c < 2 := h3
            have hen : (Utf8.encode ((97 + c : Nat) : Int)).size = 1 := letterS_size hc2
            have hokp := hok.part hD hmem c (by omega)
            have hlenp := hokp.len hdom hN
            refine wl_y (y_extract rfl rfl) ?_
            refine wl_nil ?_
            refine then_normal ?_
            refine wc_seq ?_
            refine wc_cond_true rfl ?_
            refine wc_skip ?_
            refine then_normal ?_
            refine wc_block ?_
            refine wc_seq ?_
            refine wc_region ?_
            refine wl_y (y_extract rfl rfl) ?_
            refine wl_y (y_extract rfl rfl) ?_
            refine wl_y (y_assign (by conv => lhs; whnf)) ?_
            refine wl_y (y_assign (by conv => lhs; whnf)) ?_
            refine wl_nil ?_
            refine then_normal ?_
            refine wc_seq ?_
            refine wc_region ?_
            refine wl_y (y_move (by conv => lhs; whnf)) ?_
            refine wl_y (y_loadBlk rfl (hm.at (i := 3) rfl) Try.underlying77 rfl ti77) ?_
            refine wl_y (y_move (by conv => lhs; whnf)) ?_
            refine wl_callCl (al := [prV .i64 q0.1, .int .i64 (c : Int)]) (cap := cs) hbs (hst _ _ _ hm.upd hDu hc2) rfl rfl (fun e W h => ?_)
            obtain ⟨rfl, hu⟩ := h
            refine ⟨_, rfl, ?_⟩
            have hm := hm.step hu
            refine wl_alloc hm ti77 (fun W b14 hm hb14 hu => ?_)
            refine wl_storeBlk (i := 5) (vs := [.int .i64 (f q0.1 c).1, .int .i64 (f q0.1 c).2]) hm rfl rfl rfl ti77 rfl rfl (by simp [Value.oneCell']) (fun W hm => ?_)
            refine wl_nil ?_
            refine then_normal ?_
            refine wc_seq ?_
            refine wc_region ?_
            refine wl_y (y_move (by conv => lhs; whnf)) ?_
            refine wl_y (y_loadBlk rfl (hm.at (i := 5) rfl) Try.underlying77 rfl ti77) ?_
            refine wl_y (y_lookupOk (k := f q0.1 c) (hm.at (i := 1) rfl) rfl rfl Try.underlying127 ok77 ti9) ?_
            refine wl_y (y_move (by conv => lhs; whnf)) ?_
            refine wl_y (y_extract rfl rfl) ?_
            refine wl_y (y_extract rfl rfl) ?_
            refine wl_y (y_assign (by conv => lhs; whnf)) ?_
            refine wl_y (y_assign (by conv => lhs; whnf)) ?_
            refine wl_nil ?_
            refine then_normal ?_
            refine wc_seq ?_
            refine wc_region ?_
            refine wl_y (y_move (by conv => lhs; whnf)) ?_
            refine wl_y (y_not rfl) ?_
            refine wl_nil ?_
            refine then_normal ?_
            refine wc_cond rfl (fun h4 => ?_) (fun h4 => ?_)
            · have hno : hasK (bfsP f q0 (bfsTo f s i) c) (f q0.1 c) = false := by rw [← kvHas_ent]; simpa using h4
              have hnew := bfsP_new hno
              refine wc_seq ?_
              refine wc_draw (C := fun W => Mem w [] [.blk b3 77 [.int .i64 s.1, .int .i64 s.2], mapEn (prV .i64) m17 (entKv (bfsP f q0 (bfsTo f s i) c)), .own 77 2 vq (bfsP f q0 (bfsTo f s i) c).length (prs (Keys (bfsP f q0 (bfsTo f s i) c))), .blk b11 77 [.int .i64 q0.1.1, .int .i64 q0.1.2], .obj b38 (· = .stringIter ⟨#[97, 98]⟩ (c + 1)), .blk b14 77 [.int .i64 (f q0.1 c).1, .int .i64 (f q0.1 c).2]] W) (some 8) mix (by kernel_rfl) (by kernel_rfl) (Mem.stable _ _ _) (hm.step (upd_drew _)) ?_
              refine al_y (by kernel_rfl) (fun W hm => y_move (by conv => lhs; whnf)) ?_
              refine al_y (by kernel_rfl) (fun W hm => y_loadBlk rfl (hm.at (i := 5) rfl) Try.underlying77 rfl ti77) ?_
              refine al_y (by kernel_rfl) (fun W hm => y_move (by conv => lhs; whnf)) ?_
              refine al_y (by kernel_rfl) (fun W hm => y_loadBlk rfl (hm.at (i := 3) rfl) Try.underlying77 rfl ti77) ?_
              refine al_y (v := .string q0.2) (by kernel_rfl) (fun W hm => by rw [← kvGet_ent hokp.nd (mem_bfsP hmem c) (.string ⟨#[]⟩)]; exact y_lookup (k := q0.1) (hm.at (i := 1) rfl) rfl rfl Try.underlying127 ok77 ti9) ?_
              refine al_y (by kernel_rfl) (fun W hm => y_move (by conv => lhs; whnf)) ?_
              refine al_y (by kernel_rfl) (fun W hm => y_convIntStr rfl Try.underlying21 Try.underlying9) ?_
              refine al_y (by kernel_rfl) (fun W hm => y_concat rfl rfl (by first | omega | (simp only [ByteArray.size_append]; omega))) ?_
              refine al_loud (by kernel_rfl) (fun W hm => ?_)
              refine wl_mapUpdate (i := 1) (k := f q0.1 c) (v := .string (q0.2 ++ letterS c)) hm rfl rfl rfl rfl Try.underlying127 ok77 (fun W hm => ?_)
              rw [kvSet_ent hno, ← hnew] at hm
              refine nx_store none hm rfl ?_
              refine al_nil (by kernel_rfl) (fun W hm => ?_)
              refine then_normal ?_
              refine wc_region ?_
              refine wl_y (y_move (by conv => lhs; whnf)) ?_
              refine wl_y (y_loadBlk rfl (hm.at (i := 5) rfl) Try.underlying77 rfl ti77) ?_
              refine wl_lit1 hm rfl Try.underlying128 ti77 rfl (by decide) (fun W v65 hm hu => ?_)
              have hm : Mem w [] ([.blk b3 77 [.int .i64 s.1, .int .i64 s.2], mapEn (prV .i64) m17 (entKv (bfsP f q0 (bfsTo f s i) (c + 1))), .own 77 2 vq (bfsP f q0 (bfsTo f s i) c).length (prs (Keys (bfsP f q0 (bfsTo f s i) c))), .blk b11 77 [.int .i64 q0.1.1, .int .i64 q0.1.2], .obj b38 (· = .stringIter ⟨#[97, 98]⟩ (c + 1)), .blk b14 77 [.int .i64 (f q0.1 c).1, .int .i64 (f q0.1 c).2]] ++ [.own 77 2 v65 1 [.int .i64 (f q0.1 c).1, .int .i64 (f q0.1 c).2]]) W := hm
              refine wl_appendTo (i := 2) hm rfl rfl rfl (hm.slAt 6 rfl) (prs_snoc _ _ _) Try.underlying128 ti77 rfl (by decide) (by simp [Value.cells, Value.oneCell']) (by omega) (fun W v66 hm hv66 => ?_)
              have hm : Mem w [] [.blk b3 77 [.int .i64 s.1, .int .i64 s.2], mapEn (prV .i64) m17 (entKv (bfsP f q0 (bfsTo f s i) (c + 1))), .own 77 2 v66 ((bfsP f q0 (bfsTo f s i) c).length + 1) (prs (Keys (bfsP f q0 (bfsTo f s i) c) ++ [f q0.1 c])), .blk b11 77 [.int .i64 q0.1.1, .int .i64 q0.1.2], .obj b38 (· = .stringIter ⟨#[97, 98]⟩ (c + 1))] W := hm.take 5
              rw [← Keys_snoc _ _ (q0.2 ++ letterS c), show (bfsP f q0 (bfsTo f s i) c).length + 1 = (bfsP f q0 (bfsTo f s i) c ++ [(f q0.1 c, q0.2 ++ letterS c)]).length by rw [List.length_append]; rfl, ← hnew] at hm
              refine wl_y (y_assign (by conv => lhs; whnf)) ?_
              refine wl_nil ?_
              refine block_normal ?_
              refine next_round (σ := Nat × Value) (c + 1, v66) rfl (by repeat first | exact out_hav | refine out_look rfl ?_ | refine out_havIn rfl ?_) ⟨rfl, trivial⟩ ⟨hm, by omega⟩ (by (try dsimp only); omega)
            · have hold := bfsP_old (by rw [← kvHas_ent]; simpa using h4 : hasK (bfsP f q0 (bfsTo f s i) c) (f q0.1 c) = true)
              refine wc_skip ?_
              refine block_normal ?_
              refine next_round (σ := Nat × Value) (c + 1, vq) rfl (by repeat first | exact out_hav | refine out_look rfl ?_ | refine out_havIn rfl ?_) ⟨rfl, trivial⟩ ⟨by rw [hold]; exact hm.take 5, by omega⟩ (by (try dsimp only); omega)
          · obtain rfl : c = 2 := by have : ¬ c < 2 := h3; omega
            rw [← bfsTo_more hu0] at hm
            refine wl_y (y_extract rfl rfl) ?_
            refine wl_nil ?_
            refine then_normal ?_
            refine wc_seq ?_
            refine wc_cond_false rfl ?_
            refine wc_exit ?_
            refine then_exit ?_
            refine then_exit ?_
            refine block_exit ?_
            refine block_normal ?_
            refine then_normal ?_
            refine wc_region ?_
            refine wl_y (y_move (by conv => lhs; whnf)) ?_
            refine wl_y (y_add64 rfl rfl (by omega)) ?_
            refine wl_y (y_assign (by conv => lhs; whnf)) ?_
            refine wl_nil ?_
            refine next_round (σ := Nat × Value) (i + 1, vq) rfl (by repeat first | exact out_hav | refine out_look rfl ?_ | refine out_havIn rfl ?_) ⟨rfl, rfl, trivial⟩ ⟨hm.take 3, by have := (bfs_ok hs hD (i + 1)).len hdom hN; rw [bfsTo_more hu0]; exact Nat.le_trans (by omega) (bfsP_len _ _ _ 2), hans1⟩ (by (try dsimp only); omega)
    · have hend : i = (bfsTo f s i).length := by omega
      rw [bfsGo_end _ (by omega)] at hans
      refine wc_exit ?_
      refine then_exit ?_
      refine then_exit ?_
      refine block_exit ?_
      refine then_normal ?_
      refine wc_seq ?_
      refine wc_region ?_
      refine wl_y (y_assign (by conv => lhs; whnf)) ?_
      refine wl_y (y_assign (by conv => lhs; whnf)) ?_
      refine wl_nil ?_
      refine then_normal ?_
      refine wc_ret ?_
      refine post_ret (results_fr2 rfl) ?_
      refine ⟨?_, hm.upd⟩
      rw [← hans]; rfl
end Go.Proofs.Ytofpdjpenmhbnaa
namespace Go.Proofs.Ytofpdjpenmhbnaa
open Go Go.Kx
theorem hb69 : HasBody Try.prog 69 := hasBody Try.func69 (by kernel_rfl) (by kernel_rfl)
theorem hb84 : HasBody Try.prog 84 := hasBody Try.func84 (by kernel_rfl) (by kernel_rfl)
theorem hb86 : HasBody Try.prog 86 := hasBody Try.func86 (by kernel_rfl) (by kernel_rfl)
theorem hb87 : HasBody Try.prog 87 := hasBody Try.func87 (by kernel_rfl) (by kernel_rfl)
theorem hb98 : HasBody Try.prog 98 := hasBody Try.func98 (by kernel_rfl) (by kernel_rfl)
set_option maxHeartbeats 4000000 in
theorem doubt_calls (w : World) (bn k : Nat) (nx : List Int) (hn : NetAt w bn k nx) (ho : Okf k (tabN nx)) :
    Cl Try.prog 57 [pb bn].toArray w (Ret w (.tuple #[.string (dtW (tabN nx) k), prV .i64 (dtP (tabN nx) k), .bool (dtB (tabN nx) k)])) := by
  have hk5 := ho.k5
  have hm : Mem w (feet [.blk bn 94 (netCells k nx)]) [.blk bn 94 (netCells k nx)] w := Mem.hold1 hn.at_
  refine cl_enter_marks Try.func57 rfl Try.ntmps57 rfl ?_
  refine wc_seq ?_
  refine wc_region ?_
  refine wl_box hm (by conv => lhs; whnf) (fun W b1 hm hb1 hu => ?_)
  refine wl_alloc hm ti9 (fun W b2 hm hb2 hu => ?_)
  refine wl_alloc hm ti77 (fun W b3 hm hb3 hu => ?_)
  refine wl_alloc hm ti4 (fun W b4 hm hb4 hu => ?_)
  refine wl_nil ?_
  refine then_normal ?_
  refine wc_seq ?_
  refine wc_seq ?_
  refine wc_region ?_
  refine wl_y (y_load rfl (hm.blk_cell 1 rfl rfl) Try.underlying72 rfl) ?_
  refine wl_callM hm hb84 (pairs_calls _ _) rfl rfl (fun W v12 E hm hu hE => ?_)
  obtain ⟨b1w, rfl, rfl⟩ := hE
  refine wl_nil ?_
  refine then_normal ?_
  refine wc_block ?_
  have hm : Mem w (feet [.blk bn 94 (netCells k nx)]) ([.blk bn 94 (netCells k nx), .blk b1 72 [pb bn], .blk b2 9 [.string ⟨#[]⟩], .blk b3 77 [.int .i64 0, .int .i64 0], .blk b4 4 [.bool false]] ++ [.blk b1w 72 [pb bn]]) W := hm
  refine wc_rangeFunc hm rfl hb98 (pvs (pairN k k)) (fun ys E => ∃ ls, ys = pvs ls ∧ (∀ y ∈ ls, dtPair (tabN nx) y.1 y.2 = none) ∧ E = [.blk bn 94 (netCells k nx), .blk b1 72 [pb bn], .blk b2 9 [.string ⟨#[]⟩], .blk b3 77 [.int .i64 0, .int .i64 0], .blk b4 4 [.bool false]]) (fun E => ∃ w x, dtV (tabN nx) k = some (w, x) ∧ E = [.blk bn 94 (netCells k nx), .blk b1 72 [pb bn], .blk b2 9 [.string w], .blk b3 77 [.int .i64 (x.1 : Nat), .int .i64 (x.2 : Nat)], .blk b4 4 [.bool true]]) ([.blk bn 94 (netCells k nx)]) (⟨[], rfl, fun y h => absurd h List.not_mem_nil, rfl⟩) (fun ys E h e he => by obtain ⟨_, _, _, rfl⟩ := h; simp at he; simp [he]) (fun lp J D F W hY hD hs hJ hf => pairs1_calls J D _ nx bn k lp b1w W F hY (fun ys F W hJ => ⟨hs ys F W hJ _ (by simp), hn.len⟩) hk5 (pairI_eq k k).symm hJ hf) (fun bd lp fnn ys v rest E wr SR rr hL hE hrr hSR hm => ?_) (fun bd lp r W E hE hm => ?_) (fun bd lp r W E hE hm => ?_)
  · obtain ⟨ls, rfl, hno, rfl⟩ := hE
    obtain ⟨⟨p, q⟩, rest', hsp, rfl⟩ := pvs_item hL
    have hpm : (p, q) ∈ pairN k k := by rw [hsp]; simp
    have hpq := (pairN_mem (Nat.le_refl k)).1 hpm
    simp only at hpq
    refine wc_region ?_
    refine wl_alloc hm ti77 (fun W b5 hm hb5 hu => ?_)
    refine wl_storeBlk (i := 7) hm rfl rfl rfl ti77 rfl rfl (by first | exact ints_one _ | decide | simp [Value.cells, Value.oneCell']) (fun W hm => ?_)
    refine wl_nil ?_
    refine begin_round hrr hm (fun W hm => ?_)
    refine wc_block ?_
    refine wc_seq ?_
    refine wc_region ?_
    refine wl_rangeStr hm (by conv => lhs; whnf) Try.underlying9 (fun W b14 hm hb14 hu => ?_)
    refine wl_nil ?_
    refine then_normal ?_
    refine wc_block ?_
    refine wc_loop [6, 7, 8, 9, 10, 15, 16, 17, 18, 19, 20, 21, 22, 23, 24, 25, 26, 27, 28, 29, 30, 31, 32, 33, 34, 35, 36, 37, 38, 39, 40] (fun (c : Nat) => []) (fun (c : Nat) W => Mem wr SR [blockEn bd, loopEn lp (rr .busy none), .blk bn 94 (netCells k nx), .blk b1 72 [pb bn], .blk b2 9 [.string ⟨#[]⟩], .blk b3 77 [.int .i64 0, .int .i64 0], .blk b4 4 [.bool false], .blk b5 77 [.int .i64 (p : Int), .int .i64 (q : Int)], .obj b14 (· = .stringIter ⟨#[97, 98]⟩ c)] W ∧ c ≤ 2 ∧ (∀ c', c' < c → dtTry (tabN nx) p q c' = none)) (fun (c : Nat) => 2 - c) ((0) : Nat) ?_ ?_ ?_
    · exact trivial
    · exact ⟨hm, Nat.zero_le _, fun _ h => absurd h (Nat.not_lt_zero _)⟩
    · rintro c u W ⟨hm, hc, hdn⟩
      refine wc_seq ?_
      refine wc_region ?_
      refine wl_nextStr (i := 8) hm rfl rfl (fun h1 W hm => ?_) (fun h1 => ?_)
      · rw [ab_decode h1] at hm ⊢
        have hc2 : c < 2 := h1
        have hen : (Utf8.encode ((97 + c : Nat) : Int)).size = 1 := letterS_size hc2
        refine wl_y (y_extract rfl rfl) ?_
        refine wl_nil ?_
        refine then_normal ?_
        refine wc_seq ?_
        refine wc_cond_true rfl ?_
        refine wc_skip ?_
        refine then_normal ?_
        refine wc_block ?_
        refine wc_seq ?_
        refine wc_region ?_
        refine wl_y (y_extract rfl rfl) ?_
        refine wl_y (y_extract rfl rfl) ?_
        refine wl_y (y_assign (by conv => lhs; whnf)) ?_
        refine wl_y (y_assign (by conv => lhs; whnf)) ?_
        refine wl_nil ?_
        refine then_normal ?_
        refine wc_seq ?_
        refine wc_region ?_
        refine wl_y (y_load rfl (hm.blk_cell 3 rfl rfl) Try.underlying72 rfl) ?_
        refine wl_y (y_loadBlk rfl (hm.at (i := 7) rfl) Try.underlying77 rfl ti77) ?_
        refine wl_y (y_move (by conv => lhs; whnf)) ?_
        refine wl_callR hm hb85 (behind_calls _ bn k nx p q c (⟨hm.at (i := 2) rfl, hn.len⟩ : NetAt _ _ _ _) ho (by omega) (by omega) hc2) rfl rfl (fun W hm hu => ?_)
        refine wl_y (y_move (by conv => lhs; whnf)) ?_
        refine wl_y (y_extract rfl rfl) ?_
        refine wl_y (y_extract rfl rfl) ?_
        refine wl_alloc hm ti77 (fun W b8 hm hb8 hu => ?_)
        refine wl_storeBlk (i := 9) hm rfl rfl rfl ti77 rfl rfl (by first | exact ints_one _ | decide | simp [Value.cells, Value.oneCell']) (fun W hm => ?_)
        refine wl_y (y_assign (by conv => lhs; whnf)) ?_
        refine wl_nil ?_
        refine then_normal ?_
        refine wc_seq ?_
        refine wc_seq ?_
        refine wc_region ?_
        refine wl_y (y_move (by conv => lhs; whnf)) ?_
        refine wl_y (y_not rfl) ?_
        refine wl_nil ?_
        refine then_normal ?_
        refine wc_cond rfl (fun h2 => ?_) (fun h2 => ?_)
        · have hbn : ¬ behB (tabN nx) p q c := by have h := h2; simp only [Bool.not_eq_true', decide_eq_false_iff_not] at h; exact h
          refine wc_exit ?_
          refine then_exit ?_
          refine block_exit ?_
          refine next_round (σ := Nat) (c + 1) rfl (by repeat first | exact out_hav | refine out_look rfl ?_ | refine out_havIn rfl ?_) trivial ⟨hm.take 9, by omega, allLt2 hdn (dtTry_no hbn)⟩ (by (try dsimp only); omega)
        · have hbe : behB (tabN nx) p q c := by have h := h2; simp only [Bool.not_eq_false', decide_eq_true_eq] at h; exact h
          have hsz := dtS_size ho (by omega : p < k) (by omega : q < k) hc2 hbe
          refine wc_skip ?_
          refine then_normal ?_
          refine wc_seq ?_
          refine wc_region ?_
          refine wl_y (y_loadBlk rfl (hm.at (i := 9) rfl) Try.underlying77 rfl ti77) ?_
          refine wl_y (y_makeFuncL rfl rfl) ?_
          refine wl_y (y_makeFuncL rfl rfl) ?_
          refine wl_callR (v := .tuple #[.string (dtS (tabN nx) p q c).1, .bool (dtS (tabN nx) p q c).2]) hm hb69 (search_calls _ (tabN nx p c, tabN nx q c) (nextP (tabN nx)) (fun x => decide (x = ((p : Int), (q : Int)))) (DomP k) (domP k) 26 86 87 [pb b1] [pb b5] hb86 hb87 (fun W' x c' hu hD hc => next_calls W' bn b1 k nx x.1 x.2 c' ((⟨hm.at (i := 2) rfl, hn.len⟩ : NetAt _ _ _ _).step hu) ho ((hm.at (i := 3) rfl).up hu) hD.lt hc) (fun W' x hu hD => goal_calls W' x ((p : Int), (q : Int)) b5 ((hm.at (i := 7) rfl).up hu)) (beh_dom ho (by omega) (by omega) hc2 hbe) (fun x c' hx hc => nextP_dom ho hx hc) (fun x h => domP_mem h) (domP_len hk5) (by decide)) rfl rfl (fun W hm hu => ?_)
          refine wl_y (y_move (by conv => lhs; whnf)) ?_
          refine wl_y (y_extract rfl rfl) ?_
          refine wl_y (y_extract rfl rfl) ?_
          refine wl_y (y_assign (by conv => lhs; whnf)) ?_
          refine wl_y (y_assign (by conv => lhs; whnf)) ?_
          refine wl_nil ?_
          refine then_normal ?_
          refine wc_seq ?_
          refine wc_region ?_
          refine wl_y (y_move (by conv => lhs; whnf)) ?_
          refine wl_nil ?_
          refine then_normal ?_
          refine wc_cond rfl (fun h3 => ?_) (fun h3 => ?_)
          · have hr : (dtS (tabN nx) p q c).2 = true := h3
            have hwt := dtPair_c hc2 hdn (dtTry_yes hbe hr)
            refine wc_seq ?_
            have hm : Mem wr SR [blockEn bd, loopEn lp (rr .busy none), .blk bn 94 (netCells k nx), .blk b1 72 [pb bn], vagueEn b2 9 1, .blk b3 77 [.int .i64 0, .int .i64 0], .blk b4 4 [.bool false], .blk b5 77 [.int .i64 (p : Int), .int .i64 (q : Int)], .obj b14 (· = .stringIter ⟨#[97, 98]⟩ (c + 1)), .blk b8 77 [.int .i64 (tabN nx p c), .int .i64 (tabN nx q c)]] W := hm.vague 4 rfl
            refine wc_draw (C := fun W => Mem wr SR [blockEn bd, loopEn lp (rr .busy none), .blk bn 94 (netCells k nx), .blk b1 72 [pb bn], vagueEn b2 9 1, .blk b3 77 [.int .i64 0, .int .i64 0], .blk b4 4 [.bool false], .blk b5 77 [.int .i64 (p : Int), .int .i64 (q : Int)], .obj b14 (· = .stringIter ⟨#[97, 98]⟩ (c + 1)), .blk b8 77 [.int .i64 (tabN nx p c), .int .i64 (tabN nx q c)]] W) (some 6) mix (by kernel_rfl) (by kernel_rfl) (Mem.stable _ _ _) (hm.step (upd_drew _)) ?_
            refine al_y (by kernel_rfl) (fun W hm => y_move (by conv => lhs; whnf)) ?_
            refine al_y (by kernel_rfl) (fun W hm => y_convIntStr rfl Try.underlying21 Try.underlying9) ?_
            refine al_y (by kernel_rfl) (fun W hm => y_move (by conv => lhs; whnf)) ?_
            refine al_y (by kernel_rfl) (fun W hm => y_concat rfl rfl (by first | omega | (simp only [ByteArray.size_append]; omega))) ?_
            refine al_y (by kernel_rfl) (fun W hm => y_loadBlk rfl (hm.at (i := 7) rfl) Try.underlying77 rfl ti77) ?_
            refine al_loud (by kernel_rfl) (fun W hm => ?_)
            obtain ⟨xs, hxl, hm⟩ := hm.known 4 rfl
            refine wl_store (i := 4) (vs := [.string (letterS c ++ (dtS (tabN nx) p q c).1)]) hm rfl rfl rfl rfl ti9 rfl (by simp [hxl]) (by simp [Value.oneCell']) (fun W hm => ?_)
            rw [splice_all (by simp [hxl])] at hm
            refine nx_keep (H' := [blockEn bd, loopEn lp (rr .busy none), .blk bn 94 (netCells k nx), .blk b1 72 [pb bn], .blk b2 9 [.string (letterS c ++ (dtS (tabN nx) p q c).1)], .blk b3 77 [.int .i64 0, .int .i64 0], .blk b4 4 [.bool false], .blk b5 77 [.int .i64 (p : Int), .int .i64 (q : Int)], .obj b14 (· = .stringIter ⟨#[97, 98]⟩ (c + 1)), .blk b8 77 [.int .i64 (tabN nx p c), .int .i64 (tabN nx q c)]]) hm (fun W h => h.vague 4 rfl) ?_
            refine al_loud (by kernel_rfl) (fun W hm => ?_)
            refine wl_storeBlk (i := 5) (vs := [.int .i64 (p : Int), .int .i64 (q : Int)]) hm rfl rfl rfl ti77 rfl rfl (by simp [Value.oneCell']) (fun W hm => ?_)
            refine nx_store (some 7) hm rfl ?_
            refine al_loud (by kernel_rfl) (fun W hm => ?_)
            refine wl_store1 (i := 6) (v := .bool true) hm rfl rfl rfl ti4 (by decide) rfl rfl (fun W hm => ?_)
            refine nx_store none hm rfl ?_
            refine al_nil (by kernel_rfl) (fun W hm => ?_)
            refine then_normal ?_
            refine wc_ret ?_
            refine block_ret ?_
            refine then_ret ?_
            refine block_ret ?_
            refine block_ret ?_
            exact ret_round hrr hSR (hm.take 7) ⟨_, (p, q), dtV_found hsp hno hwt, rfl⟩
          · have hr : (dtS (tabN nx) p q c).2 = false := h3
            refine wc_skip ?_
            refine block_normal ?_
            refine next_round (σ := Nat) (c + 1) rfl (by repeat first | exact out_hav | refine out_look rfl ?_ | refine out_havIn rfl ?_) trivial ⟨hm.take 9, by omega, allLt2 hdn (dtTry_not hr)⟩ (by (try dsimp only); omega)
      · obtain rfl : c = 2 := by have : ¬ c < 2 := h1; omega
        refine wl_y (y_extract rfl rfl) ?_
        refine wl_nil ?_
        refine then_normal ?_
        refine wc_seq ?_
        refine wc_cond_false rfl ?_
        refine wc_exit ?_
        refine then_exit ?_
        refine then_exit ?_
        refine block_exit ?_
        refine block_normal ?_
        refine end_round hrr hSR (hm.take 7) ⟨ls ++ [(p, q)], by rw [pvs_append]; rfl, fun y hy => ?_, rfl⟩
        rcases List.mem_append.1 hy with hy | hy
        · exact hno y hy
        · rw [List.mem_singleton.1 hy]; exact dtPair_n hdn
  · obtain ⟨ls, hls, hno, rfl⟩ := hE
    have hls := pvs_inj hls
    subst hls
    have hdv := dtV_none hno
    refine block_normal ?_
    refine then_normal ?_
    refine wc_seq ?_
    refine wc_region ?_
    refine wl_y (y_buildL (parts := []) (cells := #[.int .i64 0, .int .i64 0]) rfl (by kernel_rfl)) ?_
    refine wl_store1 (i := 4) hm rfl (by conv => lhs; whnf) rfl ti9 (by first | decide | simp) rfl rfl (fun W hm => ?_)
    refine wl_storeBlk (i := 5) (vs := [.int .i64 0, .int .i64 0]) hm rfl rfl rfl ti77 rfl rfl (by simp [Value.oneCell']) (fun W hm => ?_)
    refine wl_store1 (i := 6) hm rfl (by conv => lhs; whnf) rfl ti4 (by first | decide | simp) rfl rfl (fun W hm => ?_)
    refine wl_nil ?_
    refine then_normal ?_
    refine wc_ret ?_
    refine post_retM hm (fun W hm => results_c3 rfl rfl rfl rfl (run_loadVar_one (hm.at (i := 3) rfl) Try.underlying9 rfl) (run_loadVar_agg (hm.at (i := 4) rfl) Try.underlying77 rfl ti77) (run_loadVar_one (hm.at (i := 5) rfl) Try.underlying4 rfl)) (fun W hm => ?_)
    refine ⟨?_, Mem.upd1 hn.at_ ((hm.drop 1).take 1)⟩
    simp only [dtW, dtP, dtB, hdv]; rfl
  · obtain ⟨w0, x0, hdv, rfl⟩ := hE
    refine block_ret ?_
    refine then_ret ?_
    refine post_retM hm (fun W hm => results_c3 rfl rfl rfl rfl (run_loadVar_one (hm.at (i := 3) rfl) Try.underlying9 rfl) (run_loadVar_agg (hm.at (i := 4) rfl) Try.underlying77 rfl ti77) (run_loadVar_one (hm.at (i := 5) rfl) Try.underlying4 rfl)) (fun W hm => ?_)
    refine ⟨?_, Mem.upd1 hn.at_ ((hm.drop 1).take 1)⟩
    simp only [dtW, dtP, dtB, hdv]; rfl
end Go.Proofs.Ytofpdjpenmhbnaa
namespace Go.Proofs.Ytofpdjpenmhbnaa
open Go Go.Kx
theorem hb57 : HasBody Try.prog 57 := hasBody Try.func57 (by kernel_rfl) (by kernel_rfl)
set_option maxHeartbeats 4000000 in
theorem Doubt_yes (w : World) (vl : Value) (ps : List (Int × Int)) (hl : SlAt w 2 vl ps.length (prs ps)) (hok : NetOk ps) :
    Cl Try.prog 16 [vl].toArray w (Ret w (.tuple (if hangsF (tabR ps) ps.length = true then #[.string (dtW (formF (tabR ps) ps.length) (formK (tabR ps) ps.length)), prV .i64 (dtP (formF (tabR ps) ps.length) (formK (tabR ps) ps.length)), .bool (dtB (formF (tabR ps) ps.length) (formK (tabR ps) ps.length)), .int .i64 0] else #[.string ⟨#[]⟩, prV .i64 (0, 0), .bool false, .int .i64 5]))) := by
  have hm : Mem w [] [] w := Mem.init w
  refine cl_enter Try.func16 rfl Try.ntmps16 rfl ?_
  refine wc_seq ?_
  refine wc_region ?_
  refine wl_y (y_assign (by conv => lhs; whnf)) ?_
  refine wl_alloc hm ti27 (fun W b3 hm hb3 hu => ?_)
  refine wl_y (y_assign (by conv => lhs; whnf)) ?_
  refine wl_y (y_assign (by conv => lhs; whnf)) ?_
  refine wl_nil ?_
  refine then_normal ?_
  refine wc_seq ?_
  refine wc_region ?_
  refine wl_y (y_move (by conv => lhs; whnf)) ?_
  refine wl_callM hm hb54 (open_yes _ _ ps (hl.step hm.upd) hok) rfl rfl (fun W v13 E hm hu hE => ?_)
  obtain ⟨bn, nx, rfl, rfl, hnet⟩ := hE
  have ho := hnet.okf
  have hk5 := ho.k5
  have hk1 := hok.1.1
  refine wl_y (y_move (by conv => lhs; whnf)) ?_
  refine wl_y (y_extract rfl rfl) ?_
  refine wl_y (y_extract rfl rfl) ?_
  refine wl_y (y_assign (by conv => lhs; whnf)) ?_
  refine wl_y (y_assign (by conv => lhs; whnf)) ?_
  refine wl_nil ?_
  refine then_normal ?_
  refine wc_seq ?_
  refine wc_seq ?_
  refine wc_region ?_
  refine wl_y (y_move (by conv => lhs; whnf)) ?_
  refine wl_y (y_neq rfl rfl) ?_
  refine wl_nil ?_
  refine then_normal ?_
  refine wc_cond_dec rfl (fun h1 => ?_) (fun h1 => ?_)
  · exact absurd rfl h1
  · skip
    refine wc_skip ?_
    refine then_normal ?_
    refine wc_seq ?_
    refine wc_seq ?_
    refine wc_region ?_
    refine wl_y (y_move (by conv => lhs; whnf)) ?_
    refine wl_callR hm hb55 (hangs_calls _ _ _ _ (⟨hm.at (i := 1) rfl, hnet.nx.1⟩ : NetAt _ _ _ _) ho) rfl rfl (fun W hm hu => ?_)
    refine wl_y (y_not rfl) ?_
    refine wl_nil ?_
    refine then_normal ?_
    refine wc_cond rfl (fun h2 => ?_) (fun h2 => ?_)
    · have hhf : hangsF (tabR ps) ps.length = false := by rw [← hnet.hangs]; simpa using h2
      refine wc_seq ?_
      refine wc_region ?_
      refine wl_y (y_buildL (parts := []) (cells := #[.int .i64 0, .int .i64 0]) rfl (by kernel_rfl)) ?_
      refine wl_y (y_assign (by conv => lhs; whnf)) ?_
      refine wl_storeBlk (i := 0) (vs := [.int .i64 0, .int .i64 0]) hm rfl rfl rfl ti27 rfl rfl (by simp [Value.oneCell']) (fun W hm => ?_)
      refine wl_y (y_assign (by conv => lhs; whnf)) ?_
      refine wl_y (y_assign (by conv => lhs; whnf)) ?_
      refine wl_nil ?_
      refine then_normal ?_
      refine wc_ret ?_
      refine then_ret ?_
      refine post_ret (results_tctt rfl rfl (run_loadVar_agg (hm.at (i := 0) rfl) Try.underlying27 rfl ti27)) ?_
      refine ⟨?_, hm.upd⟩
      rw [if_neg (by rw [hhf]; decide)]; rfl
    · have hht : hangsF (tabR ps) ps.length = true := by rw [← hnet.hangs]; simpa using h2
      refine wc_skip ?_
      refine then_normal ?_
      refine wc_seq ?_
      refine wc_region ?_
      refine wl_y (y_move (by conv => lhs; whnf)) ?_
      refine wl_call hb56 (form_calls _ _ _ _ (⟨hm.at (i := 1) rfl, hnet.nx.1⟩ : NetAt _ _ _ _) ho hk1) rfl rfl (fun e W h => ?_)
      obtain ⟨bf, rfl, hff⟩ := h
      refine ⟨_, rfl, ?_⟩
      have hm := hm.call hff
      have hof := form_okf (eqIter_canon (tabN nx) ps.length ps.length) ho hk1
      refine wl_callR hm hb57 (doubt_calls _ _ _ _ (⟨hm.at (i := 2) rfl, fmTo_len _ _ _⟩ : NetAt _ _ _ _) hof) rfl rfl (fun W hm hu => ?_)
      refine wl_y (y_move (by conv => lhs; whnf)) ?_
      refine wl_y (y_extract rfl rfl) ?_
      refine wl_y (y_extract rfl rfl) ?_
      refine wl_y (y_extract rfl rfl) ?_
      refine wl_alloc hm ti77 (fun W b9 hm hb9 hu => ?_)
      refine wl_y (y_assign (by conv => lhs; whnf)) ?_
      refine wl_storeBlk (i := 3) (vs := [.int .i64 (dtP (formF (tabN nx) ps.length) (formK (tabN nx) ps.length)).1, .int .i64 (dtP (formF (tabN nx) ps.length) (formK (tabN nx) ps.length)).2]) hm rfl rfl rfl ti77 rfl rfl (by simp [Value.oneCell']) (fun W hm => ?_)
      refine wl_y (y_assign (by conv => lhs; whnf)) ?_
      refine wl_nil ?_
      refine then_normal ?_
      refine wc_seq ?_
      have hm : Mem w [] [.blk b3 27 [.int .i64 0, .int .i64 0], .blk bn 94 (netCells ps.length nx), .blk bf 94 (netCells (rk (eqV (tabN nx) ps.length) ps.length) (fmTo (tabN nx) (eqV (tabN nx) ps.length) ps.length)), .blk b9 77 [.int .i64 (dtP (formF (tabN nx) ps.length) (formK (tabN nx) ps.length)).1, .int .i64 (dtP (formF (tabN nx) ps.length) (formK (tabN nx) ps.length)).2]] W := hm
      have hm : Mem w [] [vagueEn b3 27 2, .blk bn 94 (netCells ps.length nx), .blk bf 94 (netCells (rk (eqV (tabN nx) ps.length) ps.length) (fmTo (tabN nx) (eqV (tabN nx) ps.length) ps.length)), .blk b9 77 [.int .i64 (dtP (formF (tabN nx) ps.length) (formK (tabN nx) ps.length)).1, .int .i64 (dtP (formF (tabN nx) ps.length) (formK (tabN nx) ps.length)).2]] W := hm.vague 0 rfl
      refine wc_draw (C := fun W => Mem w [] [vagueEn b3 27 2, .blk bn 94 (netCells ps.length nx), .blk bf 94 (netCells (rk (eqV (tabN nx) ps.length) ps.length) (fmTo (tabN nx) (eqV (tabN nx) ps.length) ps.length)), .blk b9 77 [.int .i64 (dtP (formF (tabN nx) ps.length) (formK (tabN nx) ps.length)).1, .int .i64 (dtP (formF (tabN nx) ps.length) (formK (tabN nx) ps.length)).2]] W) none mix (by kernel_rfl) (by kernel_rfl) (Mem.stable _ _ _) (hm.step (upd_drew _)) ?_
      refine al_y (by kernel_rfl) (fun W hm => y_move (by conv => lhs; whnf)) ?_
      refine al_y (by kernel_rfl) (fun W hm => y_fieldAddr (off := 0) (ft := 3) rfl Try.underlying77 rfl ti3) ?_
      refine al_y (by kernel_rfl) (fun W hm => y_load rfl (hm.blk_cell 3 rfl rfl) Try.underlying3 rfl) ?_
      refine al_y (by kernel_rfl) (fun W hm => y_fieldAddr (off := 1) (ft := 3) rfl Try.underlying77 rfl ti3) ?_
      refine al_y (by kernel_rfl) (fun W hm => y_load rfl (hm.blk_cell 3 rfl rfl) Try.underlying3 rfl) ?_
      refine al_y (by kernel_rfl) (fun W hm => y_buildL (cells := #[.int .i64 (dtP (formF (tabN nx) ps.length) (formK (tabN nx) ps.length)).1, .int .i64 (dtP (formF (tabN nx) ps.length) (formK (tabN nx) ps.length)).2]) rfl (by kernel_rfl)) ?_
      refine al_y (by kernel_rfl) (fun W hm => y_move (by conv => lhs; whnf)) ?_
      refine al_y (by kernel_rfl) (fun W hm => y_assign (by conv => lhs; whnf)) ?_
      refine al_loud (by kernel_rfl) (fun W hm => ?_)
      obtain ⟨xs, hxl, hm⟩ := hm.known 0 rfl
      refine wl_storeBlk (i := 0) (vs := [.int .i64 (dtP (formF (tabN nx) ps.length) (formK (tabN nx) ps.length)).1, .int .i64 (dtP (formF (tabN nx) ps.length) (formK (tabN nx) ps.length)).2]) hm rfl rfl rfl ti27 rfl hxl (by simp [Value.oneCell']) (fun W hm => ?_)
      refine nx_keep (H' := [.blk b3 27 [.int .i64 (dtP (formF (tabN nx) ps.length) (formK (tabN nx) ps.length)).1, .int .i64 (dtP (formF (tabN nx) ps.length) (formK (tabN nx) ps.length)).2], .blk bn 94 (netCells ps.length nx), .blk bf 94 (netCells (rk (eqV (tabN nx) ps.length) ps.length) (fmTo (tabN nx) (eqV (tabN nx) ps.length) ps.length)), .blk b9 77 [.int .i64 (dtP (formF (tabN nx) ps.length) (formK (tabN nx) ps.length)).1, .int .i64 (dtP (formF (tabN nx) ps.length) (formK (tabN nx) ps.length)).2]]) hm (fun W h => h.vague 0 rfl) ?_
      refine al_y (by kernel_rfl) (fun W hm => y_assign (by conv => lhs; whnf)) ?_
      refine al_y (by kernel_rfl) (fun W hm => y_assign (by conv => lhs; whnf)) ?_
      refine al_nil (by kernel_rfl) (fun W hm => ?_)
      refine then_normal ?_
      refine wc_ret ?_
      refine post_ret (results_tctt rfl rfl (run_loadVar_agg (hm.at (i := 0) rfl) Try.underlying27 rfl ti27)) ?_
      refine ⟨?_, hm.upd⟩
      rw [if_pos hht, ← hnet.formF, ← hnet.formK]; rfl

set_option maxHeartbeats 4000000 in
theorem Doubt_no (w : World) (vl : Value) (ps : List (Int × Int)) (hl : SlAt w 2 vl ps.length (prs ps)) (hok : ¬ NetOk ps) :
    Cl Try.prog 16 [vl].toArray w (Ret w (.tuple #[.string ⟨#[]⟩, prV .i64 (0, 0), .bool false, .int .i64 70])) := by
  have hm : Mem w [] [] w := Mem.init w
  refine cl_enter Try.func16 rfl Try.ntmps16 rfl ?_
  refine wc_seq ?_
  refine wc_region ?_
  refine wl_y (y_assign (by conv => lhs; whnf)) ?_
  refine wl_alloc hm ti27 (fun W b3 hm hb3 hu => ?_)
  refine wl_y (y_assign (by conv => lhs; whnf)) ?_
  refine wl_y (y_assign (by conv => lhs; whnf)) ?_
  refine wl_nil ?_
  refine then_normal ?_
  refine wc_seq ?_
  refine wc_region ?_
  refine wl_y (y_move (by conv => lhs; whnf)) ?_
  refine wl_callR hm hb54 (open_no _ _ _ (hl.step hm.upd) hok) rfl rfl (fun W hm hu => ?_)
  refine wl_y (y_move (by conv => lhs; whnf)) ?_
  refine wl_y (y_extract rfl rfl) ?_
  refine wl_y (y_extract rfl rfl) ?_
  refine wl_y (y_assign (by conv => lhs; whnf)) ?_
  refine wl_y (y_assign (by conv => lhs; whnf)) ?_
  refine wl_nil ?_
  refine then_normal ?_
  refine wc_seq ?_
  refine wc_seq ?_
  refine wc_region ?_
  refine wl_y (y_move (by conv => lhs; whnf)) ?_
  refine wl_y (y_neq rfl rfl) ?_
  refine wl_nil ?_
  refine then_normal ?_
  refine wc_cond_dec rfl (fun h1 => ?_) (fun h1 => ?_)
  · skip
    refine wc_seq ?_
    refine wc_region ?_
    refine wl_y (y_buildL (parts := []) (cells := #[.int .i64 0, .int .i64 0]) rfl (by kernel_rfl)) ?_
    refine wl_y (y_move (by conv => lhs; whnf)) ?_
    refine wl_y (y_assign (by conv => lhs; whnf)) ?_
    refine wl_storeBlk (i := 0) (vs := [.int .i64 0, .int .i64 0]) hm rfl rfl rfl ti27 rfl rfl (by simp [Value.oneCell']) (fun W hm => ?_)
    refine wl_y (y_assign (by conv => lhs; whnf)) ?_
    refine wl_y (y_assign (by conv => lhs; whnf)) ?_
    refine wl_nil ?_
    refine then_normal ?_
    refine wc_ret ?_
    refine then_ret ?_
    refine post_ret (results_tctt rfl rfl (run_loadVar_agg (hm.at (i := 0) rfl) Try.underlying27 rfl ti27)) ?_
    exact ⟨rfl, hm.upd⟩
  · exfalso
    omega

theorem Doubt_calls (w : World) (vl : Value) (ps : List (Int × Int)) (hl : SlAt w 2 vl ps.length (prs ps)) :
    Cl Try.prog 16 [vl].toArray w (Ret w (.tuple #[.string (doubtV ps).1, prV .i64 (doubtV ps).2.1, .bool (doubtV ps).2.2.1, .int .i64 (doubtV ps).2.2.2])) := by
  by_cases hok : NetOk ps
  · have h := Doubt_yes w vl ps hl hok
    rw [show (.tuple #[.string (doubtV ps).1, prV .i64 (doubtV ps).2.1, .bool (doubtV ps).2.2.1, .int .i64 (doubtV ps).2.2.2] : Value) = .tuple (if hangsF (tabR ps) ps.length = true then #[.string (dtW (formF (tabR ps) ps.length) (formK (tabR ps) ps.length)), prV .i64 (dtP (formF (tabR ps) ps.length) (formK (tabR ps) ps.length)), .bool (dtB (formF (tabR ps) ps.length) (formK (tabR ps) ps.length)), .int .i64 0] else #[.string ⟨#[]⟩, prV .i64 (0, 0), .bool false, .int .i64 5]) by simp only [doubtV, if_pos hok]; split <;> rfl]; exact h
  · have h := Doubt_no w vl ps hl hok
    rw [show (.tuple #[.string (doubtV ps).1, prV .i64 (doubtV ps).2.1, .bool (doubtV ps).2.2.1, .int .i64 (doubtV ps).2.2.2] : Value) = .tuple #[.string ⟨#[]⟩, prV .i64 (0, 0), .bool false, .int .i64 70] by simp [doubtV, hok]]; exact h
end Go.Proofs.Ytofpdjpenmhbnaa
namespace Go.Proofs.Ytofpdjpenmhbnaa
open Go Go.Kx

set_option maxHeartbeats 4000000 in
theorem Memory_yes (w : World) (vl : Value) (ps : List (Int × Int)) (hl : SlAt w 2 vl ps.length (prs ps)) (hok : NetOk ps) :
    Cl Try.prog 15 [vl].toArray w (Ret w (.tuple (if hangsF (tabR ps) ps.length = true then (if dtB (formF (tabR ps) ps.length) (formK (tabR ps) ps.length) = true then #[.int .i64 0, .bool false, .int .i64 0] else #[.int .i64 (((memV (formF (tabR ps) ps.length) (formK (tabR ps) ps.length)).getD 0 : Nat) : Int), .bool true, .int .i64 0]) else #[.int .i64 0, .bool false, .int .i64 5]))) := by
  have hm : Mem w [] [] w := Mem.init w
  refine cl_enter Try.func15 rfl Try.ntmps15 rfl ?_
  refine wc_seq ?_
  refine wc_region ?_
  refine wl_y (y_assign (by conv => lhs; whnf)) ?_
  refine wl_y (y_assign (by conv => lhs; whnf)) ?_
  refine wl_y (y_assign (by conv => lhs; whnf)) ?_
  refine wl_nil ?_
  refine then_normal ?_
  refine wc_scope ?_
  refine wc_seq ?_
  refine wc_region ?_
  refine wl_y (y_move (by conv => lhs; whnf)) ?_
  refine wl_callM hm hb54 (open_yes _ _ ps (hl.step hm.upd) hok) rfl rfl (fun W v20 E hm hu hE => ?_)
  obtain ⟨bn, nx, rfl, rfl, hnet⟩ := hE
  have ho := hnet.okf
  have hk5 := ho.k5
  have hk1 := hok.1.1
  refine wl_y (y_move (by conv => lhs; whnf)) ?_
  refine wl_y (y_extract rfl rfl) ?_
  refine wl_y (y_extract rfl rfl) ?_
  refine wl_y (y_assign (by conv => lhs; whnf)) ?_
  refine wl_y (y_assign (by conv => lhs; whnf)) ?_
  refine wl_nil ?_
  refine then_normal ?_
  refine wc_seq ?_
  refine wc_seq ?_
  refine wc_region ?_
  refine wl_y (y_move (by conv => lhs; whnf)) ?_
  refine wl_y (y_neq rfl rfl) ?_
  refine wl_nil ?_
  refine then_normal ?_
  refine wc_cond_dec rfl (fun h1 => ?_) (fun h1 => ?_)
  · exact absurd rfl h1
  · skip
    refine wc_skip ?_
    refine then_normal ?_
    refine wc_seq ?_
    refine wc_seq ?_
    refine wc_region ?_
    refine wl_y (y_move (by conv => lhs; whnf)) ?_
    refine wl_callR hm hb55 (hangs_calls _ _ _ _ (⟨hm.at (i := 0) rfl, hnet.nx.1⟩ : NetAt _ _ _ _) ho) rfl rfl (fun W hm hu => ?_)
    refine wl_y (y_not rfl) ?_
    refine wl_nil ?_
    refine then_normal ?_
    refine wc_cond rfl (fun h2 => ?_) (fun h2 => ?_)
    · have hhf : hangsF (tabR ps) ps.length = false := by rw [← hnet.hangs]; simpa using h2
      refine wc_seq ?_
      refine wc_region ?_
      refine wl_y (y_assign (by conv => lhs; whnf)) ?_
      refine wl_y (y_assign (by conv => lhs; whnf)) ?_
      refine wl_y (y_assign (by conv => lhs; whnf)) ?_
      refine wl_nil ?_
      refine then_normal ?_
      refine wc_ret ?_
      refine then_ret ?_
      refine scope_ret ?_
      refine post_ret (results_fr3 rfl) ?_
      refine ⟨?_, hm.upd⟩
      rw [if_neg (by rw [hhf]; decide)]; rfl
    · have hht : hangsF (tabR ps) ps.length = true := by rw [← hnet.hangs]; simpa using h2
      refine wc_skip ?_
      refine then_normal ?_
      refine wc_seq ?_
      refine wc_region ?_
      refine wl_y (y_move (by conv => lhs; whnf)) ?_
      refine wl_call hb56 (form_calls _ _ _ _ (⟨hm.at (i := 0) rfl, hnet.nx.1⟩ : NetAt _ _ _ _) ho hk1) rfl rfl (fun e W h => ?_)
      obtain ⟨bf, rfl, hff⟩ := h
      refine ⟨_, rfl, ?_⟩
      have hm := hm.call hff
      have hof : Okf (formK (tabN nx) ps.length) (formF (tabN nx) ps.length) := form_okf (eqIter_canon (tabN nx) ps.length ps.length) ho hk1
      have h32 := pow_le_32 hof.k5
      have hpp := Nat.two_pow_pos (formK (tabN nx) ps.length)
      refine wl_y (y_assign (by conv => lhs; whnf)) ?_
      refine wl_nil ?_
      refine then_normal ?_
      refine wc_seq ?_
      refine wc_seq ?_
      refine wc_region ?_
      refine wl_y (y_move (by conv => lhs; whnf)) ?_
      refine wl_callR hm hb57 (doubt_calls _ _ _ _ (⟨hm.at (i := 1) rfl, fmTo_len _ _ _⟩ : NetAt _ _ _ _) hof) rfl rfl (fun W hm hu => ?_)
      refine wl_y (y_move (by conv => lhs; whnf)) ?_
      refine wl_y (y_extract rfl rfl) ?_
      refine wl_y (y_extract rfl rfl) ?_
      refine wl_y (y_extract rfl rfl) ?_
      refine wl_alloc hm ti77 (fun W b9 hm hb9 hu => ?_)
      refine wl_y (y_assign (by conv => lhs; whnf)) ?_
      refine wl_storeBlk (i := 2) (vs := [.int .i64 (dtP (formF (tabN nx) ps.length) (formK (tabN nx) ps.length)).1, .int .i64 (dtP (formF (tabN nx) ps.length) (formK (tabN nx) ps.length)).2]) hm rfl rfl rfl ti77 rfl rfl (by simp [Value.oneCell']) (fun W hm => ?_)
      refine wl_y (y_assign (by conv => lhs; whnf)) ?_
      refine wl_nil ?_
      refine then_normal ?_
      refine wc_seq ?_
      refine wc_region ?_
      refine wl_y (y_move (by conv => lhs; whnf)) ?_
      refine wl_nil ?_
      refine then_normal ?_
      refine wc_cond rfl (fun h3 => ?_) (fun h3 => ?_)
      · have hdb : dtB (formF (tabN nx) ps.length) (formK (tabN nx) ps.length) = true := h3
        refine wc_seq ?_
        refine wc_region ?_
        refine wl_y (y_assign (by conv => lhs; whnf)) ?_
        refine wl_y (y_assign (by conv => lhs; whnf)) ?_
        refine wl_y (y_assign (by conv => lhs; whnf)) ?_
        refine wl_nil ?_
        refine then_normal ?_
        refine wc_ret ?_
        refine then_ret ?_
        refine scope_ret ?_
        refine post_ret (results_fr3 rfl) ?_
        refine ⟨?_, hm.upd⟩
        rw [if_pos hht, ← hnet.formF, ← hnet.formK, if_pos hdb]; rfl
      · have hdb : dtB (formF (tabN nx) ps.length) (formK (tabN nx) ps.length) = false := h3
        have hnl : ¬ ∃ a b, a < b ∧ b < (formK (tabN nx) ps.length) ∧ Kx.Loop (formF (tabN nx) ps.length) a b := fun hh => by rw [(dtB_loop hof).2 hh] at hdb; cases hdb
        have hm : Mem w [] [.blk bn 94 (netCells ps.length nx), .blk bf 94 (netCells (formK (tabN nx) ps.length) (fmTo (tabN nx) (eqV (tabN nx) ps.length) ps.length)), .blk b9 77 [.int .i64 (dtP (formF (tabN nx) ps.length) (formK (tabN nx) ps.length)).1, .int .i64 (dtP (formF (tabN nx) ps.length) (formK (tabN nx) ps.length)).2]] W := hm
        refine wc_skip ?_
        refine then_normal ?_
        refine wc_seq ?_
        refine wc_region ?_
        refine wl_y (y_assign (by conv => lhs; whnf)) ?_
        refine wl_nil ?_
        refine then_normal ?_
        refine wc_seq ?_
        refine wc_region ?_
        refine wl_makeMap hm (Value.int .i64) (fun W m38 hm hm38 hu => ?_)
        refine wl_y (y_move (by conv => lhs; whnf)) ?_
        refine wl_callR hm hb58 (all_calls _ _ _ _ (⟨hm.at (i := 1) rfl, fmTo_len _ _ _⟩ : NetAt _ _ _ _) hof.k5) rfl rfl (fun W hm hu => ?_)
        refine wl_insert (i := 3) (k := ((2 ^ (formK (tabN nx) ps.length) - 1 : Nat) : Int)) (v := .bool true) hm rfl rfl rfl rfl Try.underlying81 ok116 (fun W hm => ?_)
        refine wl_y (y_move (by conv => lhs; whnf)) ?_
        refine wl_y (y_assign (by conv => lhs; whnf)) ?_
        refine wl_nil ?_
        refine then_normal ?_
        refine wc_seq ?_
        refine wc_label ?_
        refine then_normal ?_
        refine wc_block ?_
        refine wc_loop [2, 3, 4, 11, 12, 13, 14, 15, 16, 17, 42, 43, 44, 45, 46, 47, 48, 49, 50, 51, 52, 53, 54, 55, 56, 57, 58, 59, 60, 61, 62, 63, 64, 65, 66, 67, 68, 69, 70, 71, 72, 73, 74] (fun ((m, kv, mk) : Nat × List (Int × Value) × Nat) => [(11, .int .i64 (m : Int)), (12, .map (some mk))]) (fun ((m, kv, mk) : Nat × List (Int × Value) × Nat) W => Mem w [] [.blk bn 94 (netCells ps.length nx), .blk bf 94 (netCells (formK (tabN nx) ps.length) (fmTo (tabN nx) (eqV (tabN nx) ps.length) ps.length)), .blk b9 77 [.int .i64 (dtP (formF (tabN nx) ps.length) (formK (tabN nx) ps.length)).1, .int .i64 (dtP (formF (tabN nx) ps.length) (formK (tabN nx) ps.length)).2], mapEn (Value.int .i64) mk kv] W ∧ SetsOk (formF (tabN nx) ps.length) (formK (tabN nx) ps.length) m kv ∧ (∀ m', m' < m → doneB (formF (tabN nx) ps.length) (formK (tabN nx) ps.length) m' = false) ∧ m ≤ 10) (fun ((m, kv, mk) : Nat × List (Int × Value) × Nat) => 11 - m) ((0, kvSet [] ((2 ^ (formK (tabN nx) ps.length) - 1 : Nat) : Int) (.bool true), m38) : Nat × List (Int × Value) × Nat) ?_ ?_ ?_
        · exact ⟨rfl, rfl, trivial⟩
        · exact ⟨hm, sets_zero _ _ _, fun _ h => absurd h (Nat.not_lt_zero _), Nat.zero_le _⟩
        · rintro ⟨m, kv, mk⟩ u W ⟨hm, hks, hnod, hm10a⟩
          refine wc_block ?_
          refine wc_seq ?_
          refine wc_seq ?_
          refine wc_region ?_
          refine wl_y (y_move (by conv => lhs; whnf)) ?_
          refine wl_rangeMap (i := 3) hm rfl rfl Try.underlying81 (fun W r43 hm hr43 hu => ?_)
          refine wl_nil ?_
          refine then_normal ?_
          refine wc_block ?_
          refine wc_loop [11, 12, 13, 14, 15, 16, 17, 44, 45, 46, 47, 48, 49, 50, 51, 52, 53, 54, 55, 56, 57, 58, 59, 60, 61, 62, 63, 64, 65, 66, 67, 68, 69, 70, 71, 72, 73] (fun (seen : List Nat) => [(11, .int .i64 (m : Int)), (12, .map (some mk))]) (fun (seen : List Nat) W => Mem w [] [.blk bn 94 (netCells ps.length nx), .blk bf 94 (netCells (formK (tabN nx) ps.length) (fmTo (tabN nx) (eqV (tabN nx) ps.length) ps.length)), .blk b9 77 [.int .i64 (dtP (formF (tabN nx) ps.length) (formK (tabN nx) ps.length)).1, .int .i64 (dtP (formF (tabN nx) ps.length) (formK (tabN nx) ps.length)).2], mapEn (Value.int .i64) mk kv, iterEn r43 mk kv.length seen] W ∧ (∀ p, p ∈ seen → ∀ q, kv[p]? = some q → popF q.1.toNat ≤ 1)) (fun (seen : List Nat) => unseen kv.length seen) (([]) : List Nat) ?_ ?_ ?_
          · exact ⟨rfl, rfl, trivial⟩
          · exact ⟨hm, fun p h => absurd h List.not_mem_nil⟩
          · rintro seen u W ⟨hm, hsl⟩
            refine wc_seq ?_
            refine wc_region ?_
            refine wl_nextMap (i := 3) (j := 4) hm rfl rfl rfl (fun p q hpq hps W hm => ?_) (fun hall => ?_)
            · obtain ⟨q1, qv⟩ := q
              obtain ⟨s1, rfl, himgs1⟩ := (hks q1).1 (List.mem_map.2 ⟨_, List.mem_of_getElem? hpq, rfl⟩)
              have hs32s1 := imgB_lt hof himgs1
              refine wl_y (y_extract rfl rfl) ?_
              refine wl_nil ?_
              refine then_normal ?_
              refine wc_seq ?_
              refine wc_cond_true rfl ?_
              refine wc_skip ?_
              refine then_normal ?_
              refine wc_block ?_
              refine wc_seq ?_
              refine wc_region ?_
              refine wl_y (y_entry (hm.at (i := 3) rfl) (hm.at (i := 4) rfl) rfl hpq) ?_
              refine wl_y (y_extract rfl rfl) ?_
              refine wl_y (y_assign (by conv => lhs; whnf)) ?_
              refine wl_nil ?_
              refine then_normal ?_
              refine wc_seq ?_
              refine wc_region ?_
              refine wl_y (y_move (by conv => lhs; whnf)) ?_
              refine wl_y (y_conv rfl Try.underlying3 Try.underlying39 (IntWalk.u64_in _ (by omega))) ?_
              refine wl_callR hm hb59 (OnesCount_calls _ s1 (by omega)) rfl rfl (fun W hm hu => ?_)
              refine wl_y (y_gtr rfl rfl) ?_
              refine wl_nil ?_
              refine then_normal ?_
              refine wc_cond_dec rfl (fun h4 => ?_) (fun h4 => ?_)
              · have hnd : doneB (formF (tabN nx) ps.length) (formK (tabN nx) ps.length) m = false := doneB_not (by omega) himgs1 (by omega)
                have hmlen := notdone_len hof hnl hnd
                have hpl := pairN_len _ hof.k5
                have hm10 : (pairN (formK (tabN nx) ps.length) (formK (tabN nx) ps.length)).length ≤ 10 := pairN_le10 hof.k5
                obtain ⟨sn, hsn⟩ : ∃ sn, sn = seen ++ [p] := ⟨_, rfl⟩
                rw [← hsn] at hm
                refine wc_seq ?_
                refine wc_region ?_
                refine wl_makeMap hm (Value.int .i64) (fun W m52 hm hm52 hu => ?_)
                refine wl_y (y_assign (by conv => lhs; whnf)) ?_
                refine wl_nil ?_
                refine then_normal ?_
                refine wc_seq ?_
                refine wc_seq ?_
                refine wc_region ?_
                refine wl_y (y_move (by conv => lhs; whnf)) ?_
                refine wl_rangeMap (i := 3) hm rfl rfl Try.underlying81 (fun W r54 hm hr54 hu => ?_)
                refine wl_nil ?_
                refine then_normal ?_
                refine wc_block ?_
                refine wc_loop [15, 16, 17, 55, 56, 57, 58, 59, 60, 61, 62, 63, 64, 65, 66, 67, 68, 69, 70] (fun ((seen2, kv2) : List Nat × List (Int × Value)) => []) (fun ((seen2, kv2) : List Nat × List (Int × Value)) W => Mem w [] [.blk bn 94 (netCells ps.length nx), .blk bf 94 (netCells (formK (tabN nx) ps.length) (fmTo (tabN nx) (eqV (tabN nx) ps.length) ps.length)), .blk b9 77 [.int .i64 (dtP (formF (tabN nx) ps.length) (formK (tabN nx) ps.length)).1, .int .i64 (dtP (formF (tabN nx) ps.length) (formK (tabN nx) ps.length)).2], mapEn (Value.int .i64) mk kv, iterEn r43 mk kv.length sn, mapEn (Value.int .i64) m52 kv2, iterEn r54 mk kv.length seen2] W ∧ NextOk (formF (tabN nx) ps.length) (formK (tabN nx) ps.length) kv seen2 0 0 kv2) (fun ((seen2, kv2) : List Nat × List (Int × Value)) => unseen kv.length seen2) (([], []) : List Nat × List (Int × Value)) ?_ ?_ ?_
                · exact trivial
                · exact ⟨hm, next_start 0⟩
                · rintro ⟨seen2, kv2⟩ u W ⟨hm, hnx⟩
                  refine wc_seq ?_
                  refine wc_region ?_
                  refine wl_nextMap (i := 3) (j := 6) hm rfl rfl rfl (fun p q hpq hps W hm => ?_) (fun hall => ?_)
                  · obtain ⟨q1, qv⟩ := q
                    obtain ⟨s2, rfl, himgs2⟩ := (hks q1).1 (List.mem_map.2 ⟨_, List.mem_of_getElem? hpq, rfl⟩)
                    have hs32s2 := imgB_lt hof himgs2
                    have hnx := hnx.zero s2
                    refine wl_y (y_extract rfl rfl) ?_
                    refine wl_nil ?_
                    refine then_normal ?_
                    refine wc_seq ?_
                    refine wc_cond_true rfl ?_
                    refine wc_skip ?_
                    refine then_normal ?_
                    refine wc_block ?_
                    refine wc_seq ?_
                    refine wc_region ?_
                    refine wl_y (y_entry (hm.at (i := 3) rfl) (hm.at (i := 6) rfl) rfl hpq) ?_
                    refine wl_y (y_extract rfl rfl) ?_
                    refine wl_y (y_assign (by conv => lhs; whnf)) ?_
                    refine wl_nil ?_
                    refine then_normal ?_
                    refine wc_seq ?_
                    refine wc_region ?_
                    obtain ⟨sn2, hsn2⟩ : ∃ sn2, sn2 = seen2 ++ [p] := ⟨_, rfl⟩
                    rw [← hsn2] at hm
                    refine wl_rangeStr hm (by conv => lhs; whnf) Try.underlying9 (fun W b59 hm hb59 hu => ?_)
                    refine wl_nil ?_
                    refine then_normal ?_
                    refine wc_block ?_
                    refine wc_loop [16, 17, 60, 61, 62, 63, 64, 65, 66, 67, 68, 69, 70] (fun ((x, kv2) : Nat × List (Int × Value)) => []) (fun ((x, kv2) : Nat × List (Int × Value)) W => Mem w [] [.blk bn 94 (netCells ps.length nx), .blk bf 94 (netCells (formK (tabN nx) ps.length) (fmTo (tabN nx) (eqV (tabN nx) ps.length) ps.length)), .blk b9 77 [.int .i64 (dtP (formF (tabN nx) ps.length) (formK (tabN nx) ps.length)).1, .int .i64 (dtP (formF (tabN nx) ps.length) (formK (tabN nx) ps.length)).2], mapEn (Value.int .i64) mk kv, iterEn r43 mk kv.length sn, mapEn (Value.int .i64) m52 kv2, iterEn r54 mk kv.length sn2, .obj b59 (· = .stringIter ⟨#[97, 98]⟩ x)] W ∧ x ≤ 2 ∧ NextOk (formF (tabN nx) ps.length) (formK (tabN nx) ps.length) kv seen2 s2 x kv2) (fun ((x, kv2) : Nat × List (Int × Value)) => 2 - x) ((0, kv2) : Nat × List (Int × Value)) ?_ ?_ ?_
                    · exact trivial
                    · exact ⟨hm, Nat.zero_le _, hnx⟩
                    · rintro ⟨x, kv2⟩ u W ⟨hm, hx, hnx⟩
                      refine wc_seq ?_
                      refine wc_region ?_
                      refine wl_nextStr (i := 7) hm rfl rfl (fun h5 W hm => ?_) (fun h5 => ?_)
                      · rw [ab_decode h5] at hm ⊢
                        have hx2 : x < 2 := h5
                        have hst := stepF_lt hof s2 x hx2 (formK (tabN nx) ps.length) (Nat.le_refl _)
                        refine wl_y (y_extract rfl rfl) ?_
                        refine wl_nil ?_
                        refine then_normal ?_
                        refine wc_seq ?_
                        refine wc_cond_true rfl ?_
                        refine wc_skip ?_
                        refine then_normal ?_
                        refine wc_block ?_
                        refine wc_seq ?_
                        refine wc_region ?_
                        refine wl_y (y_extract rfl rfl) ?_
                        refine wl_y (y_assign (by conv => lhs; whnf)) ?_
                        refine wl_nil ?_
                        refine then_normal ?_
                        refine wc_seq ?_
                        refine wc_region ?_
                        refine wl_y (y_move (by conv => lhs; whnf)) ?_
                        refine wl_y (y_move (by conv => lhs; whnf)) ?_
                        refine wl_y (y_move (by conv => lhs; whnf)) ?_
                        refine wl_callR hm hb60 (step_calls _ _ _ _ s2 x (⟨hm.at (i := 1) rfl, fmTo_len _ _ _⟩ : NetAt _ _ _ _) hof (by omega) hx2) rfl rfl (fun W hm hu => ?_)
                        refine wl_y (y_assign (by conv => lhs; whnf)) ?_
                        refine wl_nil ?_
                        refine then_normal ?_
                        refine wc_seq ?_
                        refine wc_region ?_
                        refine wl_y (y_move (by conv => lhs; whnf)) ?_
                        refine wl_y (y_neq rfl rfl) ?_
                        refine wl_nil ?_
                        refine then_normal ?_
                        refine wc_cond_dec rfl (fun h6 => ?_) (fun h6 => ?_)
                        · have hne : stepF (formF (tabN nx) ps.length) s2 x (formK (tabN nx) ps.length) ≠ 0 := fun hz => h6 (congrArg Nat.cast hz)
                          refine wc_region ?_
                          refine wl_y (y_move (by conv => lhs; whnf)) ?_
                          refine wl_y (y_move (by conv => lhs; whnf)) ?_
                          refine wl_mapUpdate (i := 5) (k := ((stepF (formF (tabN nx) ps.length) s2 x (formK (tabN nx) ps.length) : Nat) : Int)) (v := .bool true) hm rfl rfl rfl rfl Try.underlying81 ok116 (fun W hm => ?_)
                          refine wl_nil ?_
                          refine block_normal ?_
                          refine next_round (σ := Nat × List (Int × Value)) (x + 1, kvSet kv2 ((stepF (formF (tabN nx) ps.length) s2 x (formK (tabN nx) ps.length) : Nat) : Int) (.bool true)) rfl (by repeat first | exact out_hav | refine out_look rfl ?_ | refine out_havIn rfl ?_) trivial ⟨hm, by omega, hnx.put hne⟩ (by (try dsimp only); omega)
                        · have hz : stepF (formF (tabN nx) ps.length) s2 x (formK (tabN nx) ps.length) = 0 := by have h : ¬ ¬ ((stepF (formF (tabN nx) ps.length) s2 x (formK (tabN nx) ps.length) : Nat) : Int) = 0 := h6; omega
                          refine wc_skip ?_
                          refine block_normal ?_
                          refine next_round (σ := Nat × List (Int × Value)) (x + 1, kv2) rfl (by repeat first | exact out_hav | refine out_look rfl ?_ | refine out_havIn rfl ?_) trivial ⟨hm, by omega, hnx.skip hz⟩ (by (try dsimp only); omega)
                      · obtain rfl : x = 2 := by have : ¬ x < 2 := h5; omega
                        refine wl_y (y_extract rfl rfl) ?_
                        refine wl_nil ?_
                        refine then_normal ?_
                        refine wc_seq ?_
                        refine wc_cond_false rfl ?_
                        refine wc_exit ?_
                        refine then_exit ?_
                        refine then_exit ?_
                        refine block_exit ?_
                        refine block_normal ?_
                        refine next_round (σ := List Nat × List (Int × Value)) (sn2, kv2) rfl (by repeat first | exact out_hav | refine out_look rfl ?_ | refine out_havIn rfl ?_) trivial ⟨hm.take 7, by rw [hsn2]; exact hnx.end_ hpq 0⟩ (by rw [hsn2]; exact unseen_lt (List.getElem?_eq_some_iff.1 hpq).1 hps)
                  · have hks2 := hnx.sets hof hks hall
                    refine wl_y (y_extract rfl rfl) ?_
                    refine wl_nil ?_
                    refine then_normal ?_
                    refine wc_seq ?_
                    refine wc_cond_false rfl ?_
                    refine wc_exit ?_
                    refine then_exit ?_
                    refine then_exit ?_
                    refine block_exit ?_
                    refine then_normal ?_
                    refine wc_seq ?_
                    refine wc_region ?_
                    refine wl_y (y_move (by conv => lhs; whnf)) ?_
                    refine wl_y (y_assign (by conv => lhs; whnf)) ?_
                    refine wl_nil ?_
                    refine then_normal ?_
                    refine wc_seq ?_
                    refine wc_region ?_
                    refine wl_y (y_move (by conv => lhs; whnf)) ?_
                    refine wl_y (y_add64 rfl rfl (by omega)) ?_
                    refine wl_y (y_assign (by conv => lhs; whnf)) ?_
                    refine wl_nil ?_
                    refine then_normal ?_
                    refine wc_exit ?_
                    refine block_exit' rfl ?_
                    refine then_exit ?_
                    refine block_exit' rfl ?_
                    refine then_exit ?_
                    refine block_exit ?_
                    refine next_round (σ := Nat × List (Int × Value) × Nat) (m + 1, kv2, m52) rfl (by repeat first | exact out_hav | refine out_look rfl ?_ | refine out_havIn rfl ?_) ⟨rfl, rfl, trivial⟩ ⟨((hm.take 6).erase 3).erase 3, hks2, allLt2 hnod hnd, by omega⟩ (by (try dsimp only); omega)
              · have hp1 : popF s1 ≤ 1 := by omega
                refine wc_skip ?_
                refine block_normal ?_
                refine next_round (σ := List Nat) (seen ++ [p]) rfl (by repeat first | exact out_hav | refine out_look rfl ?_ | refine out_havIn rfl ?_) ⟨rfl, rfl, trivial⟩ ⟨hm, fun p1 hp1m q hq => by
            rcases List.mem_append.1 hp1m with hp1m | hp1m
            · exact hsl p1 hp1m q hq
            · rw [List.mem_singleton.1 hp1m, hpq] at hq; rw [← Option.some.inj hq]; simpa using hp1⟩ (unseen_lt (List.getElem?_eq_some_iff.1 hpq).1 hps)
            · have hdone := sets_done hks hall hsl
              refine wl_y (y_extract rfl rfl) ?_
              refine wl_nil ?_
              refine then_normal ?_
              refine wc_seq ?_
              refine wc_cond_false rfl ?_
              refine wc_exit ?_
              refine then_exit ?_
              refine then_exit ?_
              refine block_exit ?_
              refine then_normal ?_
              refine wc_seq ?_
              refine wc_region ?_
              refine wl_y (y_move (by conv => lhs; whnf)) ?_
              refine wl_y (y_assign (by conv => lhs; whnf)) ?_
              refine wl_y (y_assign (by conv => lhs; whnf)) ?_
              refine wl_y (y_assign (by conv => lhs; whnf)) ?_
              refine wl_nil ?_
              refine then_normal ?_
              refine wc_ret ?_
              refine block_ret ?_
              refine then_ret ?_
              refine block_ret ?_
              refine scope_ret ?_
              refine post_ret (results_fr3 rfl) ?_
              refine ⟨?_, hm.upd⟩
              rw [if_pos hht, ← hnet.formF, ← hnet.formK, if_neg (by rw [hdb]; decide), memV_of (by omega) hdone hnod]; rfl

set_option maxHeartbeats 4000000 in
theorem Memory_no (w : World) (vl : Value) (ps : List (Int × Int)) (hl : SlAt w 2 vl ps.length (prs ps)) (hok : ¬ NetOk ps) :
    Cl Try.prog 15 [vl].toArray w (Ret w (.tuple #[.int .i64 0, .bool false, .int .i64 70])) := by
  have hm : Mem w [] [] w := Mem.init w
  refine cl_enter Try.func15 rfl Try.ntmps15 rfl ?_
  refine wc_seq ?_
  refine wc_region ?_
  refine wl_y (y_assign (by conv => lhs; whnf)) ?_
  refine wl_y (y_assign (by conv => lhs; whnf)) ?_
  refine wl_y (y_assign (by conv => lhs; whnf)) ?_
  refine wl_nil ?_
  refine then_normal ?_
  refine wc_scope ?_
  refine wc_seq ?_
  refine wc_region ?_
  refine wl_y (y_move (by conv => lhs; whnf)) ?_
  refine wl_callR hm hb54 (open_no _ _ _ (hl.step hm.upd) hok) rfl rfl (fun W hm hu => ?_)
  refine wl_y (y_move (by conv => lhs; whnf)) ?_
  refine wl_y (y_extract rfl rfl) ?_
  refine wl_y (y_extract rfl rfl) ?_
  refine wl_y (y_assign (by conv => lhs; whnf)) ?_
  refine wl_y (y_assign (by conv => lhs; whnf)) ?_
  refine wl_nil ?_
  refine then_normal ?_
  refine wc_seq ?_
  refine wc_seq ?_
  refine wc_region ?_
  refine wl_y (y_move (by conv => lhs; whnf)) ?_
  refine wl_y (y_neq rfl rfl) ?_
  refine wl_nil ?_
  refine then_normal ?_
  refine wc_cond_dec rfl (fun h1 => ?_) (fun h1 => ?_)
  · skip
    refine wc_seq ?_
    refine wc_region ?_
    refine wl_y (y_move (by conv => lhs; whnf)) ?_
    refine wl_y (y_assign (by conv => lhs; whnf)) ?_
    refine wl_y (y_assign (by conv => lhs; whnf)) ?_
    refine wl_y (y_assign (by conv => lhs; whnf)) ?_
    refine wl_nil ?_
    refine then_normal ?_
    refine wc_ret ?_
    refine then_ret ?_
    refine scope_ret ?_
    refine post_ret (results_fr3 rfl) ?_
    exact ⟨rfl, hm.upd⟩
  · exfalso
    omega

theorem Memory_calls (w : World) (vl : Value) (ps : List (Int × Int)) (hl : SlAt w 2 vl ps.length (prs ps)) :
    Cl Try.prog 15 [vl].toArray w (Ret w (.tuple #[.int .i64 (memoryV ps).1, .bool (memoryV ps).2.1, .int .i64 (memoryV ps).2.2])) := by
  by_cases hok : NetOk ps
  · have h := Memory_yes w vl ps hl hok
    rw [show (.tuple #[.int .i64 (memoryV ps).1, .bool (memoryV ps).2.1, .int .i64 (memoryV ps).2.2] : Value) = .tuple (if hangsF (tabR ps) ps.length = true then (if dtB (formF (tabR ps) ps.length) (formK (tabR ps) ps.length) = true then #[.int .i64 0, .bool false, .int .i64 0] else #[.int .i64 (((memV (formF (tabR ps) ps.length) (formK (tabR ps) ps.length)).getD 0 : Nat) : Int), .bool true, .int .i64 0]) else #[.int .i64 0, .bool false, .int .i64 5]) by simp only [memoryV, if_pos hok]; split <;> (try split) <;> rfl]; exact h
  · have h := Memory_no w vl ps hl hok
    rw [show (.tuple #[.int .i64 (memoryV ps).1, .bool (memoryV ps).2.1, .int .i64 (memoryV ps).2.2] : Value) = .tuple #[.int .i64 0, .bool false, .int .i64 70] by simp [memoryV, hok]]; exact h
end Go.Proofs.Ytofpdjpenmhbnaa
namespace Go.Proofs.Ytofpdjpenmhbnaa
open Go Go.Kx
theorem hb77 : HasBody Try.prog 77 := hasBody Try.func77 (by kernel_rfl) (by kernel_rfl)
set_option maxHeartbeats 4000000 in
theorem rEqual_calls (w : World) (vl : Value) (ps : List (Int × Int)) (hl : SlAt w 2 vl ps.length (prs ps)) (ho : Okf ps.length (tabR ps)) :
    Cl Try.prog 38 [vl].toArray w (fun e w' => ∃ v, e = .returned v ∧ Mem w [] [.own 3 1 v ps.length (ints (eqV (tabR ps) ps.length))] w') := by
  have hk := ho.k5
  have hm : Mem w [] [] w := Mem.init w
  refine cl_enter Try.func38 rfl Try.ntmps38 rfl ?_
  refine wc_seq ?_
  refine wc_region ?_
  refine wl_y (y_assign (by conv => lhs; whnf)) ?_
  refine wl_nil ?_
  refine then_normal ?_
  refine wc_seq ?_
  refine wc_region ?_
  refine wl_y (y_move (by conv => lhs; whnf)) ?_
  refine wl_y (y_lenSl (by conv => lhs; whnf) (hl.step hm.upd) Try.underlying22) ?_
  refine wl_y (y_assign (by conv => lhs; whnf)) ?_
  refine wl_nil ?_
  refine then_normal ?_
  refine wc_seq ?_
  refine wc_region ?_
  refine wl_y (y_move (by conv => lhs; whnf)) ?_
  refine wl_makeZ hm rfl rfl Try.underlying55 ti3 rfl (by omega) (by omega) (fun W v12 hm hu => ?_)
  refine wl_y (y_assign (by conv => lhs; whnf)) ?_
  refine wl_nil ?_
  refine then_normal ?_
  refine wc_seq ?_
  refine wc_seq ?_
  refine wc_region ?_
  refine wl_y (y_assign (by conv => lhs; whnf)) ?_
  refine wl_nil ?_
  refine then_normal ?_
  refine wc_block ?_
  refine wc_loop [4, 5, 6, 7, 8, 13, 14, 15, 16, 17, 18, 19, 20, 21, 22, 23, 24, 25, 26, 27, 28, 29, 30, 31, 32, 33, 34, 35, 36, 37, 38, 39, 40, 41, 42, 43, 44, 45, 46, 47, 48, 49, 50, 51, 52, 53, 54, 55, 56, 57, 58, 59, 60, 61, 62, 63, 64, 65, 66, 67, 68, 69, 70, 71, 72, 73, 74, 75, 76, 77, 78, 79, 80, 81, 82] (fun ((j, v4) : Nat × Value) => [(5, .int .i64 (j : Int)), (4, v4)]) (fun ((j, v4) : Nat × Value) W => Mem w [] [.own 3 1 v4 ps.length (ints (eqIter (tabR ps) ps.length j))] W ∧ j ≤ ps.length) (fun ((j, v4) : Nat × Value) => ps.length - j) ((0, v12) : Nat × Value) ?_ ?_ ?_
  · exact ⟨rfl, rfl, trivial⟩
  · exact ⟨by rw [show eqIter (tabR ps) ps.length 0 = List.replicate ps.length 0 from rfl, ← ints_rep]; exact hm, Nat.zero_le _⟩
  · rintro ⟨j, v4⟩ u W ⟨hm, hj⟩
    have hcl : (eqIter (tabR ps) ps.length j).length = ps.length := eqIter_len (tabR ps) ps.length j
    refine wc_seq ?_
    refine wc_seq ?_
    refine wc_region ?_
    refine wl_y (y_move (by conv => lhs; whnf)) ?_
    refine wl_y (y_move (by conv => lhs; whnf)) ?_
    refine wl_y (y_lss rfl rfl) ?_
    refine wl_nil ?_
    refine then_normal ?_
    refine wc_cond_dec rfl (fun h1 => ?_) (fun h1 => ?_)
    · skip
      refine wc_skip ?_
      refine then_normal ?_
      refine wc_seq ?_
      refine wc_block ?_
      refine wc_seq ?_
      refine wc_region ?_
      refine wl_y (y_move (by conv => lhs; whnf)) ?_
      refine wl_makeZ hm rfl rfl Try.underlying55 ti3 rfl (by omega) (by omega) (fun W v19 hm hu => ?_)
      refine wl_y (y_assign (by conv => lhs; whnf)) ?_
      refine wl_nil ?_
      refine then_normal ?_
      refine wc_seq ?_
      refine wc_seq ?_
      refine wc_region ?_
      refine wl_y (y_assign (by conv => lhs; whnf)) ?_
      refine wl_nil ?_
      refine then_normal ?_
      refine wc_block ?_
      refine wc_loop [7, 8, 20, 21, 22, 23, 24, 25, 26, 27, 28, 29, 30, 31, 32, 33, 34, 35, 36, 37, 38, 39, 40, 41, 42, 43, 44, 45, 46, 47, 48, 49, 50, 51, 52, 53, 54, 55, 56, 57, 58, 59, 60, 61, 62, 63, 64, 65, 66, 67, 68, 69, 70, 71, 72, 73, 74, 75, 76, 77, 78, 79, 80, 81] (fun (v : Nat) => [(7, .int .i64 (v : Int))]) (fun (v : Nat) W => Mem w [] [.own 3 1 v4 ps.length (ints (eqIter (tabR ps) ps.length j)), .own 3 1 v19 ps.length (ints (nxtTo (tabR ps) (eqIter (tabR ps) ps.length j) ps.length v))] W ∧ v ≤ ps.length) (fun (v : Nat) => ps.length - v) ((0) : Nat) ?_ ?_ ?_
      · exact ⟨rfl, trivial⟩
      · exact ⟨by rw [nxtTo_zero, ← ints_rep]; exact hm, Nat.zero_le _⟩
      · rintro v u W ⟨hm, hv⟩
        refine wc_seq ?_
        refine wc_seq ?_
        refine wc_region ?_
        refine wl_y (y_move (by conv => lhs; whnf)) ?_
        refine wl_y (y_move (by conv => lhs; whnf)) ?_
        refine wl_y (y_lss rfl rfl) ?_
        refine wl_nil ?_
        refine then_normal ?_
        refine wc_cond_dec rfl (fun h2 => ?_) (fun h2 => ?_)
        · skip
          refine wc_skip ?_
          refine then_normal ?_
          refine wc_seq ?_
          refine wc_block ?_
          refine wc_seq ?_
          refine wc_region ?_
          refine wl_y (y_move (by conv => lhs; whnf)) ?_
          refine wl_y (y_move (by conv => lhs; whnf)) ?_
          refine wl_y (y_move (by conv => lhs; whnf)) ?_
          refine wl_y (y_indexAddr (by conv => lhs; whnf) rfl (hm.slAt 1 rfl) (by omega) Try.underlying55 ti3 (by decide)) ?_
          refine wl_storeOwn1 (i := 1) (v := .int .i64 (v : Int)) hm rfl rfl rfl ti3 (by simp [nxtTo_len]; omega) rfl rfl (fun W hm => ?_)
          rw [ints_setN] at hm
          refine wl_nil ?_
          refine then_normal ?_
          refine wc_seq ?_
          refine wc_region ?_
          refine wl_y (y_move (by conv => lhs; whnf)) ?_
          refine wl_y (y_sub64 rfl rfl (by omega)) ?_
          refine wl_y (y_assign (by conv => lhs; whnf)) ?_
          refine wl_nil ?_
          refine then_normal ?_
          refine wc_block ?_
          refine wc_loop [8, 31, 32, 33, 34, 35, 36, 37, 38, 39, 40, 41, 42, 43, 44, 45, 46, 47, 48, 49, 50, 51, 52, 53, 54, 55, 56, 57, 58, 59, 60, 61, 62, 63, 64, 65, 66, 67, 68, 69, 70, 71, 72, 73, 74, 75, 76, 77, 78, 79, 80, 81] (fun ((a, low) : Int × Nat) => [(8, .int .i64 a)]) (fun ((a, low) : Int × Nat) W => Mem w [] [.own 3 1 v4 ps.length (ints (eqIter (tabR ps) ps.length j)), .own 3 1 v19 ps.length (ints ((nxtTo (tabR ps) (eqIter (tabR ps) ps.length j) ps.length v).set v (low : Int)))] W ∧ (-1 ≤ a ∧ a < v) ∧ LowOk (tabR ps) (eqIter (tabR ps) ps.length j) v a low) (fun ((a, low) : Int × Nat) => (a + 1).toNat) (((v : Int) - 1, v) : Int × Nat) ?_ ?_ ?_
          · exact ⟨rfl, trivial⟩
          · exact ⟨hm, by omega, low_start _ _ _⟩
          · rintro ⟨a, low⟩ u W ⟨hm, ha, hlow⟩
            refine wc_seq ?_
            refine wc_seq ?_
            refine wc_region ?_
            refine wl_y (y_move (by conv => lhs; whnf)) ?_
            refine wl_y (y_geq rfl rfl) ?_
            refine wl_nil ?_
            refine then_normal ?_
            refine wc_cond_dec rfl (fun h3 => ?_) (fun h3 => ?_)
            · obtain ⟨un, rfl⟩ : ∃ un : Nat, a = un := ⟨a.toNat, by omega⟩
              have hlo0 := ho.hi un 0 (by omega) (by decide)
              have hlo1 := ho.hi un 1 (by omega) (by decide)
              have hlo2 := ho.hi v 0 (by omega) (by decide)
              have hlo3 := ho.hi v 1 (by omega) (by decide)
              refine wc_skip ?_
              refine then_normal ?_
              refine wc_seq ?_
              refine wc_block ?_
              refine wc_seq ?_
              refine wc_quiet (C := fun W => Mem w [] [.own 3 1 v4 ps.length (ints (eqIter (tabR ps) ps.length j)), .own 3 1 v19 ps.length (ints ((nxtTo (tabR ps) (eqIter (tabR ps) ps.length j) ps.length v).set v (low : Int)))] W) mix (by kernel_rfl) (by kernel_rfl) (hm.step (upd_drew _)) ?_
              refine q_y (fun W hm => y_move (by conv => lhs; whnf)) ?_
              refine q_y (fun W hm => y_move (by conv => lhs; whnf)) ?_
              refine q_y (fun W hm => y_indexAddr (by conv => lhs; whnf) rfl (hm.slAt 0 rfl) (by omega) Try.underlying55 ti3 (by decide)) ?_
              refine q_y (fun W hm => y_loadSl rfl (hm.slAt 0 rfl) (ints_atI (by rw [hcl]; omega)) Try.underlying3 rfl) ?_
              refine q_y (fun W hm => y_move (by conv => lhs; whnf)) ?_
              refine q_y (fun W hm => y_move (by conv => lhs; whnf)) ?_
              refine q_y (fun W hm => y_indexAddr (by conv => lhs; whnf) rfl (hm.slAt 0 rfl) (by omega) Try.underlying55 ti3 (by decide)) ?_
              refine q_y (fun W hm => y_loadSl rfl (hm.slAt 0 rfl) (ints_atI (by rw [hcl]; omega)) Try.underlying3 rfl) ?_
              refine q_y (fun W hm => y_eql rfl rfl) ?_
              refine q_split rfl (fun h4 => ?_) (fun h4 => ?_)
              · have hk1 := h4
                refine q_guard_yes rfl ?_
                refine q_y (fun W hm => y_move (by conv => lhs; whnf)) ?_
                refine q_guard_yes rfl ?_
                refine q_y (fun W hm => y_move (by conv => lhs; whnf)) ?_
                refine q_guard_yes rfl ?_
                refine q_y (fun W hm => y_move (by conv => lhs; whnf)) ?_
                refine q_guard_yes rfl ?_
                refine q_y (fun W hm => y_indexAddr (by conv => lhs; whnf) rfl (hl.step hm.upd) (by omega) Try.underlying22 ti27 (by decide)) ?_
                refine q_guard_yes rfl ?_
                refine q_y (fun W hm => y_indexArrSl rfl rfl (hl.step hm.upd) (by simp; omega) (by omega) Try.underlying27 ti3) ?_
                refine q_guard_yes rfl ?_
                refine q_y (fun W hm => y_loadSl rfl (hl.step hm.upd) (by first | exact tabR_at0 (by omega) | exact tabR_at1 (by omega)) Try.underlying3 rfl) ?_
                refine q_guard_yes rfl ?_
                refine q_callR hb77 (fun W hm => goes_calls W _ (eqIter (tabR ps) ps.length j) (tabR ps un 0) (by rw [hcl]; exact hm.slAt 0 rfl) (by rw [hcl]; omega)) rfl rfl ?_
                refine q_guard_yes rfl ?_
                refine q_y (fun W hm => y_move (by conv => lhs; whnf)) ?_
                refine q_guard_yes rfl ?_
                refine q_y (fun W hm => y_move (by conv => lhs; whnf)) ?_
                refine q_guard_yes rfl ?_
                refine q_y (fun W hm => y_move (by conv => lhs; whnf)) ?_
                refine q_guard_yes rfl ?_
                refine q_y (fun W hm => y_indexAddr (by conv => lhs; whnf) rfl (hl.step hm.upd) (by omega) Try.underlying22 ti27 (by decide)) ?_
                refine q_guard_yes rfl ?_
                refine q_y (fun W hm => y_indexArrSl rfl rfl (hl.step hm.upd) (by simp; omega) (by omega) Try.underlying27 ti3) ?_
                refine q_guard_yes rfl ?_
                refine q_y (fun W hm => y_loadSl rfl (hl.step hm.upd) (by first | exact tabR_at0 (by omega) | exact tabR_at1 (by omega)) Try.underlying3 rfl) ?_
                refine q_guard_yes rfl ?_
                refine q_callR hb77 (fun W hm => goes_calls W _ (eqIter (tabR ps) ps.length j) (tabR ps v 0) (by rw [hcl]; exact hm.slAt 0 rfl) (by rw [hcl]; omega)) rfl rfl ?_
                refine q_guard_yes rfl ?_
                refine q_y (fun W hm => y_eql rfl rfl) ?_
                refine q_y (fun W hm => y_pick_true rfl (by conv => lhs; whnf)) ?_
                refine q_split rfl (fun h5 => ?_) (fun h5 => ?_)
                · have hk2 := h5
                  rw [goes_kx, goes_kx] at hk2
                  refine q_guard_yes rfl ?_
                  refine q_y (fun W hm => y_move (by conv => lhs; whnf)) ?_
                  refine q_guard_yes rfl ?_
                  refine q_y (fun W hm => y_move (by conv => lhs; whnf)) ?_
                  refine q_guard_yes rfl ?_
                  refine q_y (fun W hm => y_move (by conv => lhs; whnf)) ?_
                  refine q_guard_yes rfl ?_
                  refine q_y (fun W hm => y_indexAddr (by conv => lhs; whnf) rfl (hl.step hm.upd) (by omega) Try.underlying22 ti27 (by decide)) ?_
                  refine q_guard_yes rfl ?_
                  refine q_y (fun W hm => y_indexArrSl rfl rfl (hl.step hm.upd) (by simp; omega) (by omega) Try.underlying27 ti3) ?_
                  refine q_guard_yes rfl ?_
                  refine q_y (fun W hm => y_loadSl rfl (hl.step hm.upd) (by first | exact tabR_at0 (by omega) | exact tabR_at1 (by omega)) Try.underlying3 rfl) ?_
                  refine q_guard_yes rfl ?_
                  refine q_callR hb77 (fun W hm => goes_calls W _ (eqIter (tabR ps) ps.length j) (tabR ps un 1) (by rw [hcl]; exact hm.slAt 0 rfl) (by rw [hcl]; omega)) rfl rfl ?_
                  refine q_guard_yes rfl ?_
                  refine q_y (fun W hm => y_move (by conv => lhs; whnf)) ?_
                  refine q_guard_yes rfl ?_
                  refine q_y (fun W hm => y_move (by conv => lhs; whnf)) ?_
                  refine q_guard_yes rfl ?_
                  refine q_y (fun W hm => y_move (by conv => lhs; whnf)) ?_
                  refine q_guard_yes rfl ?_
                  refine q_y (fun W hm => y_indexAddr (by conv => lhs; whnf) rfl (hl.step hm.upd) (by omega) Try.underlying22 ti27 (by decide)) ?_
                  refine q_guard_yes rfl ?_
                  refine q_y (fun W hm => y_indexArrSl rfl rfl (hl.step hm.upd) (by simp; omega) (by omega) Try.underlying27 ti3) ?_
                  refine q_guard_yes rfl ?_
                  refine q_y (fun W hm => y_loadSl rfl (hl.step hm.upd) (by first | exact tabR_at0 (by omega) | exact tabR_at1 (by omega)) Try.underlying3 rfl) ?_
                  refine q_guard_yes rfl ?_
                  refine q_callR hb77 (fun W hm => goes_calls W _ (eqIter (tabR ps) ps.length j) (tabR ps v 1) (by rw [hcl]; exact hm.slAt 0 rfl) (by rw [hcl]; omega)) rfl rfl ?_
                  refine q_guard_yes rfl ?_
                  refine q_y (fun W hm => y_eql rfl rfl) ?_
                  refine q_y (fun W hm => y_pick_true rfl (by conv => lhs; whnf)) ?_
                  refine q_nil (fun W hm => ?_)
                  refine then_normal ?_
                  refine wc_cond_dec rfl (fun h6 => ?_) (fun h6 => ?_)
                  · have hk3 := h6
                    rw [goes_kx, goes_kx] at hk3
                    have hky : keyA (tabR ps) (eqIter (tabR ps) ps.length j) un = keyA (tabR ps) (eqIter (tabR ps) ps.length j) v := keyA_iff.2 ⟨hk1, hk2, hk3⟩
                    refine wc_region ?_
                    refine wl_y (y_move (by conv => lhs; whnf)) ?_
                    refine wl_y (y_move (by conv => lhs; whnf)) ?_
                    refine wl_y (y_move (by conv => lhs; whnf)) ?_
                    refine wl_y (y_indexAddr (by conv => lhs; whnf) rfl (hm.slAt 1 rfl) (by omega) Try.underlying55 ti3 (by decide)) ?_
                    refine wl_storeOwn1 (i := 1) (v := .int .i64 (un : Int)) hm rfl rfl rfl ti3 (by simp [nxtTo_len]; omega) rfl rfl (fun W hm => ?_)
                    rw [ints_setN, List.set_set] at hm
                    refine wl_nil ?_
                    refine block_normal ?_
                    refine then_normal ?_
                    refine wc_region ?_
                    refine wl_y (y_move (by conv => lhs; whnf)) ?_
                    refine wl_y (y_sub64 rfl rfl (by omega)) ?_
                    refine wl_y (y_assign (by conv => lhs; whnf)) ?_
                    refine wl_nil ?_
                    refine next_round (σ := Int × Nat) ((un : Int) - 1, un) rfl (by repeat first | exact out_hav | refine out_look rfl ?_ | refine out_havIn rfl ?_) ⟨rfl, trivial⟩ ⟨hm, by omega, low_yes hlow hky⟩ (by (try dsimp only); omega)
                  · have hkn : ¬ keyA (tabR ps) (eqIter (tabR ps) ps.length j) un = keyA (tabR ps) (eqIter (tabR ps) ps.length j) v := fun hh => h6 (by rw [goes_kx, goes_kx]; exact (keyA_iff.1 hh).2.2)
                    refine wc_skip ?_
                    refine block_normal ?_
                    refine then_normal ?_
                    refine wc_region ?_
                    refine wl_y (y_move (by conv => lhs; whnf)) ?_
                    refine wl_y (y_sub64 rfl rfl (by omega)) ?_
                    refine wl_y (y_assign (by conv => lhs; whnf)) ?_
                    refine wl_nil ?_
                    refine next_round (σ := Int × Nat) ((un : Int) - 1, low) rfl (by repeat first | exact out_hav | refine out_look rfl ?_ | refine out_havIn rfl ?_) ⟨rfl, trivial⟩ ⟨hm, by omega, low_no hlow hkn⟩ (by (try dsimp only); omega)
                · have hkn : ¬ keyA (tabR ps) (eqIter (tabR ps) ps.length j) un = keyA (tabR ps) (eqIter (tabR ps) ps.length j) v := fun hh => h5 (by rw [goes_kx, goes_kx]; exact (keyA_iff.1 hh).2.1)
                  refine q_guard_no rfl ?_
                  refine q_guard_no rfl ?_
                  refine q_guard_no rfl ?_
                  refine q_guard_no rfl ?_
                  refine q_guard_no rfl ?_
                  refine q_guard_no rfl ?_
                  refine q_guard_no rfl ?_
                  refine q_guard_no rfl ?_
                  refine q_guard_no rfl ?_
                  refine q_guard_no rfl ?_
                  refine q_guard_no rfl ?_
                  refine q_guard_no rfl ?_
                  refine q_guard_no rfl ?_
                  refine q_guard_no rfl ?_
                  refine q_guard_no rfl ?_
                  refine q_y (fun W hm => y_pick_false rfl (by conv => lhs; whnf)) ?_
                  refine q_nil (fun W hm => ?_)
                  refine then_normal ?_
                  refine wc_cond_false rfl ?_
                  refine wc_skip ?_
                  refine block_normal ?_
                  refine then_normal ?_
                  refine wc_region ?_
                  refine wl_y (y_move (by conv => lhs; whnf)) ?_
                  refine wl_y (y_sub64 rfl rfl (by omega)) ?_
                  refine wl_y (y_assign (by conv => lhs; whnf)) ?_
                  refine wl_nil ?_
                  refine next_round (σ := Int × Nat) ((un : Int) - 1, low) rfl (by repeat first | exact out_hav | refine out_look rfl ?_ | refine out_havIn rfl ?_) ⟨rfl, trivial⟩ ⟨hm, by omega, low_no hlow hkn⟩ (by (try dsimp only); omega)
              · have hkn : ¬ keyA (tabR ps) (eqIter (tabR ps) ps.length j) un = keyA (tabR ps) (eqIter (tabR ps) ps.length j) v := fun hh => h4 (keyA_iff.1 hh).1
                refine q_guard_no rfl ?_
                refine q_guard_no rfl ?_
                refine q_guard_no rfl ?_
                refine q_guard_no rfl ?_
                refine q_guard_no rfl ?_
                refine q_guard_no rfl ?_
                refine q_guard_no rfl ?_
                refine q_guard_no rfl ?_
                refine q_guard_no rfl ?_
                refine q_guard_no rfl ?_
                refine q_guard_no rfl ?_
                refine q_guard_no rfl ?_
                refine q_guard_no rfl ?_
                refine q_guard_no rfl ?_
                refine q_guard_no rfl ?_
                refine q_y (fun W hm => y_pick_false rfl (by conv => lhs; whnf)) ?_
                refine q_y (fun W hm => y_move (by conv => lhs; whnf)) ?_
                refine q_guard_no rfl ?_
                refine q_guard_no rfl ?_
                refine q_guard_no rfl ?_
                refine q_guard_no rfl ?_
                refine q_guard_no rfl ?_
                refine q_guard_no rfl ?_
                refine q_guard_no rfl ?_
                refine q_guard_no rfl ?_
                refine q_guard_no rfl ?_
                refine q_guard_no rfl ?_
                refine q_guard_no rfl ?_
                refine q_guard_no rfl ?_
                refine q_guard_no rfl ?_
                refine q_guard_no rfl ?_
                refine q_guard_no rfl ?_
                refine q_y (fun W hm => y_pick_false rfl (by conv => lhs; whnf)) ?_
                refine q_nil (fun W hm => ?_)
                refine then_normal ?_
                refine wc_cond_false rfl ?_
                refine wc_skip ?_
                refine block_normal ?_
                refine then_normal ?_
                refine wc_region ?_
                refine wl_y (y_move (by conv => lhs; whnf)) ?_
                refine wl_y (y_sub64 rfl rfl (by omega)) ?_
                refine wl_y (y_assign (by conv => lhs; whnf)) ?_
                refine wl_nil ?_
                refine next_round (σ := Int × Nat) ((un : Int) - 1, low) rfl (by repeat first | exact out_hav | refine out_look rfl ?_ | refine out_havIn rfl ?_) ⟨rfl, trivial⟩ ⟨hm, by omega, low_no hlow hkn⟩ (by (try dsimp only); omega)
            · obtain rfl : a = -1 := by omega
              have hlc := low_end hlow
              subst hlc
              rw [nxtTo_set (by omega)] at hm
              refine wc_exit ?_
              refine then_exit ?_
              refine then_exit ?_
              refine block_exit ?_
              refine block_normal ?_
              refine then_normal ?_
              refine wc_region ?_
              refine wl_y (y_move (by conv => lhs; whnf)) ?_
              refine wl_y (y_add64 rfl rfl (by omega)) ?_
              refine wl_y (y_assign (by conv => lhs; whnf)) ?_
              refine wl_nil ?_
              refine next_round (σ := Nat) (v + 1) rfl (by repeat first | exact out_hav | refine out_look rfl ?_ | refine out_havIn rfl ?_) ⟨rfl, trivial⟩ ⟨hm, by omega⟩ (by (try dsimp only); omega)
        · obtain rfl : v = ps.length := by omega
          refine wc_exit ?_
          refine then_exit ?_
          refine then_exit ?_
          refine block_exit ?_
          refine then_normal ?_
          refine wc_region ?_
          refine wl_y (y_move (by conv => lhs; whnf)) ?_
          refine wl_y (y_assign (by conv => lhs; whnf)) ?_
          refine wl_nil ?_
          refine block_normal ?_
          refine then_normal ?_
          refine wc_region ?_
          refine wl_y (y_move (by conv => lhs; whnf)) ?_
          refine wl_y (y_add64 rfl rfl (by omega)) ?_
          refine wl_y (y_assign (by conv => lhs; whnf)) ?_
          refine wl_nil ?_
          refine next_round (σ := Nat × Value) (j + 1, v19) rfl (by repeat first | exact out_hav | refine out_look rfl ?_ | refine out_havIn rfl ?_) ⟨rfl, rfl, trivial⟩ ⟨by rw [eqIter, ← nxtTo_end]; exact hm.drop 1, by omega⟩ (by (try dsimp only); omega)
    · obtain rfl : j = ps.length := by omega
      refine wc_exit ?_
      refine then_exit ?_
      refine then_exit ?_
      refine block_exit ?_
      refine then_normal ?_
      refine wc_seq ?_
      refine wc_region ?_
      refine wl_y (y_move (by conv => lhs; whnf)) ?_
      refine wl_y (y_assign (by conv => lhs; whnf)) ?_
      refine wl_nil ?_
      refine then_normal ?_
      refine wc_ret ?_
      refine post_ret (results_fr rfl) ?_
      exact ⟨_, rfl, hm⟩
end Go.Proofs.Ytofpdjpenmhbnaa
namespace Go.Proofs.Ytofpdjpenmhbnaa
open Go Go.Kx
theorem hb38 : HasBody Try.prog 38 := hasBody Try.func38 (by kernel_rfl) (by kernel_rfl)
theorem row_set {f : Nat → Nat → Int} {c : List Int} {v x : Nat} (hx : x < 2) : [Value.int .i64 (rowX f c v x).1, Value.int .i64 (rowX f c v x).2].set (0 + (x : Int).toNat * 1) (.int .i64 (fval f c v x)) = [.int .i64 (rowX f c v (x + 1)).1, .int .i64 (rowX f c v (x + 1)).2] := by
  obtain rfl | rfl : x = 0 ∨ x = 1 := by omega
  · rfl
  · rfl
theorem row_skip {f : Nat → Nat → Int} {c : List Int} {v x : Nat} (hx : x < 2) (h : ¬ 0 ≤ f v x) : rowX f c v x = rowX f c v (x + 1) := by
  obtain rfl | rfl : x = 0 ∨ x = 1 := by omega
  · simp [rowX, fval, h]
  · simp [rowX, fval, h]

set_option maxHeartbeats 4000000 in
theorem rForm_calls (w : World) (vl : Value) (ps : List (Int × Int)) (hl : SlAt w 2 vl ps.length (prs ps)) (ho : Okf ps.length (tabR ps)) :
    Cl Try.prog 19 [vl].toArray w (fun e w' => ∃ v, e = .returned v ∧ Mem w [] [.own 27 2 v (formL (tabR ps) (eqV (tabR ps) ps.length) ps.length).length (prs (formL (tabR ps) (eqV (tabR ps) ps.length) ps.length))] w') := by
  have hk := ho.k5
  have hcan : Canon ps.length (eqV (tabR ps) ps.length) := eqIter_canon _ _ _
  have hcl := hcan.len
  have hm : Mem w [] [] w := Mem.init w
  refine cl_enter Try.func19 rfl Try.ntmps19 rfl ?_
  refine wc_seq ?_
  refine wc_region ?_
  refine wl_y (y_assign (by conv => lhs; whnf)) ?_
  refine wl_nil ?_
  refine then_normal ?_
  refine wc_seq ?_
  refine wc_region ?_
  refine wl_y (y_move (by conv => lhs; whnf)) ?_
  refine wl_call hb38 (rEqual_calls _ _ _ (hl.step hm.upd) ho) rfl rfl (fun e W h => ?_)
  obtain ⟨v13, rfl, h13⟩ := h
  refine ⟨_, rfl, ?_⟩
  have hm := hm.call h13
  refine wl_y (y_assign (by conv => lhs; whnf)) ?_
  refine wl_nil ?_
  refine then_normal ?_
  refine wc_seq ?_
  refine wc_region ?_
  refine wl_y (y_move (by conv => lhs; whnf)) ?_
  refine wl_y (y_lenSl (by conv => lhs; whnf) (hl.step hm.upd) Try.underlying22) ?_
  refine wl_makeZ hm rfl rfl Try.underlying55 ti3 rfl (by omega) (by omega) (fun W v16 hm hu => ?_)
  refine wl_y (y_assign (by conv => lhs; whnf)) ?_
  refine wl_nil ?_
  refine then_normal ?_
  refine wc_seq ?_
  refine wc_region ?_
  refine wl_y (y_assign (by conv => lhs; whnf)) ?_
  refine wl_nil ?_
  refine then_normal ?_
  refine wc_seq ?_
  refine wc_seq ?_
  refine wc_region ?_
  refine wl_y (y_assign (by conv => lhs; whnf)) ?_
  refine wl_nil ?_
  refine then_normal ?_
  refine wc_block ?_
  refine wc_loop [5, 6, 17, 18, 19, 20, 21, 22, 23, 24, 25, 26, 27, 28, 29, 30, 31, 32, 33, 34] (fun (v : Nat) => [(6, .int .i64 (v : Int)), (5, .int .i64 (rk (eqV (tabR ps) ps.length) v : Nat))]) (fun (v : Nat) W => Mem w [] [.own 3 1 v13 ps.length (ints (eqV (tabR ps) ps.length)), .own 3 1 v16 ps.length (ints (numL (eqV (tabR ps) ps.length) ps.length v))] W ∧ v ≤ ps.length) (fun (v : Nat) => ps.length - v) ((0) : Nat) ?_ ?_ ?_
  · exact ⟨rfl, rfl, trivial⟩
  · exact ⟨by rw [numL_zero, ← ints_rep]; exact hm, Nat.zero_le _⟩
  · rintro v u W ⟨hm, hv⟩
    refine wc_seq ?_
    refine wc_seq ?_
    refine wc_region ?_
    refine wl_y (y_move (by conv => lhs; whnf)) ?_
    refine wl_y (y_move (by conv => lhs; whnf)) ?_
    refine wl_y (y_lenSl (by conv => lhs; whnf) (hl.step hm.upd) Try.underlying22) ?_
    refine wl_y (y_lss rfl rfl) ?_
    refine wl_nil ?_
    refine then_normal ?_
    refine wc_cond_dec rfl (fun h1 => ?_) (fun h1 => ?_)
    · have hrl := rk_le (eqV (tabR ps) ps.length) v
      refine wc_skip ?_
      refine then_normal ?_
      refine wc_seq ?_
      refine wc_block ?_
      refine wc_seq ?_
      refine wc_region ?_
      refine wl_y (y_move (by conv => lhs; whnf)) ?_
      refine wl_y (y_move (by conv => lhs; whnf)) ?_
      refine wl_y (y_indexAddr (by conv => lhs; whnf) rfl (hm.slAt 0 rfl) (by omega) Try.underlying55 ti3 (by decide)) ?_
      refine wl_y (y_loadSl rfl (hm.slAt 0 rfl) (by first | exact ints_atN (by omega) | exact ints_atI (by omega)) Try.underlying3 rfl) ?_
      refine wl_y (y_move (by conv => lhs; whnf)) ?_
      refine wl_y (y_eql rfl rfl) ?_
      refine wl_nil ?_
      refine then_normal ?_
      refine wc_cond_dec rfl (fun h2 => ?_) (fun h2 => ?_)
      · have hfx : isFix (eqV (tabR ps) ps.length) v := h2
        refine wc_seq ?_
        refine wc_region ?_
        refine wl_y (y_move (by conv => lhs; whnf)) ?_
        refine wl_y (y_move (by conv => lhs; whnf)) ?_
        refine wl_y (y_move (by conv => lhs; whnf)) ?_
        refine wl_y (y_indexAddr (by conv => lhs; whnf) rfl (hm.slAt 1 rfl) (by omega) Try.underlying55 ti3 (by decide)) ?_
        refine wl_storeOwn1 (i := 1) (v := .int .i64 (rk (eqV (tabR ps) ps.length) v : Nat)) hm rfl rfl rfl ti3 (by simp [numL_len]; omega) rfl rfl (fun W hm => ?_)
        rw [ints_setN, numL_set (by omega) hfx] at hm
        refine wl_nil ?_
        refine then_normal ?_
        refine wc_region ?_
        refine wl_y (y_move (by conv => lhs; whnf)) ?_
        refine wl_y (y_add64 rfl rfl (by omega)) ?_
        refine wl_y (y_assign (by conv => lhs; whnf)) ?_
        refine wl_nil ?_
        refine block_normal ?_
        refine then_normal ?_
        refine wc_region ?_
        refine wl_y (y_move (by conv => lhs; whnf)) ?_
        refine wl_y (y_add64 rfl rfl (by omega)) ?_
        refine wl_y (y_assign (by conv => lhs; whnf)) ?_
        refine wl_nil ?_
        refine next_round (σ := Nat) (v + 1) rfl (by repeat first | exact out_hav | refine out_look rfl ?_ | refine out_havIn rfl ?_) ⟨rfl, (by rw [rk, if_pos hfx]; rfl), trivial⟩ ⟨hm, by omega⟩ (by (try dsimp only); omega)
      · have hfx : ¬ isFix (eqV (tabR ps) ps.length) v := h2
        refine wc_skip ?_
        refine block_normal ?_
        refine then_normal ?_
        refine wc_region ?_
        refine wl_y (y_move (by conv => lhs; whnf)) ?_
        refine wl_y (y_add64 rfl rfl (by omega)) ?_
        refine wl_y (y_assign (by conv => lhs; whnf)) ?_
        refine wl_nil ?_
        refine next_round (σ := Nat) (v + 1) rfl (by repeat first | exact out_hav | refine out_look rfl ?_ | refine out_havIn rfl ?_) ⟨rfl, (by rw [rk, if_neg hfx]; rfl), trivial⟩ ⟨by rw [← numL_skip hfx]; exact hm, by omega⟩ (by (try dsimp only); omega)
    · obtain rfl : v = ps.length := by omega
      refine wc_exit ?_
      refine then_exit ?_
      refine then_exit ?_
      refine block_exit ?_
      refine then_normal ?_
      refine wc_seq ?_
      refine wc_region ?_
      refine wl_y (y_assign (by conv => lhs; whnf)) ?_
      have hm := hm.ownNil 27 2
      refine wl_nil ?_
      refine then_normal ?_
      refine wc_seq ?_
      refine wc_seq ?_
      refine wc_region ?_
      refine wl_y (y_assign (by conv => lhs; whnf)) ?_
      refine wl_nil ?_
      refine then_normal ?_
      refine wc_block ?_
      refine wc_loop [7, 8, 9, 10, 11, 35, 36, 37, 38, 39, 40, 41, 42, 43, 44, 45, 46, 47, 48, 49, 50, 51, 52, 53, 54, 55, 56, 57, 58, 59, 60, 61, 62, 63, 64, 65, 66, 67, 68, 69, 70, 71, 72] (fun ((v, vo) : Nat × Value) => [(8, .int .i64 (v : Int)), (7, vo)]) (fun ((v, vo) : Nat × Value) W => Mem w [] [.own 3 1 v13 ps.length (ints (eqV (tabR ps) ps.length)), .own 3 1 v16 ps.length (ints (numL (eqV (tabR ps) ps.length) ps.length ps.length)), .own 27 2 vo (formL (tabR ps) (eqV (tabR ps) ps.length) v).length (prs (formL (tabR ps) (eqV (tabR ps) ps.length) v))] W ∧ v ≤ ps.length) (fun ((v, vo) : Nat × Value) => ps.length - v) ((0, .slice none 0 0) : Nat × Value) ?_ ?_ ?_
      · exact ⟨rfl, rfl, trivial⟩
      · exact ⟨hm, Nat.zero_le _⟩
      · rintro ⟨v, vo⟩ u W ⟨hm, hv⟩
        refine wc_seq ?_
        refine wc_seq ?_
        refine wc_region ?_
        refine wl_y (y_move (by conv => lhs; whnf)) ?_
        refine wl_y (y_move (by conv => lhs; whnf)) ?_
        refine wl_y (y_lenSl (by conv => lhs; whnf) (hl.step hm.upd) Try.underlying22) ?_
        refine wl_y (y_lss rfl rfl) ?_
        refine wl_nil ?_
        refine then_normal ?_
        refine wc_cond_dec rfl (fun h3 => ?_) (fun h3 => ?_)
        · skip
          refine wc_skip ?_
          refine then_normal ?_
          refine wc_seq ?_
          refine wc_block ?_
          refine wc_seq ?_
          refine wc_seq ?_
          refine wc_region ?_
          refine wl_y (y_move (by conv => lhs; whnf)) ?_
          refine wl_y (y_move (by conv => lhs; whnf)) ?_
          refine wl_y (y_indexAddr (by conv => lhs; whnf) rfl (hm.slAt 0 rfl) (by omega) Try.underlying55 ti3 (by decide)) ?_
          refine wl_y (y_loadSl rfl (hm.slAt 0 rfl) (by first | exact ints_atN (by omega) | exact ints_atI (by omega)) Try.underlying3 rfl) ?_
          refine wl_y (y_move (by conv => lhs; whnf)) ?_
          refine wl_y (y_neq rfl rfl) ?_
          refine wl_nil ?_
          refine then_normal ?_
          refine wc_cond_dec rfl (fun h4 => ?_) (fun h4 => ?_)
          · have hfx : ¬ isFix (eqV (tabR ps) ps.length) v := h4
            refine wc_exit ?_
            refine then_exit ?_
            refine block_exit ?_
            refine then_normal ?_
            refine wc_region ?_
            refine wl_y (y_move (by conv => lhs; whnf)) ?_
            refine wl_y (y_add64 rfl rfl (by omega)) ?_
            refine wl_y (y_assign (by conv => lhs; whnf)) ?_
            refine wl_nil ?_
            refine next_round (σ := Nat × Value) (v + 1, vo) rfl (by repeat first | exact out_hav | refine out_look rfl ?_ | refine out_havIn rfl ?_) ⟨rfl, rfl, trivial⟩ ⟨by rw [show formL (tabR ps) (eqV (tabR ps) ps.length) (v + 1) = formL (tabR ps) (eqV (tabR ps) ps.length) v by rw [formL, if_neg hfx]]; exact hm, by omega⟩ (by (try dsimp only); omega)
          · have hfx : isFix (eqV (tabR ps) ps.length) v := Decidable.not_not.1 h4
            refine wc_skip ?_
            refine then_normal ?_
            refine wc_seq ?_
            refine wc_region ?_
            refine wl_y (y_buildL (cells := #[.int .i64 (-1), .int .i64 (-1)]) rfl (by kernel_rfl)) ?_
            refine wl_alloc hm ti27 (fun W b9 hm hb9 hu => ?_)
            refine wl_storeBlk (i := 3) (vs := [.int .i64 (rowX (tabR ps) (eqV (tabR ps) ps.length) v 0).1, .int .i64 (rowX (tabR ps) (eqV (tabR ps) ps.length) v 0).2]) hm rfl rfl rfl ti27 rfl rfl (by simp [Value.oneCell']) (fun W hm => ?_)
            refine wl_nil ?_
            refine then_normal ?_
            refine wc_seq ?_
            refine wc_seq ?_
            refine wc_region ?_
            refine wl_y (y_assign (by conv => lhs; whnf)) ?_
            refine wl_nil ?_
            refine then_normal ?_
            refine wc_block ?_
            refine wc_loop [10, 11, 48, 49, 50, 51, 52, 53, 54, 55, 56, 57, 58, 59, 60, 61, 62, 63, 64, 65, 66, 67, 68] (fun (x : Nat) => [(10, .int .i64 (x : Int))]) (fun (x : Nat) W => Mem w [] [.own 3 1 v13 ps.length (ints (eqV (tabR ps) ps.length)), .own 3 1 v16 ps.length (ints (numL (eqV (tabR ps) ps.length) ps.length ps.length)), .own 27 2 vo (formL (tabR ps) (eqV (tabR ps) ps.length) v).length (prs (formL (tabR ps) (eqV (tabR ps) ps.length) v)), .blk b9 27 [.int .i64 (rowX (tabR ps) (eqV (tabR ps) ps.length) v x).1, .int .i64 (rowX (tabR ps) (eqV (tabR ps) ps.length) v x).2]] W ∧ x ≤ 2) (fun (x : Nat) => 2 - x) ((0) : Nat) ?_ ?_ ?_
            · exact ⟨rfl, trivial⟩
            · exact ⟨hm, Nat.zero_le _⟩
            · rintro x u W ⟨hm, hx⟩
              refine wc_seq ?_
              refine wc_seq ?_
              refine wc_region ?_
              refine wl_y (y_move (by conv => lhs; whnf)) ?_
              refine wl_y (y_lss rfl rfl) ?_
              refine wl_nil ?_
              refine then_normal ?_
              refine wc_cond_dec rfl (fun h5 => ?_) (fun h5 => ?_)
              · have hlo := ho.lo v x (by omega) (by omega)
                have hhi := ho.hi v x (by omega) (by omega)
                refine wc_skip ?_
                refine then_normal ?_
                refine wc_seq ?_
                refine wc_block ?_
                refine wc_seq ?_
                refine wc_region ?_
                refine wl_y (y_move (by conv => lhs; whnf)) ?_
                refine wl_y (y_move (by conv => lhs; whnf)) ?_
                refine wl_y (y_move (by conv => lhs; whnf)) ?_
                refine wl_y (y_indexAddr (by conv => lhs; whnf) rfl (hl.step hm.upd) (by omega) Try.underlying22 ti27 (by decide)) ?_
                refine wl_y (y_indexArrSl rfl rfl (hl.step hm.upd) (by simp; omega) (by omega) Try.underlying27 ti3) ?_
                refine wl_y (y_loadSl rfl (hl.step hm.upd) (tabR_at (by omega) (by omega)) Try.underlying3 rfl) ?_
                refine wl_y (y_assign (by conv => lhs; whnf)) ?_
                refine wl_nil ?_
                refine then_normal ?_
                refine wc_seq ?_
                refine wc_region ?_
                refine wl_y (y_move (by conv => lhs; whnf)) ?_
                refine wl_y (y_geq rfl rfl) ?_
                refine wl_nil ?_
                refine then_normal ?_
                refine wc_cond_dec rfl (fun h6 => ?_) (fun h6 => ?_)
                · have hge := h6
                  have hcr := cls_range hcan (v := (tabR ps v x).toNat) (by omega)
                  refine wc_region ?_
                  refine wl_y (y_move (by conv => lhs; whnf)) ?_
                  refine wl_y (y_move (by conv => lhs; whnf)) ?_
                  refine wl_y (y_move (by conv => lhs; whnf)) ?_
                  refine wl_y (y_move (by conv => lhs; whnf)) ?_
                  refine wl_y (y_indexAddr (by conv => lhs; whnf) rfl (hm.slAt 0 rfl) (by omega) Try.underlying55 ti3 (by decide)) ?_
                  refine wl_y (y_loadSl (w := .int .i64 ((eqV (tabR ps) ps.length).getD (tabR ps v x).toNat 0)) rfl (hm.slAt 0 rfl) (ints_atI (by rw [hcl]; omega)) Try.underlying3 rfl) ?_
                  refine wl_y (y_indexAddr (by conv => lhs; whnf) rfl (hm.slAt 1 rfl) (by omega) Try.underlying55 ti3 (by decide)) ?_
                  refine wl_y (y_loadSl (w := .int .i64 (fval (tabR ps) (eqV (tabR ps) ps.length) v x)) rfl (hm.slAt 1 rfl) (by rw [← fval_cls hcan hge (by omega)]; exact ints_atI (by rw [numL_len]; exact hcr)) Try.underlying3 rfl) ?_
                  refine wl_y (y_indexArr rfl rfl (by omega) Try.underlying27 ti3) ?_
                  refine wl_store1 (i := 3) (v := .int .i64 (fval (tabR ps) (eqV (tabR ps) ps.length) v x)) hm rfl rfl rfl ti3 (by simp; omega) rfl rfl (fun W hm => ?_)
                  rw [row_set (by omega)] at hm
                  refine wl_nil ?_
                  refine block_normal ?_
                  refine then_normal ?_
                  refine wc_region ?_
                  refine wl_y (y_move (by conv => lhs; whnf)) ?_
                  refine wl_y (y_add64 rfl rfl (by omega)) ?_
                  refine wl_y (y_assign (by conv => lhs; whnf)) ?_
                  refine wl_nil ?_
                  refine next_round (σ := Nat) (x + 1) rfl (by repeat first | exact out_hav | refine out_look rfl ?_ | refine out_havIn rfl ?_) ⟨rfl, trivial⟩ ⟨hm, by omega⟩ (by (try dsimp only); omega)
                · have hsk := row_skip (c := (eqV (tabR ps) ps.length)) (by omega : x < 2) h6
                  refine wc_skip ?_
                  refine block_normal ?_
                  refine then_normal ?_
                  refine wc_region ?_
                  refine wl_y (y_move (by conv => lhs; whnf)) ?_
                  refine wl_y (y_add64 rfl rfl (by omega)) ?_
                  refine wl_y (y_assign (by conv => lhs; whnf)) ?_
                  refine wl_nil ?_
                  refine next_round (σ := Nat) (x + 1) rfl (by repeat first | exact out_hav | refine out_look rfl ?_ | refine out_havIn rfl ?_) ⟨rfl, trivial⟩ ⟨by rw [← hsk]; exact hm, by omega⟩ (by (try dsimp only); omega)
              · obtain rfl : x = 2 := by omega
                refine wc_exit ?_
                refine then_exit ?_
                refine then_exit ?_
                refine block_exit ?_
                refine then_normal ?_
                refine wc_region ?_
                refine wl_y (y_move (by conv => lhs; whnf)) ?_
                refine wl_y (y_loadBlk rfl (hm.at (i := 3) rfl) Try.underlying27 rfl ti27) ?_
                refine wl_lit1 hm rfl Try.underlying22 ti27 rfl (by decide) (fun W v71 hm hu => ?_)
                have hfll := formL_len (tabR ps) (eqV (tabR ps) ps.length) v
                have hrkl := rk_le (eqV (tabR ps) ps.length) v
                have hm : Mem w [] ([.own 3 1 v13 ps.length (ints (eqV (tabR ps) ps.length)), .own 3 1 v16 ps.length (ints (numL (eqV (tabR ps) ps.length) ps.length ps.length)), .own 27 2 vo (formL (tabR ps) (eqV (tabR ps) ps.length) v).length (prs (formL (tabR ps) (eqV (tabR ps) ps.length) v)), .blk b9 27 [.int .i64 (rowX (tabR ps) (eqV (tabR ps) ps.length) v 2).1, .int .i64 (rowX (tabR ps) (eqV (tabR ps) ps.length) v 2).2]] ++ [.own 27 2 v71 1 [.int .i64 (fval (tabR ps) (eqV (tabR ps) ps.length) v 0), .int .i64 (fval (tabR ps) (eqV (tabR ps) ps.length) v 1)]]) W := hm
                refine wl_appendTo (i := 2) hm rfl rfl rfl (hm.slAt 4 rfl) (prs_snoc _ _ _) Try.underlying22 ti27 rfl (by decide) (by simp [Value.oneCell']) (by omega) (fun W v72 hm hv72 => ?_)
                have hm : Mem w [] [.own 3 1 v13 ps.length (ints (eqV (tabR ps) ps.length)), .own 3 1 v16 ps.length (ints (numL (eqV (tabR ps) ps.length) ps.length ps.length)), .own 27 2 v72 ((formL (tabR ps) (eqV (tabR ps) ps.length) v).length + 1) (prs (formL (tabR ps) (eqV (tabR ps) ps.length) v ++ [(fval (tabR ps) (eqV (tabR ps) ps.length) v 0, fval (tabR ps) (eqV (tabR ps) ps.length) v 1)]))] W := hm.take 3
                rw [show (formL (tabR ps) (eqV (tabR ps) ps.length) v).length + 1 = (formL (tabR ps) (eqV (tabR ps) ps.length) v ++ [(fval (tabR ps) (eqV (tabR ps) ps.length) v 0, fval (tabR ps) (eqV (tabR ps) ps.length) v 1)]).length by rw [List.length_append]; rfl, show formL (tabR ps) (eqV (tabR ps) ps.length) v ++ [(fval (tabR ps) (eqV (tabR ps) ps.length) v 0, fval (tabR ps) (eqV (tabR ps) ps.length) v 1)] = formL (tabR ps) (eqV (tabR ps) ps.length) (v + 1) by rw [formL, if_pos hfx]] at hm
                refine wl_y (y_assign (by conv => lhs; whnf)) ?_
                refine wl_nil ?_
                refine block_normal ?_
                refine then_normal ?_
                refine wc_region ?_
                refine wl_y (y_move (by conv => lhs; whnf)) ?_
                refine wl_y (y_add64 rfl rfl (by omega)) ?_
                refine wl_y (y_assign (by conv => lhs; whnf)) ?_
                refine wl_nil ?_
                refine next_round (σ := Nat × Value) (v + 1, v72) rfl (by repeat first | exact out_hav | refine out_look rfl ?_ | refine out_havIn rfl ?_) ⟨rfl, rfl, trivial⟩ ⟨hm, by omega⟩ (by (try dsimp only); omega)
        · obtain rfl : v = ps.length := by omega
          refine wc_exit ?_
          refine then_exit ?_
          refine then_exit ?_
          refine block_exit ?_
          refine then_normal ?_
          refine wc_seq ?_
          refine wc_region ?_
          refine wl_y (y_move (by conv => lhs; whnf)) ?_
          refine wl_y (y_assign (by conv => lhs; whnf)) ?_
          refine wl_nil ?_
          refine then_normal ?_
          refine wc_ret ?_
          refine post_ret (results_fr rfl) ?_
          exact ⟨_, rfl, hm.drop 2⟩
end Go.Proofs.Ytofpdjpenmhbnaa
namespace Go.Proofs.Ytofpdjpenmhbnaa
open Go Go.Kx

set_option maxHeartbeats 4000000 in
theorem rDoubt_calls (w : World) (vl : Value) (ps : List (Int × Int)) (s : ByteArray) (a b : Int) (hl : SlAt w 2 vl ps.length (prs ps)) (ho : Okf ps.length (tabR ps)) (hsz : s.size ≤ 140737488355232) :
    Cl Try.prog 22 [vl, .string s, prV .i64 (a, b)].toArray w (Ret w (.bool (rDoubtB ps s a b))) := by
  have hk := ho.k5
  have h32 := pow_le_32 hk
  have hm : Mem w [] [] w := Mem.init w
  refine cl_enter Try.func22 rfl Try.ntmps22 rfl ?_
  refine wc_seq ?_
  refine wc_region ?_
  refine wl_box (v := prV .i64 (a, b)) hm rfl (fun W b5 hm hb5 hu => ?_)
  have hm : Mem w [] [.blk b5 27 [.int .i64 a, .int .i64 b]] W := hm
  refine wl_y (y_assign (by conv => lhs; whnf)) ?_
  refine wl_nil ?_
  refine then_normal ?_
  refine wc_seq ?_
  refine wc_quiet (C := fun W => Mem w [] [.blk b5 27 [.int .i64 a, .int .i64 b]] W) mix (by kernel_rfl) (by kernel_rfl) (hm.step (upd_drew _)) ?_
  refine q_y (fun W hm => y_indexArr rfl rfl (by omega) Try.underlying27 ti3) ?_
  refine q_y (fun W hm => y_load rfl (hm.blk_cell 0 rfl rfl) Try.underlying3 rfl) ?_
  refine q_y (fun W hm => y_indexArr rfl rfl (by omega) Try.underlying27 ti3) ?_
  refine q_y (fun W hm => y_load rfl (hm.blk_cell 0 rfl rfl) Try.underlying3 rfl) ?_
  refine q_y (fun W hm => y_assign (by conv => lhs; whnf)) ?_
  refine q_y (fun W hm => y_assign (by conv => lhs; whnf)) ?_
  refine q_nil (fun W hm => ?_)
  refine then_normal ?_
  refine wc_seq ?_
  refine wc_seq ?_
  refine wc_region ?_
  refine wl_y (y_move (by conv => lhs; whnf)) ?_
  refine wl_y (y_lss rfl rfl) ?_
  refine wl_split rfl (fun h1 => ?_) (fun h1 => ?_)
  · skip
    refine wl_guard_no rfl ?_
    refine wl_guard_no rfl ?_
    refine wl_guard_no rfl ?_
    refine wl_y (y_pick_true rfl (by conv => lhs; whnf)) ?_
    refine wl_y (y_move (by conv => lhs; whnf)) ?_
    refine wl_guard_no rfl ?_
    refine wl_guard_no rfl ?_
    refine wl_guard_no rfl ?_
    refine wl_guard_no rfl ?_
    refine wl_y (y_pick_true rfl (by conv => lhs; whnf)) ?_
    refine wl_y (y_move (by conv => lhs; whnf)) ?_
    refine wl_guard_no rfl ?_
    refine wl_guard_no rfl ?_
    refine wl_guard_no rfl ?_
    refine wl_y (y_pick_true rfl (by conv => lhs; whnf)) ?_
    refine wl_nil ?_
    refine then_normal ?_
    refine wc_cond_true rfl ?_
    refine wc_seq ?_
    refine wc_region ?_
    refine wl_y (y_assign (by conv => lhs; whnf)) ?_
    refine wl_nil ?_
    refine then_normal ?_
    refine wc_ret ?_
    refine then_ret ?_
    refine post_ret (results_fr rfl) ?_
    refine ⟨?_, hm.upd⟩
    rw [rDoubt_no (fun h => by have h := h.1; omega)]; rfl
  · skip
    refine wl_guard_yes rfl ?_
    refine wl_y (y_move (by conv => lhs; whnf)) ?_
    refine wl_guard_yes rfl ?_
    refine wl_y (y_move (by conv => lhs; whnf)) ?_
    refine wl_guard_yes rfl ?_
    refine wl_y (y_geq rfl rfl) ?_
    refine wl_y (y_pick_false rfl (by conv => lhs; whnf)) ?_
    refine wl_split rfl (fun h2 => ?_) (fun h2 => ?_)
    · skip
      refine wl_guard_no rfl ?_
      refine wl_guard_no rfl ?_
      refine wl_guard_no rfl ?_
      refine wl_guard_no rfl ?_
      refine wl_y (y_pick_true rfl (by conv => lhs; whnf)) ?_
      refine wl_y (y_move (by conv => lhs; whnf)) ?_
      refine wl_guard_no rfl ?_
      refine wl_guard_no rfl ?_
      refine wl_guard_no rfl ?_
      refine wl_y (y_pick_true rfl (by conv => lhs; whnf)) ?_
      refine wl_nil ?_
      refine then_normal ?_
      refine wc_cond_true rfl ?_
      refine wc_seq ?_
      refine wc_region ?_
      refine wl_y (y_assign (by conv => lhs; whnf)) ?_
      refine wl_nil ?_
      refine then_normal ?_
      refine wc_ret ?_
      refine then_ret ?_
      refine post_ret (results_fr rfl) ?_
      refine ⟨?_, hm.upd⟩
      rw [rDoubt_no (fun h => by have h := h.1; omega)]; rfl
    · skip
      refine wl_guard_yes rfl ?_
      refine wl_y (y_move (by conv => lhs; whnf)) ?_
      refine wl_guard_yes rfl ?_
      refine wl_y (y_move (by conv => lhs; whnf)) ?_
      refine wl_guard_yes rfl ?_
      refine wl_y (y_lenSl (by conv => lhs; whnf) (hl.step hm.upd) Try.underlying22) ?_
      refine wl_guard_yes rfl ?_
      refine wl_y (y_geq rfl rfl) ?_
      refine wl_y (y_pick_false rfl (by conv => lhs; whnf)) ?_
      refine wl_split rfl (fun h3 => ?_) (fun h3 => ?_)
      · skip
        refine wl_guard_no rfl ?_
        refine wl_guard_no rfl ?_
        refine wl_guard_no rfl ?_
        refine wl_y (y_pick_true rfl (by conv => lhs; whnf)) ?_
        refine wl_nil ?_
        refine then_normal ?_
        refine wc_cond_true rfl ?_
        refine wc_seq ?_
        refine wc_region ?_
        refine wl_y (y_assign (by conv => lhs; whnf)) ?_
        refine wl_nil ?_
        refine then_normal ?_
        refine wc_ret ?_
        refine then_ret ?_
        refine post_ret (results_fr rfl) ?_
        refine ⟨?_, hm.upd⟩
        rw [rDoubt_no (fun h => by have h := h.1; omega)]; rfl
      · skip
        refine wl_guard_yes rfl ?_
        refine wl_y (y_move (by conv => lhs; whnf)) ?_
        refine wl_guard_yes rfl ?_
        refine wl_y (y_lenStr (by conv => lhs; whnf) Try.underlying9) ?_
        refine wl_guard_yes rfl ?_
        refine wl_y (y_lss rfl rfl) ?_
        refine wl_y (y_pick_false rfl (by conv => lhs; whnf)) ?_
        refine wl_nil ?_
        refine then_normal ?_
        refine wc_cond_dec rfl (fun h4 => ?_) (fun h4 => ?_)
        · skip
          refine wc_seq ?_
          refine wc_region ?_
          refine wl_y (y_assign (by conv => lhs; whnf)) ?_
          refine wl_nil ?_
          refine then_normal ?_
          refine wc_ret ?_
          refine then_ret ?_
          refine post_ret (results_fr rfl) ?_
          refine ⟨?_, hm.upd⟩
          rw [rDoubt_no (fun h => by have h := h.1; omega)]; rfl
        · have hdom : 0 ≤ a ∧ a < b ∧ b < ps.length ∧ 1 ≤ s.size := by omega
          have hpa : 2 ^ a.toNat < 2 ^ ps.length := Nat.pow_lt_pow_right (by decide) (by omega)
          have hpb : 2 ^ b.toNat < 2 ^ ps.length := Nat.pow_lt_pow_right (by decide) (by omega)
          refine wc_skip ?_
          refine then_normal ?_
          refine wc_seq ?_
          refine wc_seq ?_
          refine wc_region ?_
          refine wl_y (y_assign (by conv => lhs; whnf)) ?_
          refine wl_nil ?_
          refine then_normal ?_
          refine wc_block ?_
          refine wc_loop [6, 9, 32, 33, 34, 35, 36, 37, 38, 39, 40, 41, 42, 43, 44, 45, 46, 47] (fun (i : Nat) => [(9, .int .i64 (i : Int))]) (fun (i : Nat) W => Mem w [] [.blk b5 27 [.int .i64 a, .int .i64 b]] W ∧ i ≤ s.size ∧ wordTo s i = true) (fun (i : Nat) => s.size - i) ((0) : Nat) ?_ ?_ ?_
          · exact ⟨rfl, trivial⟩
          · exact ⟨hm, Nat.zero_le _, rfl⟩
          · rintro i u W ⟨hm, hi, hwt⟩
            refine wc_seq ?_
            refine wc_seq ?_
            refine wc_region ?_
            refine wl_y (y_move (by conv => lhs; whnf)) ?_
            refine wl_y (y_move (by conv => lhs; whnf)) ?_
            refine wl_y (y_lenStr (by conv => lhs; whnf) Try.underlying9) ?_
            refine wl_y (y_lss rfl rfl) ?_
            refine wl_nil ?_
            refine then_normal ?_
            refine wc_cond_dec rfl (fun h5 => ?_) (fun h5 => ?_)
            · skip
              refine wc_skip ?_
              refine then_normal ?_
              refine wc_seq ?_
              refine wc_block ?_
              refine wc_seq ?_
              refine wc_region ?_
              refine wl_y (y_move (by conv => lhs; whnf)) ?_
              refine wl_y (y_move (by conv => lhs; whnf)) ?_
              refine wl_y (y_indexStr (by conv => lhs; whnf) rfl (by omega) Try.underlying9) ?_
              refine wl_y (y_neq rfl rfl) ?_
              refine wl_split rfl (fun h6 => ?_) (fun h6 => ?_)
              · have hna := h6
                refine wl_guard_yes rfl ?_
                refine wl_y (y_move (by conv => lhs; whnf)) ?_
                refine wl_guard_yes rfl ?_
                refine wl_y (y_move (by conv => lhs; whnf)) ?_
                refine wl_guard_yes rfl ?_
                refine wl_y (y_indexStr (by conv => lhs; whnf) rfl (by omega) Try.underlying9) ?_
                refine wl_guard_yes rfl ?_
                refine wl_y (y_neq rfl rfl) ?_
                refine wl_y (y_pick_true rfl (by conv => lhs; whnf)) ?_
                refine wl_nil ?_
                refine then_normal ?_
                refine wc_cond_dec rfl (fun h7 => ?_) (fun h7 => ?_)
                · have hbad : ¬ (byt s i = 97 ∨ byt s i = 98) := by omega
                  refine wc_seq ?_
                  refine wc_region ?_
                  refine wl_y (y_assign (by conv => lhs; whnf)) ?_
                  refine wl_nil ?_
                  refine then_normal ?_
                  refine wc_ret ?_
                  refine block_ret ?_
                  refine then_ret ?_
                  refine then_ret ?_
                  refine block_ret ?_
                  refine then_ret ?_
                  refine post_ret (results_fr rfl) ?_
                  refine ⟨?_, hm.upd⟩
                  rw [rDoubt_no (fun h => hbad ((wordTo_iff s s.size).1 h.2 i (by omega)))]; rfl
                · have hbb : byt s i = 97 ∨ byt s i = 98 := by omega
                  refine wc_skip ?_
                  refine block_normal ?_
                  refine then_normal ?_
                  refine wc_region ?_
                  refine wl_y (y_move (by conv => lhs; whnf)) ?_
                  refine wl_y (y_add64 rfl rfl (by omega)) ?_
                  refine wl_y (y_assign (by conv => lhs; whnf)) ?_
                  refine wl_nil ?_
                  refine next_round (σ := Nat) (i + 1) rfl (by repeat first | exact out_hav | refine out_look rfl ?_ | refine out_havIn rfl ?_) ⟨rfl, trivial⟩ ⟨hm, by omega, wordTo_step hwt hbb⟩ (by (try dsimp only); omega)
              · have hba : byt s i = 97 := by omega
                refine wl_guard_no rfl ?_
                refine wl_guard_no rfl ?_
                refine wl_guard_no rfl ?_
                refine wl_guard_no rfl ?_
                refine wl_y (y_pick_false rfl (by conv => lhs; whnf)) ?_
                refine wl_nil ?_
                refine then_normal ?_
                refine wc_cond_false rfl ?_
                refine wc_skip ?_
                refine block_normal ?_
                refine then_normal ?_
                refine wc_region ?_
                refine wl_y (y_move (by conv => lhs; whnf)) ?_
                refine wl_y (y_add64 rfl rfl (by omega)) ?_
                refine wl_y (y_assign (by conv => lhs; whnf)) ?_
                refine wl_nil ?_
                refine next_round (σ := Nat) (i + 1) rfl (by repeat first | exact out_hav | refine out_look rfl ?_ | refine out_havIn rfl ?_) ⟨rfl, trivial⟩ ⟨hm, by omega, wordTo_step hwt (.inl hba)⟩ (by (try dsimp only); omega)
            · obtain rfl : i = s.size := by omega
              have hls : Lets s := (wordTo_iff s s.size).1 hwt
              refine wc_exit ?_
              refine then_exit ?_
              refine then_exit ?_
              refine block_exit ?_
              refine then_normal ?_
              refine wc_seq ?_
              refine wc_quiet (C := fun W => Mem w [] [.blk b5 27 [.int .i64 a, .int .i64 b]] W) mix (by kernel_rfl) (by kernel_rfl) (hm.step (upd_drew _)) ?_
              refine q_y (fun W hm => y_move (by conv => lhs; whnf)) ?_
              refine q_y (fun W hm => y_move (by conv => lhs; whnf)) ?_
              refine q_y (fun W hm => y_bitI rfl rfl (by omega)) ?_
              refine q_y (fun W hm => y_move (by conv => lhs; whnf)) ?_
              refine q_callR hb42 (fun W hm => From_calls _ _ _ (2 ^ a.toNat) _ (hl.step hm.upd) ho hpa hls hsz) rfl rfl ?_
              refine q_y (fun W hm => y_move (by conv => lhs; whnf)) ?_
              refine q_y (fun W hm => y_bitI rfl rfl (by omega)) ?_
              refine q_y (fun W hm => y_eql rfl rfl) ?_
              refine q_split rfl (fun h8 => ?_) (fun h8 => ?_)
              · have hfa : fromTo (tabR ps) ps.length (2 ^ a.toNat) s s.size = 2 ^ a.toNat := Int.ofNat_inj.1 h8
                refine q_guard_yes rfl ?_
                refine q_y (fun W hm => y_move (by conv => lhs; whnf)) ?_
                refine q_guard_yes rfl ?_
                refine q_y (fun W hm => y_move (by conv => lhs; whnf)) ?_
                refine q_guard_yes rfl ?_
                refine q_y (fun W hm => y_bitI rfl rfl (by omega)) ?_
                refine q_guard_yes rfl ?_
                refine q_y (fun W hm => y_move (by conv => lhs; whnf)) ?_
                refine q_guard_yes rfl ?_
                refine q_callR hb42 (fun W hm => From_calls _ _ _ (2 ^ b.toNat) _ (hl.step hm.upd) ho hpb hls hsz) rfl rfl ?_
                refine q_guard_yes rfl ?_
                refine q_y (fun W hm => y_move (by conv => lhs; whnf)) ?_
                refine q_guard_yes rfl ?_
                refine q_y (fun W hm => y_bitI rfl rfl (by omega)) ?_
                refine q_guard_yes rfl ?_
                refine q_y (fun W hm => y_eql rfl rfl) ?_
                refine q_y (fun W hm => y_pick_true rfl (by conv => lhs; whnf)) ?_
                refine q_y (fun W hm => y_assign (by conv => lhs; whnf)) ?_
                refine q_nil (fun W hm => ?_)
                refine then_normal ?_
                refine wc_ret ?_
                refine post_ret (results_fr rfl) ?_
                refine ⟨?_, hm.upd⟩
                unfold rDoubtB
                rw [if_pos ⟨hdom, hwt⟩, decide_eq_true hfa, Bool.true_and, show decide (fromTo (tabR ps) ps.length (2 ^ b.toNat) s s.size = 2 ^ b.toNat) = decide (((fromTo (tabR ps) ps.length (2 ^ b.toNat) s s.size : Nat) : Int) = ((2 ^ b.toNat : Nat) : Int)) from decide_eq_decide.2 ⟨fun h => congrArg Nat.cast h, fun h => Int.ofNat_inj.1 h⟩]; rfl
              · have hfa : ¬ fromTo (tabR ps) ps.length (2 ^ a.toNat) s s.size = 2 ^ a.toNat := fun hh => h8 (congrArg Nat.cast hh)
                refine q_guard_no rfl ?_
                refine q_guard_no rfl ?_
                refine q_guard_no rfl ?_
                refine q_guard_no rfl ?_
                refine q_guard_no rfl ?_
                refine q_guard_no rfl ?_
                refine q_guard_no rfl ?_
                refine q_guard_no rfl ?_
                refine q_y (fun W hm => y_pick_false rfl (by conv => lhs; whnf)) ?_
                refine q_y (fun W hm => y_assign (by conv => lhs; whnf)) ?_
                refine q_nil (fun W hm => ?_)
                refine then_normal ?_
                refine wc_ret ?_
                refine post_ret (results_fr rfl) ?_
                refine ⟨?_, hm.upd⟩
                unfold rDoubtB
                rw [if_pos ⟨hdom, hwt⟩, decide_eq_false hfa, Bool.false_and]; rfl

set_option maxHeartbeats 4000000 in
theorem even_calls (w : World) : Cl Try.prog 53 [].toArray w (fun e w' => ∃ v E, e = .returned v ∧ Mem w [] E w' ∧ E = [.own 27 2 v 2 (prs [(0, 1), (-1, 0)])]) := by
  have hm : Mem w [] [] w := Mem.init w
  refine cl_enter Try.func53 rfl Try.ntmps53 rfl ?_
  refine wc_seq ?_
  refine wc_region ?_
  refine wl_y (y_assign (by conv => lhs; whnf)) ?_
  refine wl_nil ?_
  refine then_normal ?_
  refine wc_seq ?_
  refine wc_region ?_
  refine wl_y (y_buildL (cells := #[.int .i64 0, .int .i64 1]) rfl (by kernel_rfl)) ?_
  refine wl_y (y_buildL (cells := #[.int .i64 (-1), .int .i64 0]) rfl (by kernel_rfl)) ?_
  refine wl_lit2S (v := .agg #[.int .i64 0, .int .i64 1]) (w := .agg #[.int .i64 (-1), .int .i64 0]) hm rfl rfl Try.underlying22 ti27 rfl rfl (by decide) (fun W v3 hm hu => ?_)
  refine wl_y (y_assign (by conv => lhs; whnf)) ?_
  refine wl_nil ?_
  refine then_normal ?_
  refine wc_ret ?_
  refine post_ret (results_fr rfl) ?_
  exact ⟨_, _, rfl, hm, rfl⟩
end Go.Proofs.Ytofpdjpenmhbnaa
namespace Go.Proofs.Ytofpdjpenmhbnaa
open Go Go.Kx
theorem hb15 : HasBody Try.prog 15 := hasBody Try.func15 (by kernel_rfl) (by kernel_rfl)
theorem hb16 : HasBody Try.prog 16 := hasBody Try.func16 (by kernel_rfl) (by kernel_rfl)
theorem hb19 : HasBody Try.prog 19 := hasBody Try.func19 (by kernel_rfl) (by kernel_rfl)
theorem hb22 : HasBody Try.prog 22 := hasBody Try.func22 (by kernel_rfl) (by kernel_rfl)
theorem hb23 : HasBody Try.prog 23 := hasBody Try.func23 (by kernel_rfl) (by kernel_rfl)
theorem hb24 : HasBody Try.prog 24 := hasBody Try.func24 (by kernel_rfl) (by kernel_rfl)
theorem hb32 : HasBody Try.prog 32 := hasBody Try.func32 (by kernel_rfl) (by kernel_rfl)
theorem hb47 : HasBody Try.prog 47 := hasBody Try.func47 (by kernel_rfl) (by kernel_rfl)
theorem hb53 : HasBody Try.prog 53 := hasBody Try.func53 (by kernel_rfl) (by kernel_rfl)
theorem memOne_calls (w : World) (vl : Value) (hl : SlAt w 2 vl 2 (prs oneL)) : Cl Try.prog 15 [vl].toArray w (Ret w (.tuple #[.int .i64 1, .bool true, .int .i64 0])) := by
  have h := Memory_calls w vl oneL hl
  rw [mem_one] at h; exact h
theorem memEven_calls (w : World) (vl : Value) (hl : SlAt w 2 vl 2 (prs evenL)) : Cl Try.prog 15 [vl].toArray w (Ret w (.tuple #[.int .i64 (memoryV evenL).1, .bool false, .int .i64 0])) := by
  have h := Memory_calls w vl evenL hl
  rw [mem_even] at h; exact h
theorem forbOne_calls (w : World) (vl : Value) (hl : SlAt w 2 vl 2 (prs oneL)) : Cl Try.prog 32 [vl, .int .i64 2].toArray w (fun e w' => ∃ v E, e = .returned v ∧ Mem w [] E w' ∧ ∃ vs, v = .tuple #[vs, .int .i64 0] ∧ E = [.own 9 1 vs 1 (strs [⟨#[98, 98]⟩])]) := by
  refine (Forbidden_calls w vl oneL 2 hl).mono fun e w' h => ?_
  rw [forb_one] at h
  obtain ⟨vs, rfl, hE⟩ := h
  exact ⟨_, _, rfl, hE, vs, rfl, rfl⟩
theorem forbEven_calls (w : World) (vl : Value) (hl : SlAt w 2 vl 2 (prs evenL)) : Cl Try.prog 32 [vl, .int .i64 3].toArray w (fun e w' => ∃ v E, e = .returned v ∧ Mem w [] E w' ∧ ∃ vs, v = .tuple #[vs, .int .i64 0] ∧ E = [.own 9 1 vs 1 (strs [⟨#[97, 98, 97]⟩])]) := by
  refine (Forbidden_calls w vl evenL 3 hl).mono fun e w' h => ?_
  rw [forb_even] at h
  obtain ⟨vs, rfl, hE⟩ := h
  exact ⟨_, _, rfl, hE, vs, rfl, rfl⟩
theorem doubtEven_calls (w : World) (vl : Value) (hl : SlAt w 2 vl 2 (prs evenL)) : Cl Try.prog 16 [vl].toArray w (Ret w (.tuple #[.string (doubtV evenL).1, prV .i64 (doubtV evenL).2.1, .bool true, .int .i64 0])) := by
  have h := Doubt_calls w vl evenL hl
  rw [doubt_even] at h; exact h
theorem roundsEven_calls (w : World) (vl : Value) (hl : SlAt w 2 vl 2 (prs evenL)) : Cl Try.prog 23 [vl, .int .i64 4].toArray w (Ret w (.tuple #[.int .i64 6, .int .i64 0])) := by
  have h := Rounds_calls w vl evenL 4 hl
  rw [rounds_even] at h; exact h
theorem signedEven_calls (w : World) (vl : Value) (hl : SlAt w 2 vl 2 (prs evenL)) : Cl Try.prog 24 [vl, .int .i64 3].toArray w (Ret w (.tuple #[.int .i64 5, .int .i64 0])) := by
  have h := Signed_calls w vl evenL 3 hl
  rw [signed_even] at h; exact h
theorem evenOk : NetOk evenL := by decide +kernel
theorem formEven_calls (w : World) (vl : Value) (hl : SlAt w 2 vl 2 (prs evenL)) : Cl Try.prog 19 [vl].toArray w (fun e w' => ∃ v E, e = .returned v ∧ Mem w [] E w' ∧ E = [.own 27 2 v 2 (prs evenL)]) := by
  refine (rForm_calls w vl evenL hl evenOk.okf).mono fun e w' h => ?_
  obtain ⟨v, rfl, hE⟩ := h
  rw [form_even] at hE
  exact ⟨_, _, rfl, hE, rfl⟩
theorem doubt_size : (doubtV evenL).1.size ≤ 140737488355232 := by decide +kernel
theorem rdoubtEven_calls (w : World) (vl : Value) (hl : SlAt w 2 vl 2 (prs evenL)) : Cl Try.prog 22 [vl, .string (doubtV evenL).1, prV .i64 (doubtV evenL).2.1].toArray w (Ret w (.bool true)) := by
  have h := rDoubt_calls w vl evenL (doubtV evenL).1 (doubtV evenL).2.1.1 (doubtV evenL).2.1.2 hl evenOk.okf doubt_size
  have e := rdoubt_even
  rw [form_even] at e
  rw [e] at h; exact h
theorem textsEq_calls (w : World) (v1 v2 : Value) (a : List ByteArray) (hl1 : SlAt w 1 v1 a.length (strs a)) (hl2 : SlAt w 1 v2 a.length (strs a)) (ha : a.length ≤ 1000000) : Cl Try.prog 47 [v1, v2].toArray w (Ret w (.bool true)) := by
  have h := texts_calls w v1 v2 a a hl1 hl2 ha
  rw [decide_eq_true rfl] at h; exact h
theorem y_eqT {P : Program} {ρ : Operand → Value} {T t t' : TypeId} {W : World} {x y : Operand} {k : IntKind} {a : Int} (hx : ρ x = .int k a) (hy : ρ y = .int k a) : Y P ρ (.binOp .eql t x y t') T (.bool true) W := by
  have h := y_eql (P := P) (T := T) (W := W) (t := t) (t' := t') hx hy
  rwa [decide_eq_true rfl] at h

set_option maxHeartbeats 40000000 in
set_option maxRecDepth 100000 in
theorem awake_calls (w : World) : Cl Try.prog 18 [].toArray w (Ret w (.bool true)) := by
  have hm : Mem w [] [] w := Mem.init w
  refine cl_enter Try.func18 rfl Try.ntmps18 rfl ?_
  refine wc_seq ?_
  refine wc_region ?_
  refine wl_y (y_assign (by conv => lhs; whnf)) ?_
  refine wl_nil ?_
  refine then_normal ?_
  refine wc_seq ?_
  refine wc_region ?_
  refine wl_y (y_buildL (cells := #[.int .i64 0, .int .i64 1]) rfl (by kernel_rfl)) ?_
  refine wl_y (y_buildL (cells := #[.int .i64 0, .int .i64 (-1)]) rfl (by kernel_rfl)) ?_
  refine wl_lit2S (v := .agg #[.int .i64 0, .int .i64 1]) (w := .agg #[.int .i64 0, .int .i64 (-1)]) hm rfl rfl Try.underlying22 ti27 rfl rfl (by decide) (fun W v22 hm hu => ?_)
  refine wl_y (y_assign (by conv => lhs; whnf)) ?_
  refine wl_nil ?_
  refine then_normal ?_
  refine wc_seq ?_
  refine wc_region ?_
  refine wl_y (y_move (by conv => lhs; whnf)) ?_
  refine wl_callR hm hb15 (memOne_calls _ _ (hm.slAt 0 rfl)) rfl rfl (fun W hm hu => ?_)
  refine wl_y (y_move (by conv => lhs; whnf)) ?_
  refine wl_y (y_extract rfl rfl) ?_
  refine wl_y (y_extract rfl rfl) ?_
  refine wl_y (y_extract rfl rfl) ?_
  refine wl_y (y_assign (by conv => lhs; whnf)) ?_
  refine wl_y (y_assign (by conv => lhs; whnf)) ?_
  refine wl_y (y_assign (by conv => lhs; whnf)) ?_
  refine wl_nil ?_
  refine then_normal ?_
  refine wc_seq ?_
  refine wc_region ?_
  refine wl_y (y_move (by conv => lhs; whnf)) ?_
  refine wl_callM hm hb32 (forbOne_calls _ _ (hm.slAt 0 rfl)) rfl rfl (fun W v31 E hm hu hE => ?_)
  obtain ⟨vs31, rfl, rfl⟩ := hE
  refine wl_y (y_move (by conv => lhs; whnf)) ?_
  refine wl_y (y_extract rfl rfl) ?_
  refine wl_y (y_extract rfl rfl) ?_
  refine wl_y (y_assign (by conv => lhs; whnf)) ?_
  refine wl_y (y_assign (by conv => lhs; whnf)) ?_
  refine wl_nil ?_
  refine then_normal ?_
  refine wc_seq ?_
  refine wc_region ?_
  refine wl_callM hm hb53 (even_calls _) rfl rfl (fun W v35 E hm hu hE => ?_)
  obtain rfl := hE
  refine wl_callR hm hb15 (memEven_calls _ _ (hm.slAt 2 rfl)) rfl rfl (fun W hm hu => ?_)
  refine wl_y (y_move (by conv => lhs; whnf)) ?_
  refine wl_y (y_extract rfl rfl) ?_
  refine wl_y (y_extract rfl rfl) ?_
  refine wl_y (y_extract rfl rfl) ?_
  refine wl_y (y_assign (by conv => lhs; whnf)) ?_
  refine wl_y (y_assign (by conv => lhs; whnf)) ?_
  refine wl_y (y_assign (by conv => lhs; whnf)) ?_
  refine wl_nil ?_
  refine then_normal ?_
  refine wc_seq ?_
  refine wc_region ?_
  refine wl_callM hm hb53 (even_calls _) rfl rfl (fun W v41 E hm hu hE => ?_)
  obtain rfl := hE
  refine wl_callR hm hb16 (doubtEven_calls _ _ (hm.slAt 3 rfl)) rfl rfl (fun W hm hu => ?_)
  refine wl_y (y_move (by conv => lhs; whnf)) ?_
  refine wl_y (y_extract rfl rfl) ?_
  refine wl_y (y_extract rfl rfl) ?_
  refine wl_y (y_extract rfl rfl) ?_
  refine wl_y (y_extract rfl rfl) ?_
  refine wl_alloc hm ti27 (fun W b11 hm hb11 hu => ?_)
  refine wl_y (y_assign (by conv => lhs; whnf)) ?_
  refine wl_storeBlk (i := 4) (vs := [.int .i64 (doubtV evenL).2.1.1, .int .i64 (doubtV evenL).2.1.2]) hm rfl rfl rfl ti27 rfl rfl (by simp [Value.oneCell']) (fun W hm => ?_)
  refine wl_y (y_assign (by conv => lhs; whnf)) ?_
  refine wl_y (y_assign (by conv => lhs; whnf)) ?_
  refine wl_nil ?_
  refine then_normal ?_
  refine wc_seq ?_
  refine wc_region ?_
  refine wl_callM hm hb53 (even_calls _) rfl rfl (fun W v48 E hm hu hE => ?_)
  obtain rfl := hE
  refine wl_callM hm hb32 (forbEven_calls _ _ (hm.slAt 5 rfl)) rfl rfl (fun W v49 E hm hu hE => ?_)
  obtain ⟨vs49, rfl, rfl⟩ := hE
  refine wl_y (y_move (by conv => lhs; whnf)) ?_
  refine wl_y (y_extract rfl rfl) ?_
  refine wl_y (y_extract rfl rfl) ?_
  refine wl_y (y_assign (by conv => lhs; whnf)) ?_
  refine wl_y (y_assign (by conv => lhs; whnf)) ?_
  refine wl_nil ?_
  refine then_normal ?_
  refine wc_seq ?_
  refine wc_region ?_
  refine wl_callM hm hb53 (even_calls _) rfl rfl (fun W v53 E hm hu hE => ?_)
  obtain rfl := hE
  refine wl_callR hm hb23 (roundsEven_calls _ _ (hm.slAt 7 rfl)) rfl rfl (fun W hm hu => ?_)
  refine wl_y (y_move (by conv => lhs; whnf)) ?_
  refine wl_y (y_extract rfl rfl) ?_
  refine wl_y (y_extract rfl rfl) ?_
  refine wl_y (y_assign (by conv => lhs; whnf)) ?_
  refine wl_y (y_assign (by conv => lhs; whnf)) ?_
  refine wl_nil ?_
  refine then_normal ?_
  refine wc_seq ?_
  refine wc_region ?_
  refine wl_callM hm hb53 (even_calls _) rfl rfl (fun W v58 E hm hu hE => ?_)
  obtain rfl := hE
  refine wl_callR hm hb24 (signedEven_calls _ _ (hm.slAt 8 rfl)) rfl rfl (fun W hm hu => ?_)
  refine wl_y (y_move (by conv => lhs; whnf)) ?_
  refine wl_y (y_extract rfl rfl) ?_
  refine wl_y (y_extract rfl rfl) ?_
  refine wl_y (y_assign (by conv => lhs; whnf)) ?_
  refine wl_y (y_assign (by conv => lhs; whnf)) ?_
  refine wl_nil ?_
  refine then_normal ?_
  refine wc_seq ?_
  have hm : Mem w [] [.own 27 2 v22 2 (prs oneL), .own 9 1 vs31 1 (strs [⟨#[98, 98]⟩]), .own 27 2 v35 2 (prs evenL), .own 27 2 v41 2 (prs evenL), .blk b11 27 [.int .i64 (doubtV evenL).2.1.1, .int .i64 (doubtV evenL).2.1.2], .own 27 2 v48 2 (prs evenL), .own 9 1 vs49 1 (strs [⟨#[97, 98, 97]⟩]), .own 27 2 v53 2 (prs evenL), .own 27 2 v58 2 (prs evenL)] W := hm
  refine wc_drawX (C := fun W => Mem w [] [.own 27 2 v22 2 (prs oneL), .own 9 1 vs31 1 (strs [⟨#[98, 98]⟩]), .own 27 2 v35 2 (prs evenL), .own 27 2 v41 2 (prs evenL), .blk b11 27 [.int .i64 (doubtV evenL).2.1.1, .int .i64 (doubtV evenL).2.1.2], .own 27 2 v48 2 (prs evenL), .own 9 1 vs49 1 (strs [⟨#[97, 98, 97]⟩]), .own 27 2 v53 2 (prs evenL), .own 27 2 v58 2 (prs evenL)] W) none mix (by kernel_rfl) (by kernel_rfl) (Mem.stable _ _ _) (hm.step (upd_drew _)) ?_
  refine ax_y (i := 0) rfl (by kernel_rfl) (fun W hm => y_move (by conv => lhs; whnf)) ?_
  refine ax_y (i := 1) (v := .bool true) rfl (by kernel_rfl) (fun W hm => y_eqT rfl rfl) ?_
  refine ax_y (i := 2) rfl (by kernel_rfl) (fun W hm => y_move (by conv => lhs; whnf)) ?_
  refine ax_yg (i := 3) (v := .bool true) rfl rfl (by kernel_rfl) (fun W hm => y_move rfl) ?_
  refine ax_y (i := 4) rfl (by kernel_rfl) (fun W hm => y_pick_true rfl (by conv => lhs; whnf)) ?_
  refine ax_y (i := 5) rfl (by kernel_rfl) (fun W hm => y_move (by conv => lhs; whnf)) ?_
  refine ax_yg (i := 6) rfl rfl (by kernel_rfl) (fun W hm => y_move (by conv => lhs; whnf)) ?_
  refine ax_yg (i := 7) (v := .bool true) rfl rfl (by kernel_rfl) (fun W hm => y_eqT rfl rfl) ?_
  refine ax_y (i := 8) rfl (by kernel_rfl) (fun W hm => y_pick_true rfl (by conv => lhs; whnf)) ?_
  refine ax_y (i := 9) rfl (by kernel_rfl) (fun W hm => y_move (by conv => lhs; whnf)) ?_
  refine ax_yg (i := 10) rfl rfl (by kernel_rfl) (fun W hm => y_move (by conv => lhs; whnf)) ?_
  refine ax_yg (i := 11) (v := .bool true) rfl rfl (by kernel_rfl) (fun W hm => y_eqT rfl rfl) ?_
  refine ax_y (i := 12) rfl (by kernel_rfl) (fun W hm => y_pick_true rfl (by conv => lhs; whnf)) ?_
  refine ax_y (i := 13) rfl (by kernel_rfl) (fun W hm => y_move (by conv => lhs; whnf)) ?_
  refine ax_yg (i := 14) rfl rfl (by kernel_rfl) (fun W hm => y_move (by conv => lhs; whnf)) ?_
  refine ax_loud (i := 15) rfl (by kernel_rfl) (fun W hm => ?_)
  refine wl_guard_yes rfl ?_
  refine wl_lit1 (v := .string ⟨#[98, 98]⟩) hm rfl Try.underlying47 ti9 rfl (by decide) (fun W v77 hm hu => ?_)
  refine nxx_keep (H' := [.own 27 2 v22 2 (prs oneL), .own 9 1 vs31 1 (strs [⟨#[98, 98]⟩]), .own 27 2 v35 2 (prs evenL), .own 27 2 v41 2 (prs evenL), .blk b11 27 [.int .i64 (doubtV evenL).2.1.1, .int .i64 (doubtV evenL).2.1.2], .own 27 2 v48 2 (prs evenL), .own 9 1 vs49 1 (strs [⟨#[97, 98, 97]⟩]), .own 27 2 v53 2 (prs evenL), .own 27 2 v58 2 (prs evenL), .own 9 1 v77 1 (strs [⟨#[98, 98]⟩])]) hm (fun W h => h.take 9) ?_
  refine ax_callRg (i := 16) rfl rfl (by kernel_rfl) hb47 (fun W hm => textsEq_calls _ _ _ [⟨#[98, 98]⟩] (hm.slAt 1 rfl) (hm.slAt 9 rfl) (by decide)) rfl rfl ?_
  refine ax_y (i := 17) rfl (by kernel_rfl) (fun W hm => y_pick_true rfl (by conv => lhs; whnf)) ?_
  refine ax_y (i := 18) rfl (by kernel_rfl) (fun W hm => y_move (by conv => lhs; whnf)) ?_
  refine ax_yg (i := 19) rfl rfl (by kernel_rfl) (fun W hm => y_move (by conv => lhs; whnf)) ?_
  refine ax_yg (i := 20) (v := .bool true) rfl rfl (by kernel_rfl) (fun W hm => y_eqT rfl rfl) ?_
  refine ax_y (i := 21) rfl (by kernel_rfl) (fun W hm => y_pick_true rfl (by conv => lhs; whnf)) ?_
  refine ax_y (i := 22) rfl (by kernel_rfl) (fun W hm => y_move (by conv => lhs; whnf)) ?_
  refine ax_yg (i := 23) (v := .bool false) rfl rfl (by kernel_rfl) (fun W hm => y_move rfl) ?_
  refine ax_yg (i := 24) (v := .bool true) rfl rfl (by kernel_rfl) (fun W hm => y_not (p := false) rfl) ?_
  refine ax_y (i := 25) rfl (by kernel_rfl) (fun W hm => y_pick_true rfl (by conv => lhs; whnf)) ?_
  refine ax_y (i := 26) rfl (by kernel_rfl) (fun W hm => y_move (by conv => lhs; whnf)) ?_
  refine ax_yg (i := 27) rfl rfl (by kernel_rfl) (fun W hm => y_move (by conv => lhs; whnf)) ?_
  refine ax_yg (i := 28) (v := .bool true) rfl rfl (by kernel_rfl) (fun W hm => y_eqT rfl rfl) ?_
  refine ax_y (i := 29) rfl (by kernel_rfl) (fun W hm => y_pick_true rfl (by conv => lhs; whnf)) ?_
  refine ax_y (i := 30) rfl (by kernel_rfl) (fun W hm => y_move (by conv => lhs; whnf)) ?_
  refine ax_yg (i := 31) (v := .bool true) rfl rfl (by kernel_rfl) (fun W hm => y_move rfl) ?_
  refine ax_y (i := 32) rfl (by kernel_rfl) (fun W hm => y_pick_true rfl (by conv => lhs; whnf)) ?_
  refine ax_y (i := 33) rfl (by kernel_rfl) (fun W hm => y_move (by conv => lhs; whnf)) ?_
  refine ax_yg (i := 36) rfl rfl (by kernel_rfl) (fun W hm => y_move (by conv => lhs; whnf)) ?_
  refine ax_yg (i := 37) (v := prV .i64 (doubtV evenL).2.1) rfl rfl (by kernel_rfl) (fun W hm => y_loadBlk (xs := [.int .i64 (doubtV evenL).2.1.1, .int .i64 (doubtV evenL).2.1.2]) rfl (hm.at (i := 4) rfl) Try.underlying27 rfl ti27) ?_
  refine ax_loud (i := 34) rfl (by kernel_rfl) (fun W hm => ?_)
  refine wl_guard_yes rfl ?_
  refine wl_callM hm hb53 (even_calls _) rfl rfl (fun W v96 E hm hu hE => ?_)
  obtain rfl := hE
  refine nxx_keep (H' := [.own 27 2 v22 2 (prs oneL), .own 9 1 vs31 1 (strs [⟨#[98, 98]⟩]), .own 27 2 v35 2 (prs evenL), .own 27 2 v41 2 (prs evenL), .blk b11 27 [.int .i64 (doubtV evenL).2.1.1, .int .i64 (doubtV evenL).2.1.2], .own 27 2 v48 2 (prs evenL), .own 9 1 vs49 1 (strs [⟨#[97, 98, 97]⟩]), .own 27 2 v53 2 (prs evenL), .own 27 2 v58 2 (prs evenL), .own 9 1 v77 1 (strs [⟨#[98, 98]⟩]), .own 27 2 v96 2 (prs evenL)]) hm (fun W h => h.take 10) ?_
  refine ax_loud (i := 35) rfl (by kernel_rfl) (fun W hm => ?_)
  refine wl_guard_yes rfl ?_
  refine wl_callM hm hb19 (formEven_calls _ _ (hm.slAt 10 rfl)) rfl rfl (fun W v97 E hm hu hE => ?_)
  obtain rfl := hE
  refine nxx_keep (H' := [.own 27 2 v22 2 (prs oneL), .own 9 1 vs31 1 (strs [⟨#[98, 98]⟩]), .own 27 2 v35 2 (prs evenL), .own 27 2 v41 2 (prs evenL), .blk b11 27 [.int .i64 (doubtV evenL).2.1.1, .int .i64 (doubtV evenL).2.1.2], .own 27 2 v48 2 (prs evenL), .own 9 1 vs49 1 (strs [⟨#[97, 98, 97]⟩]), .own 27 2 v53 2 (prs evenL), .own 27 2 v58 2 (prs evenL), .own 9 1 v77 1 (strs [⟨#[98, 98]⟩]), .own 27 2 v96 2 (prs evenL), .own 27 2 v97 2 (prs evenL)]) hm (fun W h => h.take 11) ?_
  refine ax_callRg (i := 38) rfl rfl (by kernel_rfl) hb22 (fun W hm => rdoubtEven_calls _ _ (hm.slAt 11 rfl)) rfl rfl ?_
  refine ax_y (i := 39) rfl (by kernel_rfl) (fun W hm => y_pick_true rfl (by conv => lhs; whnf)) ?_
  refine ax_y (i := 40) rfl (by kernel_rfl) (fun W hm => y_move (by conv => lhs; whnf)) ?_
  refine ax_yg (i := 41) rfl rfl (by kernel_rfl) (fun W hm => y_move (by conv => lhs; whnf)) ?_
  refine ax_yg (i := 42) (v := .bool true) rfl rfl (by kernel_rfl) (fun W hm => y_eqT rfl rfl) ?_
  refine ax_y (i := 43) rfl (by kernel_rfl) (fun W hm => y_pick_true rfl (by conv => lhs; whnf)) ?_
  refine ax_y (i := 44) rfl (by kernel_rfl) (fun W hm => y_move (by conv => lhs; whnf)) ?_
  refine ax_yg (i := 45) rfl rfl (by kernel_rfl) (fun W hm => y_move (by conv => lhs; whnf)) ?_
  refine ax_loud (i := 46) rfl (by kernel_rfl) (fun W hm => ?_)
  refine wl_guard_yes rfl ?_
  refine wl_lit1 (v := .string ⟨#[97, 98, 97]⟩) hm rfl Try.underlying47 ti9 rfl (by decide) (fun W v108 hm hu => ?_)
  refine nxx_keep (H' := [.own 27 2 v22 2 (prs oneL), .own 9 1 vs31 1 (strs [⟨#[98, 98]⟩]), .own 27 2 v35 2 (prs evenL), .own 27 2 v41 2 (prs evenL), .blk b11 27 [.int .i64 (doubtV evenL).2.1.1, .int .i64 (doubtV evenL).2.1.2], .own 27 2 v48 2 (prs evenL), .own 9 1 vs49 1 (strs [⟨#[97, 98, 97]⟩]), .own 27 2 v53 2 (prs evenL), .own 27 2 v58 2 (prs evenL), .own 9 1 v77 1 (strs [⟨#[98, 98]⟩]), .own 27 2 v96 2 (prs evenL), .own 27 2 v97 2 (prs evenL), .own 9 1 v108 1 (strs [⟨#[97, 98, 97]⟩])]) hm (fun W h => h.take 12) ?_
  refine ax_callRg (i := 47) rfl rfl (by kernel_rfl) hb47 (fun W hm => textsEq_calls _ _ _ [⟨#[97, 98, 97]⟩] (hm.slAt 6 rfl) (hm.slAt 12 rfl) (by decide)) rfl rfl ?_
  refine ax_y (i := 48) rfl (by kernel_rfl) (fun W hm => y_pick_true rfl (by conv => lhs; whnf)) ?_
  refine ax_y (i := 49) rfl (by kernel_rfl) (fun W hm => y_move (by conv => lhs; whnf)) ?_
  refine ax_yg (i := 50) rfl rfl (by kernel_rfl) (fun W hm => y_move (by conv => lhs; whnf)) ?_
  refine ax_yg (i := 51) (v := .bool true) rfl rfl (by kernel_rfl) (fun W hm => y_eqT rfl rfl) ?_
  refine ax_y (i := 52) rfl (by kernel_rfl) (fun W hm => y_pick_true rfl (by conv => lhs; whnf)) ?_
  refine ax_y (i := 53) rfl (by kernel_rfl) (fun W hm => y_move (by conv => lhs; whnf)) ?_
  refine ax_yg (i := 54) rfl rfl (by kernel_rfl) (fun W hm => y_move (by conv => lhs; whnf)) ?_
  refine ax_yg (i := 55) (v := .bool true) rfl rfl (by kernel_rfl) (fun W hm => y_eqT rfl rfl) ?_
  refine ax_y (i := 56) rfl (by kernel_rfl) (fun W hm => y_pick_true rfl (by conv => lhs; whnf)) ?_
  refine ax_y (i := 57) rfl (by kernel_rfl) (fun W hm => y_move (by conv => lhs; whnf)) ?_
  refine ax_yg (i := 58) rfl rfl (by kernel_rfl) (fun W hm => y_move (by conv => lhs; whnf)) ?_
  refine ax_yg (i := 59) (v := .bool true) rfl rfl (by kernel_rfl) (fun W hm => y_eqT rfl rfl) ?_
  refine ax_y (i := 60) rfl (by kernel_rfl) (fun W hm => y_pick_true rfl (by conv => lhs; whnf)) ?_
  refine ax_y (i := 61) rfl (by kernel_rfl) (fun W hm => y_move (by conv => lhs; whnf)) ?_
  refine ax_yg (i := 62) rfl rfl (by kernel_rfl) (fun W hm => y_move (by conv => lhs; whnf)) ?_
  refine ax_yg (i := 63) (v := .bool true) rfl rfl (by kernel_rfl) (fun W hm => y_eqT rfl rfl) ?_
  refine ax_y (i := 64) rfl (by kernel_rfl) (fun W hm => y_pick_true rfl (by conv => lhs; whnf)) ?_
  refine ax_y (i := 65) rfl (by kernel_rfl) (fun W hm => y_assign (by conv => lhs; whnf)) ?_
  refine ax_nil (by kernel_rfl) (fun W hm => ?_)
  refine then_normal ?_
  refine wc_ret ?_
  refine post_ret (results_fr rfl) ?_
  exact ⟨rfl, hm.upd⟩
end Go.Proofs.Ytofpdjpenmhbnaa
namespace Go.Proofs.Ytofpdjpenmhbnaa
open Go Go.Kx
theorem hb49 : HasBody Try.prog 49 := hasBody Try.func49 (by kernel_rfl) (by kernel_rfl)
set_option maxHeartbeats 40000000 in
theorem tame_calls (w : World) (vl : Value) (ps : List (Int × Int)) (j : Bool) (hl : SlAt w 2 vl ps.length (prs ps)) :
    Cl Try.prog 14 [vl, .bool j].toArray w (fun e w' => ∃ v E, e = .returned v ∧ Mem w [] E w' ∧ ∃ qs, Tamed j qs ∧ E = [.own 27 2 v qs.length (prs qs)]) := by
  have hm : Mem w [] [] w := Mem.init w
  refine cl_enter Try.func14 rfl Try.ntmps14 rfl ?_
  refine wc_seq ?_
  refine wc_region ?_
  refine wl_y (y_assign (by conv => lhs; whnf)) ?_
  refine wl_nil ?_
  refine then_normal ?_
  refine wc_seq ?_
  refine wc_region ?_
  refine wl_y (y_move (by conv => lhs; whnf)) ?_
  refine wl_y (y_lenSl (by conv => lhs; whnf) (hl.step hm.upd) Try.underlying22) ?_
  refine wl_y (y_min rfl rfl) ?_
  refine wl_y (y_max rfl rfl) ?_
  refine wl_y (y_assign (by conv => lhs; whnf)) ?_
  refine wl_nil ?_
  refine then_normal ?_
  refine wc_seq ?_
  refine wc_region ?_
  obtain ⟨k, hk⟩ : ∃ k : Nat, max 1 (min (ps.length : Int) 5) = k := ⟨max 1 (min ps.length 5), by omega⟩
  rw [hk]
  have hk5 : 1 ≤ k ∧ k ≤ 5 := by omega
  refine wl_y (y_assign (by conv => lhs; whnf)) ?_
  have hm := hm.ownNil 27 2
  refine wl_nil ?_
  refine then_normal ?_
  refine wc_seq ?_
  refine wc_seq ?_
  refine wc_region ?_
  refine wl_y (y_assign (by conv => lhs; whnf)) ?_
  refine wl_nil ?_
  refine then_normal ?_
  refine wc_block ?_
  refine wc_loop [6, 7, 8, 9, 10, 19, 20, 21, 22, 23, 24, 25, 26, 27, 28, 29, 30, 31, 32, 33, 34, 35, 36, 37, 38, 39, 40, 41, 42, 43, 44, 45, 46, 47, 48, 49, 50, 51, 52, 53, 54, 55, 56, 57, 58, 59, 60, 61, 62, 63, 64, 65, 66, 67, 68, 69, 70, 71, 72, 73, 74, 75, 76, 77, 78, 79, 80, 81, 82, 83, 84, 85, 86] (fun ((v, qs, vo) : Nat × List (Int × Int) × Value) => [(7, .int .i64 (v : Int)), (6, vo)]) (fun ((v, qs, vo) : Nat × List (Int × Int) × Value) W => Mem w [] [.own 27 2 vo v (prs qs)] W ∧ v ≤ k ∧ qs.length = v ∧ RowsOk k j qs) (fun ((v, qs, vo) : Nat × List (Int × Int) × Value) => k - v) ((0, [], .slice none 0 0) : Nat × List (Int × Int) × Value) ?_ ?_ ?_
  · exact ⟨rfl, rfl, trivial⟩
  · exact ⟨hm, Nat.zero_le _, rfl, fun i hi => absurd hi (Nat.not_lt_zero i)⟩
  · rintro ⟨v, qs, vo⟩ u W ⟨hm, hv, hq, hrows⟩
    refine wc_seq ?_
    refine wc_seq ?_
    refine wc_region ?_
    refine wl_y (y_move (by conv => lhs; whnf)) ?_
    refine wl_y (y_move (by conv => lhs; whnf)) ?_
    refine wl_y (y_lss rfl rfl) ?_
    refine wl_nil ?_
    refine then_normal ?_
    refine wc_cond_dec rfl (fun h1 => ?_) (fun h1 => ?_)
    · skip
      refine wc_skip ?_
      refine then_normal ?_
      refine wc_seq ?_
      refine wc_block ?_
      refine wc_seq ?_
      refine wc_region ?_
      refine wl_y (y_buildL (cells := #[.int .i64 (-1), .int .i64 (-1)]) rfl (by kernel_rfl)) ?_
      refine wl_alloc hm ti27 (fun W b8 hm hb8 hu => ?_)
      refine wl_storeBlk (i := 1) (vs := pcells (-1, -1)) hm rfl rfl rfl ti27 rfl rfl (by simp [pcells, Value.oneCell']) (fun W hm => ?_)
      refine wl_nil ?_
      refine then_normal ?_
      refine wc_seq ?_
      refine wc_seq ?_
      refine wc_region ?_
      refine wl_y (y_assign (by conv => lhs; whnf)) ?_
      refine wl_nil ?_
      refine then_normal ?_
      refine wc_block ?_
      refine wc_loop [9, 25, 26, 27, 28, 29, 30, 31, 32, 33, 34, 35, 36, 37, 38, 39, 40, 41, 42, 43, 44, 45, 46, 47, 48, 49] (fun ((x, r) : Nat × (Int × Int)) => [(9, .int .i64 (x : Int))]) (fun ((x, r) : Nat × (Int × Int)) W => Mem w [] [.own 27 2 vo v (prs qs), .blk b8 27 (pcells r)] W ∧ x ≤ 2 ∧ RwOk k r) (fun ((x, r) : Nat × (Int × Int)) => 2 - x) ((0, (-1, -1)) : Nat × (Int × Int)) ?_ ?_ ?_
      · exact ⟨rfl, trivial⟩
      · exact ⟨hm, Nat.zero_le _, ⟨by simp only; omega, by simp only; omega⟩⟩
      · rintro ⟨x, r⟩ u W ⟨hm, hx, hr⟩
        refine wc_seq ?_
        refine wc_seq ?_
        refine wc_region ?_
        refine wl_y (y_move (by conv => lhs; whnf)) ?_
        refine wl_y (y_lss rfl rfl) ?_
        refine wl_split rfl (fun h2 => ?_) (fun h2 => ?_)
        · skip
          refine wl_guard_yes rfl ?_
          refine wl_y (y_move (by conv => lhs; whnf)) ?_
          refine wl_guard_yes rfl ?_
          refine wl_y (y_move (by conv => lhs; whnf)) ?_
          refine wl_guard_yes rfl ?_
          refine wl_y (y_lenSl (by conv => lhs; whnf) (hl.step hm.upd) Try.underlying22) ?_
          refine wl_guard_yes rfl ?_
          refine wl_y (y_lss rfl rfl) ?_
          refine wl_y (y_pick_true rfl (by conv => lhs; whnf)) ?_
          refine wl_nil ?_
          refine then_normal ?_
          refine wc_cond_dec rfl (fun h3 => ?_) (fun h3 => ?_)
          · skip
            refine wc_skip ?_
            refine then_normal ?_
            refine wc_seq ?_
            refine wc_block ?_
            refine wc_region ?_
            refine wl_y (y_move (by conv => lhs; whnf)) ?_
            refine wl_y (y_move (by conv => lhs; whnf)) ?_
            refine wl_y (y_move (by conv => lhs; whnf)) ?_
            refine wl_y (y_move (by conv => lhs; whnf)) ?_
            refine wl_y (y_indexAddr (by conv => lhs; whnf) rfl (hl.step hm.upd) (by omega) Try.underlying22 ti27 (by decide)) ?_
            refine wl_y (y_indexArrSl rfl rfl (hl.step hm.upd) (by simp; omega) (by omega) Try.underlying27 ti3) ?_
            refine wl_y (y_loadSl rfl (hl.step hm.upd) (by first | exact tabR_at0 (by omega) | exact tabR_aI (by omega) (by omega)) Try.underlying3 rfl) ?_
            refine wl_y (y_convW rfl Try.underlying3 Try.underlying39) ?_
            refine wl_y (y_move (by conv => lhs; whnf)) ?_
            refine wl_y (y_add64 rfl rfl (by omega)) ?_
            refine wl_y (y_conv rfl Try.underlying3 Try.underlying39 (IntWalk.u64_in _ (by omega))) ?_
            have hur := u64_range (tabR ps (v : Int).toNat x)
            have hmd := mod_lt (k := k + 1) (by omega) (IntKind.u64.wrap (tabR ps (v : Int).toNat x))
            rw [show ((k + 1 : Nat) : Int) = (k : Int) + 1 by omega] at hmd
            refine wl_y (y_rem rfl rfl (by omega)) ?_
            refine wl_y (y_conv rfl Try.underlying39 Try.underlying3 (IntWalk.i64_in _ (by omega))) ?_
            refine wl_y (y_sub64 rfl rfl (by omega)) ?_
            refine wl_y (y_indexArr rfl rfl (by omega) Try.underlying27 ti3) ?_
            refine wl_store1 (i := 1) (v := .int .i64 (IntKind.u64.wrap (tabR ps (v : Int).toNat x) % ((k : Int) + 1) - 1)) hm rfl rfl rfl ti3 (by simp [pcells] <;> omega) rfl rfl (fun W hm => ?_)
            rw [pcells_set (by omega)] at hm
            have hr := hr.set (x := x) (z := IntKind.u64.wrap (tabR ps (v : Int).toNat x) % ((k : Int) + 1) - 1) (by omega)
            refine wl_nil ?_
            refine block_normal ?_
            refine then_normal ?_
            refine wc_region ?_
            refine wl_y (y_move (by conv => lhs; whnf)) ?_
            refine wl_y (y_add64 rfl rfl (by omega)) ?_
            refine wl_y (y_assign (by conv => lhs; whnf)) ?_
            refine wl_nil ?_
            refine next_round (σ := Nat × (Int × Int)) (x + 1, rset r x (IntKind.u64.wrap (tabR ps (v : Int).toNat x) % ((k : Int) + 1) - 1)) rfl (by repeat first | exact out_hav | refine out_look rfl ?_ | refine out_havIn rfl ?_) ⟨rfl, trivial⟩ ⟨hm, by omega, hr⟩ (by (try dsimp only); omega)
          · skip
            refine wc_exit ?_
            refine then_exit ?_
            refine then_exit ?_
            refine block_exit ?_
            refine then_normal ?_
            refine wc_seq ?_
            refine wc_seq ?_
            refine wc_region ?_
            refine wl_y (y_move (by conv => lhs; whnf)) ?_
            refine wl_nil ?_
            refine then_normal ?_
            refine wc_cond rfl (fun h4 => ?_) (fun h4 => ?_)
            · have hjt : j = true := h4
              refine wc_seq ?_
              refine wc_region ?_
              refine wl_y (y_assign (by conv => lhs; whnf)) ?_
              refine wl_nil ?_
              refine then_normal ?_
              refine wc_seq ?_
              refine wc_seq ?_
              refine wc_region ?_
              refine wl_y (y_move (by conv => lhs; whnf)) ?_
              refine wl_y (y_move (by conv => lhs; whnf)) ?_
              refine wl_y (y_lenSl (by conv => lhs; whnf) (hl.step hm.upd) Try.underlying22) ?_
              refine wl_y (y_lss rfl rfl) ?_
              refine wl_nil ?_
              refine then_normal ?_
              refine wc_cond_dec rfl (fun h5 => ?_) (fun h5 => ?_)
              · skip
                refine wc_region ?_
                refine wl_y (y_move (by conv => lhs; whnf)) ?_
                refine wl_y (y_move (by conv => lhs; whnf)) ?_
                refine wl_y (y_indexAddr (by conv => lhs; whnf) rfl (hl.step hm.upd) (by omega) Try.underlying22 ti27 (by decide)) ?_
                refine wl_y (y_indexArrSl rfl rfl (hl.step hm.upd) (by simp; omega) (by omega) Try.underlying27 ti3) ?_
                refine wl_y (y_loadSl rfl (hl.step hm.upd) (by first | exact tabR_at0 (by omega) | exact tabR_aI (by omega) (by omega)) Try.underlying3 rfl) ?_
                refine wl_y (y_convW rfl Try.underlying3 Try.underlying39) ?_
                have hur := u64_range (tabR ps (v : Int).toNat 0)
                refine wl_y (y_quoU64 rfl rfl (by omega)) ?_
                refine wl_y (y_rem rfl rfl (by omega)) ?_
                refine wl_y (y_conv rfl Try.underlying39 Try.underlying3 (IntWalk.i64_in _ (by omega))) ?_
                refine wl_y (y_assign (by conv => lhs; whnf)) ?_
                refine wl_nil ?_
                refine then_normal ?_
                refine wc_region ?_
                obtain ⟨xj, hxj, hxj2⟩ : ∃ xj : Nat, IntKind.u64.wrap (tabR ps (v : Int).toNat 0) / 8 % 2 = xj ∧ xj < 2 := ⟨(IntKind.u64.wrap (tabR ps (v : Int).toNat 0) / 8 % 2).toNat, by omega, by omega⟩
                rw [hxj]
                have hmr := mod_lt hk5.1 ((v : Int) + 1)
                refine wl_y (y_move (by conv => lhs; whnf)) ?_
                refine wl_y (y_move (by conv => lhs; whnf)) ?_
                refine wl_y (y_add64 rfl rfl (by omega)) ?_
                refine wl_y (y_move (by conv => lhs; whnf)) ?_
                refine wl_y (y_rem rfl rfl (by omega)) ?_
                refine wl_y (y_indexArr rfl rfl (by omega) Try.underlying27 ti3) ?_
                refine wl_store1 (i := 1) (v := .int .i64 (((v : Int) + 1) % (k : Int))) hm rfl rfl rfl ti3 (by simp [pcells] <;> omega) rfl rfl (fun W hm => ?_)
                rw [pcells_set hxj2] at hm
                obtain ⟨r, hr, hjr, hm⟩ : ∃ r2, RwOk k r2 ∧ (j = true → RingR k v r2) ∧ Mem w [] [.own 27 2 vo v (prs qs), .blk b8 27 (pcells r2)] W := ⟨rset r xj (((v : Int) + 1) % (k : Int)), hr.set (by omega), fun _ => ring_set hxj2, hm⟩
                refine wl_nil ?_
                refine then_normal ?_
                refine wc_seq ?_
                refine wc_seq ?_
                refine wc_region ?_
                refine wl_y (y_indexArr rfl rfl (by omega) Try.underlying27 ti3) ?_
                refine wl_y (y_load rfl (hm.blk_cell 1 rfl rfl) Try.underlying3 rfl) ?_
                refine wl_y (y_lss rfl rfl) ?_
                refine wl_split rfl (fun h6 => ?_) (fun h6 => ?_)
                · skip
                  refine wl_guard_yes rfl ?_
                  refine wl_y (y_indexArr rfl rfl (by omega) Try.underlying27 ti3) ?_
                  refine wl_guard_yes rfl ?_
                  refine wl_y (y_load rfl (hm.blk_cell 1 rfl rfl) Try.underlying3 rfl) ?_
                  refine wl_guard_yes rfl ?_
                  refine wl_y (y_lss rfl rfl) ?_
                  refine wl_y (y_pick_true rfl (by conv => lhs; whnf)) ?_
                  refine wl_nil ?_
                  refine then_normal ?_
                  refine wc_cond_dec rfl (fun h7 => ?_) (fun h7 => ?_)
                  · skip
                    refine wc_region ?_
                    refine wl_y (y_move (by conv => lhs; whnf)) ?_
                    refine wl_y (y_add64 rfl rfl (by omega)) ?_
                    refine wl_y (y_move (by conv => lhs; whnf)) ?_
                    refine wl_y (y_rem rfl rfl (by omega)) ?_
                    refine wl_y (y_indexArr rfl rfl (by omega) Try.underlying27 ti3) ?_
                    have hmr := mod_lt hk5.1 ((v : Int) + 1)
                    refine wl_store1 (i := 1) (v := .int .i64 (((v : Int) + 1) % (k : Int))) hm rfl rfl rfl ti3 (by simp [pcells]) rfl rfl (fun W hm => ?_)
                    rw [pcells_set1] at hm
                    obtain ⟨r, hr, hjr, hm⟩ : ∃ r2, RwOk k r2 ∧ (j = true → RingR k v r2) ∧ Mem w [] [.own 27 2 vo v (prs qs), .blk b8 27 (pcells r2)] W := ⟨rset r 1 (((v : Int) + 1) % (k : Int)), hr.set (by omega), fun _ => ring_set1 r, hm⟩
                    refine wl_nil ?_
                    refine then_normal ?_
                    refine wc_region ?_
                    refine wl_y (y_move (by conv => lhs; whnf)) ?_
                    refine wl_y (y_loadBlk rfl (hm.at (i := 1) rfl) Try.underlying27 rfl ti27) ?_
                    refine wl_lit1 hm rfl Try.underlying22 ti27 rfl (by decide) (fun W v85 hm hu => ?_)
                    have hm : Mem w [] ([.own 27 2 vo v (prs qs), .blk b8 27 (pcells r)] ++ [.own 27 2 v85 1 [.int .i64 r.1, .int .i64 r.2]]) W := hm
                    refine wl_appendTo (i := 0) hm rfl rfl rfl (hm.slAt 2 rfl) (prs_snoc _ _ _) Try.underlying22 ti27 rfl (by decide) (by simp [Value.oneCell']) (by omega) (fun W v86 hm hv86 => ?_)
                    have hm : Mem w [] [.own 27 2 v86 (v + 1) (prs (qs ++ [r]))] W := hm.take 1
                    refine wl_y (y_assign (by conv => lhs; whnf)) ?_
                    refine wl_nil ?_
                    refine block_normal ?_
                    refine then_normal ?_
                    refine wc_region ?_
                    refine wl_y (y_move (by conv => lhs; whnf)) ?_
                    refine wl_y (y_add64 rfl rfl (by omega)) ?_
                    refine wl_y (y_assign (by conv => lhs; whnf)) ?_
                    refine wl_nil ?_
                    refine next_round (σ := Nat × List (Int × Int) × Value) (v + 1, qs ++ [r], v86) rfl (by repeat first | exact out_hav | refine out_look rfl ?_ | refine out_havIn rfl ?_) ⟨rfl, rfl, trivial⟩ ⟨hm, by omega, by rw [List.length_append, hq]; rfl, hrows.snoc hr (by rw [hq]; exact hjr)⟩ (by (try dsimp only); omega)
                  · skip
                    refine wc_skip ?_
                    refine then_normal ?_
                    refine wc_region ?_
                    refine wl_y (y_move (by conv => lhs; whnf)) ?_
                    refine wl_y (y_loadBlk rfl (hm.at (i := 1) rfl) Try.underlying27 rfl ti27) ?_
                    refine wl_lit1 hm rfl Try.underlying22 ti27 rfl (by decide) (fun W v85 hm hu => ?_)
                    have hm : Mem w [] ([.own 27 2 vo v (prs qs), .blk b8 27 (pcells r)] ++ [.own 27 2 v85 1 [.int .i64 r.1, .int .i64 r.2]]) W := hm
                    refine wl_appendTo (i := 0) hm rfl rfl rfl (hm.slAt 2 rfl) (prs_snoc _ _ _) Try.underlying22 ti27 rfl (by decide) (by simp [Value.oneCell']) (by omega) (fun W v86 hm hv86 => ?_)
                    have hm : Mem w [] [.own 27 2 v86 (v + 1) (prs (qs ++ [r]))] W := hm.take 1
                    refine wl_y (y_assign (by conv => lhs; whnf)) ?_
                    refine wl_nil ?_
                    refine block_normal ?_
                    refine then_normal ?_
                    refine wc_region ?_
                    refine wl_y (y_move (by conv => lhs; whnf)) ?_
                    refine wl_y (y_add64 rfl rfl (by omega)) ?_
                    refine wl_y (y_assign (by conv => lhs; whnf)) ?_
                    refine wl_nil ?_
                    refine next_round (σ := Nat × List (Int × Int) × Value) (v + 1, qs ++ [r], v86) rfl (by repeat first | exact out_hav | refine out_look rfl ?_ | refine out_havIn rfl ?_) ⟨rfl, rfl, trivial⟩ ⟨hm, by omega, by rw [List.length_append, hq]; rfl, hrows.snoc hr (by rw [hq]; exact hjr)⟩ (by (try dsimp only); omega)
                · skip
                  refine wl_guard_no rfl ?_
                  refine wl_guard_no rfl ?_
                  refine wl_guard_no rfl ?_
                  refine wl_y (y_pick_false rfl (by conv => lhs; whnf)) ?_
                  refine wl_nil ?_
                  refine then_normal ?_
                  refine wc_cond_false rfl ?_
                  refine wc_skip ?_
                  refine then_normal ?_
                  refine wc_region ?_
                  refine wl_y (y_move (by conv => lhs; whnf)) ?_
                  refine wl_y (y_loadBlk rfl (hm.at (i := 1) rfl) Try.underlying27 rfl ti27) ?_
                  refine wl_lit1 hm rfl Try.underlying22 ti27 rfl (by decide) (fun W v85 hm hu => ?_)
                  have hm : Mem w [] ([.own 27 2 vo v (prs qs), .blk b8 27 (pcells r)] ++ [.own 27 2 v85 1 [.int .i64 r.1, .int .i64 r.2]]) W := hm
                  refine wl_appendTo (i := 0) hm rfl rfl rfl (hm.slAt 2 rfl) (prs_snoc _ _ _) Try.underlying22 ti27 rfl (by decide) (by simp [Value.oneCell']) (by omega) (fun W v86 hm hv86 => ?_)
                  have hm : Mem w [] [.own 27 2 v86 (v + 1) (prs (qs ++ [r]))] W := hm.take 1
                  refine wl_y (y_assign (by conv => lhs; whnf)) ?_
                  refine wl_nil ?_
                  refine block_normal ?_
                  refine then_normal ?_
                  refine wc_region ?_
                  refine wl_y (y_move (by conv => lhs; whnf)) ?_
                  refine wl_y (y_add64 rfl rfl (by omega)) ?_
                  refine wl_y (y_assign (by conv => lhs; whnf)) ?_
                  refine wl_nil ?_
                  refine next_round (σ := Nat × List (Int × Int) × Value) (v + 1, qs ++ [r], v86) rfl (by repeat first | exact out_hav | refine out_look rfl ?_ | refine out_havIn rfl ?_) ⟨rfl, rfl, trivial⟩ ⟨hm, by omega, by rw [List.length_append, hq]; rfl, hrows.snoc hr (by rw [hq]; exact hjr)⟩ (by (try dsimp only); omega)
              · skip
                refine wc_skip ?_
                refine then_normal ?_
                refine wc_region ?_
                have hxj2 : (0 : Nat) < 2 := by decide
                skip
                have hmr := mod_lt hk5.1 ((v : Int) + 1)
                refine wl_y (y_move (by conv => lhs; whnf)) ?_
                refine wl_y (y_move (by conv => lhs; whnf)) ?_
                refine wl_y (y_add64 rfl rfl (by omega)) ?_
                refine wl_y (y_move (by conv => lhs; whnf)) ?_
                refine wl_y (y_rem rfl rfl (by omega)) ?_
                refine wl_y (y_indexArr rfl rfl (by omega) Try.underlying27 ti3) ?_
                refine wl_store1 (i := 1) (v := .int .i64 (((v : Int) + 1) % (k : Int))) hm rfl rfl rfl ti3 (by simp [pcells] <;> omega) rfl rfl (fun W hm => ?_)
                rw [pcells_set0] at hm
                obtain ⟨r, hr, hjr, hm⟩ : ∃ r2, RwOk k r2 ∧ (j = true → RingR k v r2) ∧ Mem w [] [.own 27 2 vo v (prs qs), .blk b8 27 (pcells r2)] W := ⟨rset r 0 (((v : Int) + 1) % (k : Int)), hr.set (by omega), fun _ => ring_set hxj2, hm⟩
                refine wl_nil ?_
                refine then_normal ?_
                refine wc_seq ?_
                refine wc_seq ?_
                refine wc_region ?_
                refine wl_y (y_indexArr rfl rfl (by omega) Try.underlying27 ti3) ?_
                refine wl_y (y_load rfl (hm.blk_cell 1 rfl rfl) Try.underlying3 rfl) ?_
                refine wl_y (y_lss rfl rfl) ?_
                refine wl_split rfl (fun h8 => ?_) (fun h8 => ?_)
                · skip
                  refine wl_guard_yes rfl ?_
                  refine wl_y (y_indexArr rfl rfl (by omega) Try.underlying27 ti3) ?_
                  refine wl_guard_yes rfl ?_
                  refine wl_y (y_load rfl (hm.blk_cell 1 rfl rfl) Try.underlying3 rfl) ?_
                  refine wl_guard_yes rfl ?_
                  refine wl_y (y_lss rfl rfl) ?_
                  refine wl_y (y_pick_true rfl (by conv => lhs; whnf)) ?_
                  refine wl_nil ?_
                  refine then_normal ?_
                  refine wc_cond_dec rfl (fun h9 => ?_) (fun h9 => ?_)
                  · skip
                    refine wc_region ?_
                    refine wl_y (y_move (by conv => lhs; whnf)) ?_
                    refine wl_y (y_add64 rfl rfl (by omega)) ?_
                    refine wl_y (y_move (by conv => lhs; whnf)) ?_
                    refine wl_y (y_rem rfl rfl (by omega)) ?_
                    refine wl_y (y_indexArr rfl rfl (by omega) Try.underlying27 ti3) ?_
                    have hmr := mod_lt hk5.1 ((v : Int) + 1)
                    refine wl_store1 (i := 1) (v := .int .i64 (((v : Int) + 1) % (k : Int))) hm rfl rfl rfl ti3 (by simp [pcells]) rfl rfl (fun W hm => ?_)
                    rw [pcells_set1] at hm
                    obtain ⟨r, hr, hjr, hm⟩ : ∃ r2, RwOk k r2 ∧ (j = true → RingR k v r2) ∧ Mem w [] [.own 27 2 vo v (prs qs), .blk b8 27 (pcells r2)] W := ⟨rset r 1 (((v : Int) + 1) % (k : Int)), hr.set (by omega), fun _ => ring_set1 r, hm⟩
                    refine wl_nil ?_
                    refine then_normal ?_
                    refine wc_region ?_
                    refine wl_y (y_move (by conv => lhs; whnf)) ?_
                    refine wl_y (y_loadBlk rfl (hm.at (i := 1) rfl) Try.underlying27 rfl ti27) ?_
                    refine wl_lit1 hm rfl Try.underlying22 ti27 rfl (by decide) (fun W v85 hm hu => ?_)
                    have hm : Mem w [] ([.own 27 2 vo v (prs qs), .blk b8 27 (pcells r)] ++ [.own 27 2 v85 1 [.int .i64 r.1, .int .i64 r.2]]) W := hm
                    refine wl_appendTo (i := 0) hm rfl rfl rfl (hm.slAt 2 rfl) (prs_snoc _ _ _) Try.underlying22 ti27 rfl (by decide) (by simp [Value.oneCell']) (by omega) (fun W v86 hm hv86 => ?_)
                    have hm : Mem w [] [.own 27 2 v86 (v + 1) (prs (qs ++ [r]))] W := hm.take 1
                    refine wl_y (y_assign (by conv => lhs; whnf)) ?_
                    refine wl_nil ?_
                    refine block_normal ?_
                    refine then_normal ?_
                    refine wc_region ?_
                    refine wl_y (y_move (by conv => lhs; whnf)) ?_
                    refine wl_y (y_add64 rfl rfl (by omega)) ?_
                    refine wl_y (y_assign (by conv => lhs; whnf)) ?_
                    refine wl_nil ?_
                    refine next_round (σ := Nat × List (Int × Int) × Value) (v + 1, qs ++ [r], v86) rfl (by repeat first | exact out_hav | refine out_look rfl ?_ | refine out_havIn rfl ?_) ⟨rfl, rfl, trivial⟩ ⟨hm, by omega, by rw [List.length_append, hq]; rfl, hrows.snoc hr (by rw [hq]; exact hjr)⟩ (by (try dsimp only); omega)
                  · skip
                    refine wc_skip ?_
                    refine then_normal ?_
                    refine wc_region ?_
                    refine wl_y (y_move (by conv => lhs; whnf)) ?_
                    refine wl_y (y_loadBlk rfl (hm.at (i := 1) rfl) Try.underlying27 rfl ti27) ?_
                    refine wl_lit1 hm rfl Try.underlying22 ti27 rfl (by decide) (fun W v85 hm hu => ?_)
                    have hm : Mem w [] ([.own 27 2 vo v (prs qs), .blk b8 27 (pcells r)] ++ [.own 27 2 v85 1 [.int .i64 r.1, .int .i64 r.2]]) W := hm
                    refine wl_appendTo (i := 0) hm rfl rfl rfl (hm.slAt 2 rfl) (prs_snoc _ _ _) Try.underlying22 ti27 rfl (by decide) (by simp [Value.oneCell']) (by omega) (fun W v86 hm hv86 => ?_)
                    have hm : Mem w [] [.own 27 2 v86 (v + 1) (prs (qs ++ [r]))] W := hm.take 1
                    refine wl_y (y_assign (by conv => lhs; whnf)) ?_
                    refine wl_nil ?_
                    refine block_normal ?_
                    refine then_normal ?_
                    refine wc_region ?_
                    refine wl_y (y_move (by conv => lhs; whnf)) ?_
                    refine wl_y (y_add64 rfl rfl (by omega)) ?_
                    refine wl_y (y_assign (by conv => lhs; whnf)) ?_
                    refine wl_nil ?_
                    refine next_round (σ := Nat × List (Int × Int) × Value) (v + 1, qs ++ [r], v86) rfl (by repeat first | exact out_hav | refine out_look rfl ?_ | refine out_havIn rfl ?_) ⟨rfl, rfl, trivial⟩ ⟨hm, by omega, by rw [List.length_append, hq]; rfl, hrows.snoc hr (by rw [hq]; exact hjr)⟩ (by (try dsimp only); omega)
                · skip
                  refine wl_guard_no rfl ?_
                  refine wl_guard_no rfl ?_
                  refine wl_guard_no rfl ?_
                  refine wl_y (y_pick_false rfl (by conv => lhs; whnf)) ?_
                  refine wl_nil ?_
                  refine then_normal ?_
                  refine wc_cond_false rfl ?_
                  refine wc_skip ?_
                  refine then_normal ?_
                  refine wc_region ?_
                  refine wl_y (y_move (by conv => lhs; whnf)) ?_
                  refine wl_y (y_loadBlk rfl (hm.at (i := 1) rfl) Try.underlying27 rfl ti27) ?_
                  refine wl_lit1 hm rfl Try.underlying22 ti27 rfl (by decide) (fun W v85 hm hu => ?_)
                  have hm : Mem w [] ([.own 27 2 vo v (prs qs), .blk b8 27 (pcells r)] ++ [.own 27 2 v85 1 [.int .i64 r.1, .int .i64 r.2]]) W := hm
                  refine wl_appendTo (i := 0) hm rfl rfl rfl (hm.slAt 2 rfl) (prs_snoc _ _ _) Try.underlying22 ti27 rfl (by decide) (by simp [Value.oneCell']) (by omega) (fun W v86 hm hv86 => ?_)
                  have hm : Mem w [] [.own 27 2 v86 (v + 1) (prs (qs ++ [r]))] W := hm.take 1
                  refine wl_y (y_assign (by conv => lhs; whnf)) ?_
                  refine wl_nil ?_
                  refine block_normal ?_
                  refine then_normal ?_
                  refine wc_region ?_
                  refine wl_y (y_move (by conv => lhs; whnf)) ?_
                  refine wl_y (y_add64 rfl rfl (by omega)) ?_
                  refine wl_y (y_assign (by conv => lhs; whnf)) ?_
                  refine wl_nil ?_
                  refine next_round (σ := Nat × List (Int × Int) × Value) (v + 1, qs ++ [r], v86) rfl (by repeat first | exact out_hav | refine out_look rfl ?_ | refine out_havIn rfl ?_) ⟨rfl, rfl, trivial⟩ ⟨hm, by omega, by rw [List.length_append, hq]; rfl, hrows.snoc hr (by rw [hq]; exact hjr)⟩ (by (try dsimp only); omega)
            · have hjf : j = false := h4
              obtain ⟨r, hr, hjr, hm⟩ : ∃ r2, RwOk k r2 ∧ (j = true → RingR k v r2) ∧ Mem w [] [.own 27 2 vo v (prs qs), .blk b8 27 (pcells r2)] W := ⟨r, hr, (fun h => absurd h (by rw [hjf]; decide)), hm⟩
              refine wc_skip ?_
              refine then_normal ?_
              refine wc_seq ?_
              refine wc_seq ?_
              refine wc_region ?_
              refine wl_y (y_indexArr rfl rfl (by omega) Try.underlying27 ti3) ?_
              refine wl_y (y_load rfl (hm.blk_cell 1 rfl rfl) Try.underlying3 rfl) ?_
              refine wl_y (y_lss rfl rfl) ?_
              refine wl_split rfl (fun h10 => ?_) (fun h10 => ?_)
              · skip
                refine wl_guard_yes rfl ?_
                refine wl_y (y_indexArr rfl rfl (by omega) Try.underlying27 ti3) ?_
                refine wl_guard_yes rfl ?_
                refine wl_y (y_load rfl (hm.blk_cell 1 rfl rfl) Try.underlying3 rfl) ?_
                refine wl_guard_yes rfl ?_
                refine wl_y (y_lss rfl rfl) ?_
                refine wl_y (y_pick_true rfl (by conv => lhs; whnf)) ?_
                refine wl_nil ?_
                refine then_normal ?_
                refine wc_cond_dec rfl (fun h11 => ?_) (fun h11 => ?_)
                · skip
                  refine wc_region ?_
                  refine wl_y (y_move (by conv => lhs; whnf)) ?_
                  refine wl_y (y_add64 rfl rfl (by omega)) ?_
                  refine wl_y (y_move (by conv => lhs; whnf)) ?_
                  refine wl_y (y_rem rfl rfl (by omega)) ?_
                  refine wl_y (y_indexArr rfl rfl (by omega) Try.underlying27 ti3) ?_
                  have hmr := mod_lt hk5.1 ((v : Int) + 1)
                  refine wl_store1 (i := 1) (v := .int .i64 (((v : Int) + 1) % (k : Int))) hm rfl rfl rfl ti3 (by simp [pcells]) rfl rfl (fun W hm => ?_)
                  rw [pcells_set1] at hm
                  obtain ⟨r, hr, hjr, hm⟩ : ∃ r2, RwOk k r2 ∧ (j = true → RingR k v r2) ∧ Mem w [] [.own 27 2 vo v (prs qs), .blk b8 27 (pcells r2)] W := ⟨rset r 1 (((v : Int) + 1) % (k : Int)), hr.set (by omega), fun _ => ring_set1 r, hm⟩
                  refine wl_nil ?_
                  refine then_normal ?_
                  refine wc_region ?_
                  refine wl_y (y_move (by conv => lhs; whnf)) ?_
                  refine wl_y (y_loadBlk rfl (hm.at (i := 1) rfl) Try.underlying27 rfl ti27) ?_
                  refine wl_lit1 hm rfl Try.underlying22 ti27 rfl (by decide) (fun W v85 hm hu => ?_)
                  have hm : Mem w [] ([.own 27 2 vo v (prs qs), .blk b8 27 (pcells r)] ++ [.own 27 2 v85 1 [.int .i64 r.1, .int .i64 r.2]]) W := hm
                  refine wl_appendTo (i := 0) hm rfl rfl rfl (hm.slAt 2 rfl) (prs_snoc _ _ _) Try.underlying22 ti27 rfl (by decide) (by simp [Value.oneCell']) (by omega) (fun W v86 hm hv86 => ?_)
                  have hm : Mem w [] [.own 27 2 v86 (v + 1) (prs (qs ++ [r]))] W := hm.take 1
                  refine wl_y (y_assign (by conv => lhs; whnf)) ?_
                  refine wl_nil ?_
                  refine block_normal ?_
                  refine then_normal ?_
                  refine wc_region ?_
                  refine wl_y (y_move (by conv => lhs; whnf)) ?_
                  refine wl_y (y_add64 rfl rfl (by omega)) ?_
                  refine wl_y (y_assign (by conv => lhs; whnf)) ?_
                  refine wl_nil ?_
                  refine next_round (σ := Nat × List (Int × Int) × Value) (v + 1, qs ++ [r], v86) rfl (by repeat first | exact out_hav | refine out_look rfl ?_ | refine out_havIn rfl ?_) ⟨rfl, rfl, trivial⟩ ⟨hm, by omega, by rw [List.length_append, hq]; rfl, hrows.snoc hr (by rw [hq]; exact hjr)⟩ (by (try dsimp only); omega)
                · skip
                  refine wc_skip ?_
                  refine then_normal ?_
                  refine wc_region ?_
                  refine wl_y (y_move (by conv => lhs; whnf)) ?_
                  refine wl_y (y_loadBlk rfl (hm.at (i := 1) rfl) Try.underlying27 rfl ti27) ?_
                  refine wl_lit1 hm rfl Try.underlying22 ti27 rfl (by decide) (fun W v85 hm hu => ?_)
                  have hm : Mem w [] ([.own 27 2 vo v (prs qs), .blk b8 27 (pcells r)] ++ [.own 27 2 v85 1 [.int .i64 r.1, .int .i64 r.2]]) W := hm
                  refine wl_appendTo (i := 0) hm rfl rfl rfl (hm.slAt 2 rfl) (prs_snoc _ _ _) Try.underlying22 ti27 rfl (by decide) (by simp [Value.oneCell']) (by omega) (fun W v86 hm hv86 => ?_)
                  have hm : Mem w [] [.own 27 2 v86 (v + 1) (prs (qs ++ [r]))] W := hm.take 1
                  refine wl_y (y_assign (by conv => lhs; whnf)) ?_
                  refine wl_nil ?_
                  refine block_normal ?_
                  refine then_normal ?_
                  refine wc_region ?_
                  refine wl_y (y_move (by conv => lhs; whnf)) ?_
                  refine wl_y (y_add64 rfl rfl (by omega)) ?_
                  refine wl_y (y_assign (by conv => lhs; whnf)) ?_
                  refine wl_nil ?_
                  refine next_round (σ := Nat × List (Int × Int) × Value) (v + 1, qs ++ [r], v86) rfl (by repeat first | exact out_hav | refine out_look rfl ?_ | refine out_havIn rfl ?_) ⟨rfl, rfl, trivial⟩ ⟨hm, by omega, by rw [List.length_append, hq]; rfl, hrows.snoc hr (by rw [hq]; exact hjr)⟩ (by (try dsimp only); omega)
              · skip
                refine wl_guard_no rfl ?_
                refine wl_guard_no rfl ?_
                refine wl_guard_no rfl ?_
                refine wl_y (y_pick_false rfl (by conv => lhs; whnf)) ?_
                refine wl_nil ?_
                refine then_normal ?_
                refine wc_cond_false rfl ?_
                refine wc_skip ?_
                refine then_normal ?_
                refine wc_region ?_
                refine wl_y (y_move (by conv => lhs; whnf)) ?_
                refine wl_y (y_loadBlk rfl (hm.at (i := 1) rfl) Try.underlying27 rfl ti27) ?_
                refine wl_lit1 hm rfl Try.underlying22 ti27 rfl (by decide) (fun W v85 hm hu => ?_)
                have hm : Mem w [] ([.own 27 2 vo v (prs qs), .blk b8 27 (pcells r)] ++ [.own 27 2 v85 1 [.int .i64 r.1, .int .i64 r.2]]) W := hm
                refine wl_appendTo (i := 0) hm rfl rfl rfl (hm.slAt 2 rfl) (prs_snoc _ _ _) Try.underlying22 ti27 rfl (by decide) (by simp [Value.oneCell']) (by omega) (fun W v86 hm hv86 => ?_)
                have hm : Mem w [] [.own 27 2 v86 (v + 1) (prs (qs ++ [r]))] W := hm.take 1
                refine wl_y (y_assign (by conv => lhs; whnf)) ?_
                refine wl_nil ?_
                refine block_normal ?_
                refine then_normal ?_
                refine wc_region ?_
                refine wl_y (y_move (by conv => lhs; whnf)) ?_
                refine wl_y (y_add64 rfl rfl (by omega)) ?_
                refine wl_y (y_assign (by conv => lhs; whnf)) ?_
                refine wl_nil ?_
                refine next_round (σ := Nat × List (Int × Int) × Value) (v + 1, qs ++ [r], v86) rfl (by repeat first | exact out_hav | refine out_look rfl ?_ | refine out_havIn rfl ?_) ⟨rfl, rfl, trivial⟩ ⟨hm, by omega, by rw [List.length_append, hq]; rfl, hrows.snoc hr (by rw [hq]; exact hjr)⟩ (by (try dsimp only); omega)
        · skip
          refine wl_guard_no rfl ?_
          refine wl_guard_no rfl ?_
          refine wl_guard_no rfl ?_
          refine wl_guard_no rfl ?_
          refine wl_y (y_pick_false rfl (by conv => lhs; whnf)) ?_
          refine wl_nil ?_
          refine then_normal ?_
          refine wc_cond_false rfl ?_
          refine wc_exit ?_
          refine then_exit ?_
          refine then_exit ?_
          refine block_exit ?_
          refine then_normal ?_
          refine wc_seq ?_
          refine wc_seq ?_
          refine wc_region ?_
          refine wl_y (y_move (by conv => lhs; whnf)) ?_
          refine wl_nil ?_
          refine then_normal ?_
          refine wc_cond rfl (fun h12 => ?_) (fun h12 => ?_)
          · have hjt : j = true := h12
            refine wc_seq ?_
            refine wc_region ?_
            refine wl_y (y_assign (by conv => lhs; whnf)) ?_
            refine wl_nil ?_
            refine then_normal ?_
            refine wc_seq ?_
            refine wc_seq ?_
            refine wc_region ?_
            refine wl_y (y_move (by conv => lhs; whnf)) ?_
            refine wl_y (y_move (by conv => lhs; whnf)) ?_
            refine wl_y (y_lenSl (by conv => lhs; whnf) (hl.step hm.upd) Try.underlying22) ?_
            refine wl_y (y_lss rfl rfl) ?_
            refine wl_nil ?_
            refine then_normal ?_
            refine wc_cond_dec rfl (fun h13 => ?_) (fun h13 => ?_)
            · skip
              refine wc_region ?_
              refine wl_y (y_move (by conv => lhs; whnf)) ?_
              refine wl_y (y_move (by conv => lhs; whnf)) ?_
              refine wl_y (y_indexAddr (by conv => lhs; whnf) rfl (hl.step hm.upd) (by omega) Try.underlying22 ti27 (by decide)) ?_
              refine wl_y (y_indexArrSl rfl rfl (hl.step hm.upd) (by simp; omega) (by omega) Try.underlying27 ti3) ?_
              refine wl_y (y_loadSl rfl (hl.step hm.upd) (by first | exact tabR_at0 (by omega) | exact tabR_aI (by omega) (by omega)) Try.underlying3 rfl) ?_
              refine wl_y (y_convW rfl Try.underlying3 Try.underlying39) ?_
              have hur := u64_range (tabR ps (v : Int).toNat 0)
              refine wl_y (y_quoU64 rfl rfl (by omega)) ?_
              refine wl_y (y_rem rfl rfl (by omega)) ?_
              refine wl_y (y_conv rfl Try.underlying39 Try.underlying3 (IntWalk.i64_in _ (by omega))) ?_
              refine wl_y (y_assign (by conv => lhs; whnf)) ?_
              refine wl_nil ?_
              refine then_normal ?_
              refine wc_region ?_
              obtain ⟨xj, hxj, hxj2⟩ : ∃ xj : Nat, IntKind.u64.wrap (tabR ps (v : Int).toNat 0) / 8 % 2 = xj ∧ xj < 2 := ⟨(IntKind.u64.wrap (tabR ps (v : Int).toNat 0) / 8 % 2).toNat, by omega, by omega⟩
              rw [hxj]
              have hmr := mod_lt hk5.1 ((v : Int) + 1)
              refine wl_y (y_move (by conv => lhs; whnf)) ?_
              refine wl_y (y_move (by conv => lhs; whnf)) ?_
              refine wl_y (y_add64 rfl rfl (by omega)) ?_
              refine wl_y (y_move (by conv => lhs; whnf)) ?_
              refine wl_y (y_rem rfl rfl (by omega)) ?_
              refine wl_y (y_indexArr rfl rfl (by omega) Try.underlying27 ti3) ?_
              refine wl_store1 (i := 1) (v := .int .i64 (((v : Int) + 1) % (k : Int))) hm rfl rfl rfl ti3 (by simp [pcells] <;> omega) rfl rfl (fun W hm => ?_)
              rw [pcells_set hxj2] at hm
              obtain ⟨r, hr, hjr, hm⟩ : ∃ r2, RwOk k r2 ∧ (j = true → RingR k v r2) ∧ Mem w [] [.own 27 2 vo v (prs qs), .blk b8 27 (pcells r2)] W := ⟨rset r xj (((v : Int) + 1) % (k : Int)), hr.set (by omega), fun _ => ring_set hxj2, hm⟩
              refine wl_nil ?_
              refine then_normal ?_
              refine wc_seq ?_
              refine wc_seq ?_
              refine wc_region ?_
              refine wl_y (y_indexArr rfl rfl (by omega) Try.underlying27 ti3) ?_
              refine wl_y (y_load rfl (hm.blk_cell 1 rfl rfl) Try.underlying3 rfl) ?_
              refine wl_y (y_lss rfl rfl) ?_
              refine wl_split rfl (fun h14 => ?_) (fun h14 => ?_)
              · skip
                refine wl_guard_yes rfl ?_
                refine wl_y (y_indexArr rfl rfl (by omega) Try.underlying27 ti3) ?_
                refine wl_guard_yes rfl ?_
                refine wl_y (y_load rfl (hm.blk_cell 1 rfl rfl) Try.underlying3 rfl) ?_
                refine wl_guard_yes rfl ?_
                refine wl_y (y_lss rfl rfl) ?_
                refine wl_y (y_pick_true rfl (by conv => lhs; whnf)) ?_
                refine wl_nil ?_
                refine then_normal ?_
                refine wc_cond_dec rfl (fun h15 => ?_) (fun h15 => ?_)
                · skip
                  refine wc_region ?_
                  refine wl_y (y_move (by conv => lhs; whnf)) ?_
                  refine wl_y (y_add64 rfl rfl (by omega)) ?_
                  refine wl_y (y_move (by conv => lhs; whnf)) ?_
                  refine wl_y (y_rem rfl rfl (by omega)) ?_
                  refine wl_y (y_indexArr rfl rfl (by omega) Try.underlying27 ti3) ?_
                  have hmr := mod_lt hk5.1 ((v : Int) + 1)
                  refine wl_store1 (i := 1) (v := .int .i64 (((v : Int) + 1) % (k : Int))) hm rfl rfl rfl ti3 (by simp [pcells]) rfl rfl (fun W hm => ?_)
                  rw [pcells_set1] at hm
                  obtain ⟨r, hr, hjr, hm⟩ : ∃ r2, RwOk k r2 ∧ (j = true → RingR k v r2) ∧ Mem w [] [.own 27 2 vo v (prs qs), .blk b8 27 (pcells r2)] W := ⟨rset r 1 (((v : Int) + 1) % (k : Int)), hr.set (by omega), fun _ => ring_set1 r, hm⟩
                  refine wl_nil ?_
                  refine then_normal ?_
                  refine wc_region ?_
                  refine wl_y (y_move (by conv => lhs; whnf)) ?_
                  refine wl_y (y_loadBlk rfl (hm.at (i := 1) rfl) Try.underlying27 rfl ti27) ?_
                  refine wl_lit1 hm rfl Try.underlying22 ti27 rfl (by decide) (fun W v85 hm hu => ?_)
                  have hm : Mem w [] ([.own 27 2 vo v (prs qs), .blk b8 27 (pcells r)] ++ [.own 27 2 v85 1 [.int .i64 r.1, .int .i64 r.2]]) W := hm
                  refine wl_appendTo (i := 0) hm rfl rfl rfl (hm.slAt 2 rfl) (prs_snoc _ _ _) Try.underlying22 ti27 rfl (by decide) (by simp [Value.oneCell']) (by omega) (fun W v86 hm hv86 => ?_)
                  have hm : Mem w [] [.own 27 2 v86 (v + 1) (prs (qs ++ [r]))] W := hm.take 1
                  refine wl_y (y_assign (by conv => lhs; whnf)) ?_
                  refine wl_nil ?_
                  refine block_normal ?_
                  refine then_normal ?_
                  refine wc_region ?_
                  refine wl_y (y_move (by conv => lhs; whnf)) ?_
                  refine wl_y (y_add64 rfl rfl (by omega)) ?_
                  refine wl_y (y_assign (by conv => lhs; whnf)) ?_
                  refine wl_nil ?_
                  refine next_round (σ := Nat × List (Int × Int) × Value) (v + 1, qs ++ [r], v86) rfl (by repeat first | exact out_hav | refine out_look rfl ?_ | refine out_havIn rfl ?_) ⟨rfl, rfl, trivial⟩ ⟨hm, by omega, by rw [List.length_append, hq]; rfl, hrows.snoc hr (by rw [hq]; exact hjr)⟩ (by (try dsimp only); omega)
                · skip
                  refine wc_skip ?_
                  refine then_normal ?_
                  refine wc_region ?_
                  refine wl_y (y_move (by conv => lhs; whnf)) ?_
                  refine wl_y (y_loadBlk rfl (hm.at (i := 1) rfl) Try.underlying27 rfl ti27) ?_
                  refine wl_lit1 hm rfl Try.underlying22 ti27 rfl (by decide) (fun W v85 hm hu => ?_)
                  have hm : Mem w [] ([.own 27 2 vo v (prs qs), .blk b8 27 (pcells r)] ++ [.own 27 2 v85 1 [.int .i64 r.1, .int .i64 r.2]]) W := hm
                  refine wl_appendTo (i := 0) hm rfl rfl rfl (hm.slAt 2 rfl) (prs_snoc _ _ _) Try.underlying22 ti27 rfl (by decide) (by simp [Value.oneCell']) (by omega) (fun W v86 hm hv86 => ?_)
                  have hm : Mem w [] [.own 27 2 v86 (v + 1) (prs (qs ++ [r]))] W := hm.take 1
                  refine wl_y (y_assign (by conv => lhs; whnf)) ?_
                  refine wl_nil ?_
                  refine block_normal ?_
                  refine then_normal ?_
                  refine wc_region ?_
                  refine wl_y (y_move (by conv => lhs; whnf)) ?_
                  refine wl_y (y_add64 rfl rfl (by omega)) ?_
                  refine wl_y (y_assign (by conv => lhs; whnf)) ?_
                  refine wl_nil ?_
                  refine next_round (σ := Nat × List (Int × Int) × Value) (v + 1, qs ++ [r], v86) rfl (by repeat first | exact out_hav | refine out_look rfl ?_ | refine out_havIn rfl ?_) ⟨rfl, rfl, trivial⟩ ⟨hm, by omega, by rw [List.length_append, hq]; rfl, hrows.snoc hr (by rw [hq]; exact hjr)⟩ (by (try dsimp only); omega)
              · skip
                refine wl_guard_no rfl ?_
                refine wl_guard_no rfl ?_
                refine wl_guard_no rfl ?_
                refine wl_y (y_pick_false rfl (by conv => lhs; whnf)) ?_
                refine wl_nil ?_
                refine then_normal ?_
                refine wc_cond_false rfl ?_
                refine wc_skip ?_
                refine then_normal ?_
                refine wc_region ?_
                refine wl_y (y_move (by conv => lhs; whnf)) ?_
                refine wl_y (y_loadBlk rfl (hm.at (i := 1) rfl) Try.underlying27 rfl ti27) ?_
                refine wl_lit1 hm rfl Try.underlying22 ti27 rfl (by decide) (fun W v85 hm hu => ?_)
                have hm : Mem w [] ([.own 27 2 vo v (prs qs), .blk b8 27 (pcells r)] ++ [.own 27 2 v85 1 [.int .i64 r.1, .int .i64 r.2]]) W := hm
                refine wl_appendTo (i := 0) hm rfl rfl rfl (hm.slAt 2 rfl) (prs_snoc _ _ _) Try.underlying22 ti27 rfl (by decide) (by simp [Value.oneCell']) (by omega) (fun W v86 hm hv86 => ?_)
                have hm : Mem w [] [.own 27 2 v86 (v + 1) (prs (qs ++ [r]))] W := hm.take 1
                refine wl_y (y_assign (by conv => lhs; whnf)) ?_
                refine wl_nil ?_
                refine block_normal ?_
                refine then_normal ?_
                refine wc_region ?_
                refine wl_y (y_move (by conv => lhs; whnf)) ?_
                refine wl_y (y_add64 rfl rfl (by omega)) ?_
                refine wl_y (y_assign (by conv => lhs; whnf)) ?_
                refine wl_nil ?_
                refine next_round (σ := Nat × List (Int × Int) × Value) (v + 1, qs ++ [r], v86) rfl (by repeat first | exact out_hav | refine out_look rfl ?_ | refine out_havIn rfl ?_) ⟨rfl, rfl, trivial⟩ ⟨hm, by omega, by rw [List.length_append, hq]; rfl, hrows.snoc hr (by rw [hq]; exact hjr)⟩ (by (try dsimp only); omega)
            · skip
              refine wc_skip ?_
              refine then_normal ?_
              refine wc_region ?_
              have hxj2 : (0 : Nat) < 2 := by decide
              skip
              have hmr := mod_lt hk5.1 ((v : Int) + 1)
              refine wl_y (y_move (by conv => lhs; whnf)) ?_
              refine wl_y (y_move (by conv => lhs; whnf)) ?_
              refine wl_y (y_add64 rfl rfl (by omega)) ?_
              refine wl_y (y_move (by conv => lhs; whnf)) ?_
              refine wl_y (y_rem rfl rfl (by omega)) ?_
              refine wl_y (y_indexArr rfl rfl (by omega) Try.underlying27 ti3) ?_
              refine wl_store1 (i := 1) (v := .int .i64 (((v : Int) + 1) % (k : Int))) hm rfl rfl rfl ti3 (by simp [pcells] <;> omega) rfl rfl (fun W hm => ?_)
              rw [pcells_set0] at hm
              obtain ⟨r, hr, hjr, hm⟩ : ∃ r2, RwOk k r2 ∧ (j = true → RingR k v r2) ∧ Mem w [] [.own 27 2 vo v (prs qs), .blk b8 27 (pcells r2)] W := ⟨rset r 0 (((v : Int) + 1) % (k : Int)), hr.set (by omega), fun _ => ring_set hxj2, hm⟩
              refine wl_nil ?_
              refine then_normal ?_
              refine wc_seq ?_
              refine wc_seq ?_
              refine wc_region ?_
              refine wl_y (y_indexArr rfl rfl (by omega) Try.underlying27 ti3) ?_
              refine wl_y (y_load rfl (hm.blk_cell 1 rfl rfl) Try.underlying3 rfl) ?_
              refine wl_y (y_lss rfl rfl) ?_
              refine wl_split rfl (fun h16 => ?_) (fun h16 => ?_)
              · skip
                refine wl_guard_yes rfl ?_
                refine wl_y (y_indexArr rfl rfl (by omega) Try.underlying27 ti3) ?_
                refine wl_guard_yes rfl ?_
                refine wl_y (y_load rfl (hm.blk_cell 1 rfl rfl) Try.underlying3 rfl) ?_
                refine wl_guard_yes rfl ?_
                refine wl_y (y_lss rfl rfl) ?_
                refine wl_y (y_pick_true rfl (by conv => lhs; whnf)) ?_
                refine wl_nil ?_
                refine then_normal ?_
                refine wc_cond_dec rfl (fun h17 => ?_) (fun h17 => ?_)
                · skip
                  refine wc_region ?_
                  refine wl_y (y_move (by conv => lhs; whnf)) ?_
                  refine wl_y (y_add64 rfl rfl (by omega)) ?_
                  refine wl_y (y_move (by conv => lhs; whnf)) ?_
                  refine wl_y (y_rem rfl rfl (by omega)) ?_
                  refine wl_y (y_indexArr rfl rfl (by omega) Try.underlying27 ti3) ?_
                  have hmr := mod_lt hk5.1 ((v : Int) + 1)
                  refine wl_store1 (i := 1) (v := .int .i64 (((v : Int) + 1) % (k : Int))) hm rfl rfl rfl ti3 (by simp [pcells]) rfl rfl (fun W hm => ?_)
                  rw [pcells_set1] at hm
                  obtain ⟨r, hr, hjr, hm⟩ : ∃ r2, RwOk k r2 ∧ (j = true → RingR k v r2) ∧ Mem w [] [.own 27 2 vo v (prs qs), .blk b8 27 (pcells r2)] W := ⟨rset r 1 (((v : Int) + 1) % (k : Int)), hr.set (by omega), fun _ => ring_set1 r, hm⟩
                  refine wl_nil ?_
                  refine then_normal ?_
                  refine wc_region ?_
                  refine wl_y (y_move (by conv => lhs; whnf)) ?_
                  refine wl_y (y_loadBlk rfl (hm.at (i := 1) rfl) Try.underlying27 rfl ti27) ?_
                  refine wl_lit1 hm rfl Try.underlying22 ti27 rfl (by decide) (fun W v85 hm hu => ?_)
                  have hm : Mem w [] ([.own 27 2 vo v (prs qs), .blk b8 27 (pcells r)] ++ [.own 27 2 v85 1 [.int .i64 r.1, .int .i64 r.2]]) W := hm
                  refine wl_appendTo (i := 0) hm rfl rfl rfl (hm.slAt 2 rfl) (prs_snoc _ _ _) Try.underlying22 ti27 rfl (by decide) (by simp [Value.oneCell']) (by omega) (fun W v86 hm hv86 => ?_)
                  have hm : Mem w [] [.own 27 2 v86 (v + 1) (prs (qs ++ [r]))] W := hm.take 1
                  refine wl_y (y_assign (by conv => lhs; whnf)) ?_
                  refine wl_nil ?_
                  refine block_normal ?_
                  refine then_normal ?_
                  refine wc_region ?_
                  refine wl_y (y_move (by conv => lhs; whnf)) ?_
                  refine wl_y (y_add64 rfl rfl (by omega)) ?_
                  refine wl_y (y_assign (by conv => lhs; whnf)) ?_
                  refine wl_nil ?_
                  refine next_round (σ := Nat × List (Int × Int) × Value) (v + 1, qs ++ [r], v86) rfl (by repeat first | exact out_hav | refine out_look rfl ?_ | refine out_havIn rfl ?_) ⟨rfl, rfl, trivial⟩ ⟨hm, by omega, by rw [List.length_append, hq]; rfl, hrows.snoc hr (by rw [hq]; exact hjr)⟩ (by (try dsimp only); omega)
                · skip
                  refine wc_skip ?_
                  refine then_normal ?_
                  refine wc_region ?_
                  refine wl_y (y_move (by conv => lhs; whnf)) ?_
                  refine wl_y (y_loadBlk rfl (hm.at (i := 1) rfl) Try.underlying27 rfl ti27) ?_
                  refine wl_lit1 hm rfl Try.underlying22 ti27 rfl (by decide) (fun W v85 hm hu => ?_)
                  have hm : Mem w [] ([.own 27 2 vo v (prs qs), .blk b8 27 (pcells r)] ++ [.own 27 2 v85 1 [.int .i64 r.1, .int .i64 r.2]]) W := hm
                  refine wl_appendTo (i := 0) hm rfl rfl rfl (hm.slAt 2 rfl) (prs_snoc _ _ _) Try.underlying22 ti27 rfl (by decide) (by simp [Value.oneCell']) (by omega) (fun W v86 hm hv86 => ?_)
                  have hm : Mem w [] [.own 27 2 v86 (v + 1) (prs (qs ++ [r]))] W := hm.take 1
                  refine wl_y (y_assign (by conv => lhs; whnf)) ?_
                  refine wl_nil ?_
                  refine block_normal ?_
                  refine then_normal ?_
                  refine wc_region ?_
                  refine wl_y (y_move (by conv => lhs; whnf)) ?_
                  refine wl_y (y_add64 rfl rfl (by omega)) ?_
                  refine wl_y (y_assign (by conv => lhs; whnf)) ?_
                  refine wl_nil ?_
                  refine next_round (σ := Nat × List (Int × Int) × Value) (v + 1, qs ++ [r], v86) rfl (by repeat first | exact out_hav | refine out_look rfl ?_ | refine out_havIn rfl ?_) ⟨rfl, rfl, trivial⟩ ⟨hm, by omega, by rw [List.length_append, hq]; rfl, hrows.snoc hr (by rw [hq]; exact hjr)⟩ (by (try dsimp only); omega)
              · skip
                refine wl_guard_no rfl ?_
                refine wl_guard_no rfl ?_
                refine wl_guard_no rfl ?_
                refine wl_y (y_pick_false rfl (by conv => lhs; whnf)) ?_
                refine wl_nil ?_
                refine then_normal ?_
                refine wc_cond_false rfl ?_
                refine wc_skip ?_
                refine then_normal ?_
                refine wc_region ?_
                refine wl_y (y_move (by conv => lhs; whnf)) ?_
                refine wl_y (y_loadBlk rfl (hm.at (i := 1) rfl) Try.underlying27 rfl ti27) ?_
                refine wl_lit1 hm rfl Try.underlying22 ti27 rfl (by decide) (fun W v85 hm hu => ?_)
                have hm : Mem w [] ([.own 27 2 vo v (prs qs), .blk b8 27 (pcells r)] ++ [.own 27 2 v85 1 [.int .i64 r.1, .int .i64 r.2]]) W := hm
                refine wl_appendTo (i := 0) hm rfl rfl rfl (hm.slAt 2 rfl) (prs_snoc _ _ _) Try.underlying22 ti27 rfl (by decide) (by simp [Value.oneCell']) (by omega) (fun W v86 hm hv86 => ?_)
                have hm : Mem w [] [.own 27 2 v86 (v + 1) (prs (qs ++ [r]))] W := hm.take 1
                refine wl_y (y_assign (by conv => lhs; whnf)) ?_
                refine wl_nil ?_
                refine block_normal ?_
                refine then_normal ?_
                refine wc_region ?_
                refine wl_y (y_move (by conv => lhs; whnf)) ?_
                refine wl_y (y_add64 rfl rfl (by omega)) ?_
                refine wl_y (y_assign (by conv => lhs; whnf)) ?_
                refine wl_nil ?_
                refine next_round (σ := Nat × List (Int × Int) × Value) (v + 1, qs ++ [r], v86) rfl (by repeat first | exact out_hav | refine out_look rfl ?_ | refine out_havIn rfl ?_) ⟨rfl, rfl, trivial⟩ ⟨hm, by omega, by rw [List.length_append, hq]; rfl, hrows.snoc hr (by rw [hq]; exact hjr)⟩ (by (try dsimp only); omega)
          · have hjf : j = false := h12
            obtain ⟨r, hr, hjr, hm⟩ : ∃ r2, RwOk k r2 ∧ (j = true → RingR k v r2) ∧ Mem w [] [.own 27 2 vo v (prs qs), .blk b8 27 (pcells r2)] W := ⟨r, hr, (fun h => absurd h (by rw [hjf]; decide)), hm⟩
            refine wc_skip ?_
            refine then_normal ?_
            refine wc_seq ?_
            refine wc_seq ?_
            refine wc_region ?_
            refine wl_y (y_indexArr rfl rfl (by omega) Try.underlying27 ti3) ?_
            refine wl_y (y_load rfl (hm.blk_cell 1 rfl rfl) Try.underlying3 rfl) ?_
            refine wl_y (y_lss rfl rfl) ?_
            refine wl_split rfl (fun h18 => ?_) (fun h18 => ?_)
            · skip
              refine wl_guard_yes rfl ?_
              refine wl_y (y_indexArr rfl rfl (by omega) Try.underlying27 ti3) ?_
              refine wl_guard_yes rfl ?_
              refine wl_y (y_load rfl (hm.blk_cell 1 rfl rfl) Try.underlying3 rfl) ?_
              refine wl_guard_yes rfl ?_
              refine wl_y (y_lss rfl rfl) ?_
              refine wl_y (y_pick_true rfl (by conv => lhs; whnf)) ?_
              refine wl_nil ?_
              refine then_normal ?_
              refine wc_cond_dec rfl (fun h19 => ?_) (fun h19 => ?_)
              · skip
                refine wc_region ?_
                refine wl_y (y_move (by conv => lhs; whnf)) ?_
                refine wl_y (y_add64 rfl rfl (by omega)) ?_
                refine wl_y (y_move (by conv => lhs; whnf)) ?_
                refine wl_y (y_rem rfl rfl (by omega)) ?_
                refine wl_y (y_indexArr rfl rfl (by omega) Try.underlying27 ti3) ?_
                have hmr := mod_lt hk5.1 ((v : Int) + 1)
                refine wl_store1 (i := 1) (v := .int .i64 (((v : Int) + 1) % (k : Int))) hm rfl rfl rfl ti3 (by simp [pcells]) rfl rfl (fun W hm => ?_)
                rw [pcells_set1] at hm
                obtain ⟨r, hr, hjr, hm⟩ : ∃ r2, RwOk k r2 ∧ (j = true → RingR k v r2) ∧ Mem w [] [.own 27 2 vo v (prs qs), .blk b8 27 (pcells r2)] W := ⟨rset r 1 (((v : Int) + 1) % (k : Int)), hr.set (by omega), fun _ => ring_set1 r, hm⟩
                refine wl_nil ?_
                refine then_normal ?_
                refine wc_region ?_
                refine wl_y (y_move (by conv => lhs; whnf)) ?_
                refine wl_y (y_loadBlk rfl (hm.at (i := 1) rfl) Try.underlying27 rfl ti27) ?_
                refine wl_lit1 hm rfl Try.underlying22 ti27 rfl (by decide) (fun W v85 hm hu => ?_)
                have hm : Mem w [] ([.own 27 2 vo v (prs qs), .blk b8 27 (pcells r)] ++ [.own 27 2 v85 1 [.int .i64 r.1, .int .i64 r.2]]) W := hm
                refine wl_appendTo (i := 0) hm rfl rfl rfl (hm.slAt 2 rfl) (prs_snoc _ _ _) Try.underlying22 ti27 rfl (by decide) (by simp [Value.oneCell']) (by omega) (fun W v86 hm hv86 => ?_)
                have hm : Mem w [] [.own 27 2 v86 (v + 1) (prs (qs ++ [r]))] W := hm.take 1
                refine wl_y (y_assign (by conv => lhs; whnf)) ?_
                refine wl_nil ?_
                refine block_normal ?_
                refine then_normal ?_
                refine wc_region ?_
                refine wl_y (y_move (by conv => lhs; whnf)) ?_
                refine wl_y (y_add64 rfl rfl (by omega)) ?_
                refine wl_y (y_assign (by conv => lhs; whnf)) ?_
                refine wl_nil ?_
                refine next_round (σ := Nat × List (Int × Int) × Value) (v + 1, qs ++ [r], v86) rfl (by repeat first | exact out_hav | refine out_look rfl ?_ | refine out_havIn rfl ?_) ⟨rfl, rfl, trivial⟩ ⟨hm, by omega, by rw [List.length_append, hq]; rfl, hrows.snoc hr (by rw [hq]; exact hjr)⟩ (by (try dsimp only); omega)
              · skip
                refine wc_skip ?_
                refine then_normal ?_
                refine wc_region ?_
                refine wl_y (y_move (by conv => lhs; whnf)) ?_
                refine wl_y (y_loadBlk rfl (hm.at (i := 1) rfl) Try.underlying27 rfl ti27) ?_
                refine wl_lit1 hm rfl Try.underlying22 ti27 rfl (by decide) (fun W v85 hm hu => ?_)
                have hm : Mem w [] ([.own 27 2 vo v (prs qs), .blk b8 27 (pcells r)] ++ [.own 27 2 v85 1 [.int .i64 r.1, .int .i64 r.2]]) W := hm
                refine wl_appendTo (i := 0) hm rfl rfl rfl (hm.slAt 2 rfl) (prs_snoc _ _ _) Try.underlying22 ti27 rfl (by decide) (by simp [Value.oneCell']) (by omega) (fun W v86 hm hv86 => ?_)
                have hm : Mem w [] [.own 27 2 v86 (v + 1) (prs (qs ++ [r]))] W := hm.take 1
                refine wl_y (y_assign (by conv => lhs; whnf)) ?_
                refine wl_nil ?_
                refine block_normal ?_
                refine then_normal ?_
                refine wc_region ?_
                refine wl_y (y_move (by conv => lhs; whnf)) ?_
                refine wl_y (y_add64 rfl rfl (by omega)) ?_
                refine wl_y (y_assign (by conv => lhs; whnf)) ?_
                refine wl_nil ?_
                refine next_round (σ := Nat × List (Int × Int) × Value) (v + 1, qs ++ [r], v86) rfl (by repeat first | exact out_hav | refine out_look rfl ?_ | refine out_havIn rfl ?_) ⟨rfl, rfl, trivial⟩ ⟨hm, by omega, by rw [List.length_append, hq]; rfl, hrows.snoc hr (by rw [hq]; exact hjr)⟩ (by (try dsimp only); omega)
            · skip
              refine wl_guard_no rfl ?_
              refine wl_guard_no rfl ?_
              refine wl_guard_no rfl ?_
              refine wl_y (y_pick_false rfl (by conv => lhs; whnf)) ?_
              refine wl_nil ?_
              refine then_normal ?_
              refine wc_cond_false rfl ?_
              refine wc_skip ?_
              refine then_normal ?_
              refine wc_region ?_
              refine wl_y (y_move (by conv => lhs; whnf)) ?_
              refine wl_y (y_loadBlk rfl (hm.at (i := 1) rfl) Try.underlying27 rfl ti27) ?_
              refine wl_lit1 hm rfl Try.underlying22 ti27 rfl (by decide) (fun W v85 hm hu => ?_)
              have hm : Mem w [] ([.own 27 2 vo v (prs qs), .blk b8 27 (pcells r)] ++ [.own 27 2 v85 1 [.int .i64 r.1, .int .i64 r.2]]) W := hm
              refine wl_appendTo (i := 0) hm rfl rfl rfl (hm.slAt 2 rfl) (prs_snoc _ _ _) Try.underlying22 ti27 rfl (by decide) (by simp [Value.oneCell']) (by omega) (fun W v86 hm hv86 => ?_)
              have hm : Mem w [] [.own 27 2 v86 (v + 1) (prs (qs ++ [r]))] W := hm.take 1
              refine wl_y (y_assign (by conv => lhs; whnf)) ?_
              refine wl_nil ?_
              refine block_normal ?_
              refine then_normal ?_
              refine wc_region ?_
              refine wl_y (y_move (by conv => lhs; whnf)) ?_
              refine wl_y (y_add64 rfl rfl (by omega)) ?_
              refine wl_y (y_assign (by conv => lhs; whnf)) ?_
              refine wl_nil ?_
              refine next_round (σ := Nat × List (Int × Int) × Value) (v + 1, qs ++ [r], v86) rfl (by repeat first | exact out_hav | refine out_look rfl ?_ | refine out_havIn rfl ?_) ⟨rfl, rfl, trivial⟩ ⟨hm, by omega, by rw [List.length_append, hq]; rfl, hrows.snoc hr (by rw [hq]; exact hjr)⟩ (by (try dsimp only); omega)
    · obtain rfl : k = v := by omega
      refine wc_exit ?_
      refine then_exit ?_
      refine then_exit ?_
      refine block_exit ?_
      refine then_normal ?_
      refine wc_seq ?_
      refine wc_seq ?_
      refine wc_region ?_
      refine wl_y (y_assign (by conv => lhs; whnf)) ?_
      refine wl_nil ?_
      refine then_normal ?_
      refine wc_block ?_
      refine wc_loop [11, 12, 13, 87, 88, 89, 90, 91, 92, 93, 94, 95, 96, 97, 98, 99, 100, 101, 102, 103, 104, 105, 106, 107, 108, 109, 110, 111, 112, 113, 114, 115, 116, 117, 118, 119, 120, 121, 122, 123, 124, 125, 126, 127] (fun ((v, qs) : Nat × List (Int × Int)) => [(11, .int .i64 (v : Int))]) (fun ((v, qs) : Nat × List (Int × Int)) W => Mem w [] [.own 27 2 vo k (prs qs)] W ∧ v ≤ k ∧ qs.length = k ∧ RowsOk k j qs) (fun ((v, qs) : Nat × List (Int × Int)) => k - v) ((0, qs) : Nat × List (Int × Int)) ?_ ?_ ?_
      · exact ⟨rfl, trivial⟩
      · exact ⟨hm, Nat.zero_le _, hq, hrows⟩
      · rintro ⟨v, qs⟩ u W ⟨hm, hv, hq, hrows⟩
        refine wc_seq ?_
        refine wc_seq ?_
        refine wc_region ?_
        refine wl_y (y_move (by conv => lhs; whnf)) ?_
        refine wl_y (y_move (by conv => lhs; whnf)) ?_
        refine wl_y (y_lss rfl rfl) ?_
        refine wl_nil ?_
        refine then_normal ?_
        refine wc_cond_dec rfl (fun h20 => ?_) (fun h20 => ?_)
        · skip
          refine wc_skip ?_
          refine then_normal ?_
          refine wc_seq ?_
          refine wc_block ?_
          refine wc_seq ?_
          refine wc_region ?_
          refine wl_y (y_assign (by conv => lhs; whnf)) ?_
          refine wl_nil ?_
          refine then_normal ?_
          refine wc_seq ?_
          refine wc_seq ?_
          refine wc_region ?_
          refine wl_y (y_assign (by conv => lhs; whnf)) ?_
          refine wl_nil ?_
          refine then_normal ?_
          refine wc_block ?_
          refine wc_loop [12, 13, 92, 93, 94, 95, 96, 97, 98, 99, 100, 101, 102, 103, 104, 105, 106, 107, 108, 109, 110, 111, 112, 113, 114, 115] (fun ((s, m) : Nat × Bool) => [(13, .int .i64 (s : Int)), (12, .bool m)]) (fun ((s, m) : Nat × Bool) W => Mem w [] [.own 27 2 vo k (prs qs)] W ∧ s ≤ k) (fun ((s, m) : Nat × Bool) => k - s) ((0, false) : Nat × Bool) ?_ ?_ ?_
          · exact ⟨rfl, rfl, trivial⟩
          · exact ⟨hm, Nat.zero_le _⟩
          · rintro ⟨s, m⟩ u W ⟨hm, hs⟩
            refine wc_seq ?_
            refine wc_seq ?_
            refine wc_region ?_
            refine wl_y (y_move (by conv => lhs; whnf)) ?_
            refine wl_y (y_move (by conv => lhs; whnf)) ?_
            refine wl_y (y_lss rfl rfl) ?_
            refine wl_nil ?_
            refine then_normal ?_
            refine wc_cond_dec rfl (fun h21 => ?_) (fun h21 => ?_)
            · skip
              refine wc_skip ?_
              refine then_normal ?_
              refine wc_seq ?_
              refine wc_block ?_
              refine wc_region ?_
              refine wl_y (y_move (by conv => lhs; whnf)) ?_
              refine wl_splitB rfl (fun h22 => ?_) (fun h22 => ?_)
              · skip
                refine wl_guard_no rfl ?_
                refine wl_guard_no rfl ?_
                refine wl_guard_no rfl ?_
                refine wl_guard_no rfl ?_
                refine wl_guard_no rfl ?_
                refine wl_guard_no rfl ?_
                refine wl_guard_no rfl ?_
                refine wl_y (y_pick_true rfl (by conv => lhs; whnf)) ?_
                refine wl_y (y_move (by conv => lhs; whnf)) ?_
                refine wl_guard_no rfl ?_
                refine wl_guard_no rfl ?_
                refine wl_guard_no rfl ?_
                refine wl_guard_no rfl ?_
                refine wl_guard_no rfl ?_
                refine wl_guard_no rfl ?_
                refine wl_guard_no rfl ?_
                refine wl_y (y_pick_true rfl (by conv => lhs; whnf)) ?_
                refine wl_y (y_assign (by conv => lhs; whnf)) ?_
                refine wl_nil ?_
                refine block_normal ?_
                refine then_normal ?_
                refine wc_region ?_
                refine wl_y (y_move (by conv => lhs; whnf)) ?_
                refine wl_y (y_add64 rfl rfl (by omega)) ?_
                refine wl_y (y_assign (by conv => lhs; whnf)) ?_
                refine wl_nil ?_
                refine next_round (σ := Nat × Bool) (s + 1, _) rfl (by repeat first | exact out_hav | refine out_look rfl ?_ | refine out_havIn rfl ?_) ⟨rfl, rfl, trivial⟩ ⟨hm, by omega⟩ (by (try dsimp only); omega)
              · skip
                refine wl_guard_yes rfl ?_
                refine wl_y (y_move (by conv => lhs; whnf)) ?_
                refine wl_guard_yes rfl ?_
                refine wl_y (y_move (by conv => lhs; whnf)) ?_
                refine wl_guard_yes rfl ?_
                refine wl_y (y_indexAddr (by conv => lhs; whnf) rfl (hm.slAt 0 rfl) (by omega) Try.underlying22 ti27 (by decide)) ?_
                refine wl_guard_yes rfl ?_
                refine wl_y (y_indexArrSl rfl rfl (hm.slAt 0 rfl) (by simp; omega) (by omega) Try.underlying27 ti3) ?_
                refine wl_guard_yes rfl ?_
                refine wl_y (y_loadSl rfl (hm.slAt 0 rfl) (by first | exact tabR_at0 (by omega) | exact tabR_at1 (by omega)) Try.underlying3 rfl) ?_
                refine wl_guard_yes rfl ?_
                refine wl_y (y_move (by conv => lhs; whnf)) ?_
                refine wl_guard_yes rfl ?_
                refine wl_y (y_eql rfl rfl) ?_
                refine wl_y (y_pick_false rfl (by conv => lhs; whnf)) ?_
                refine wl_split rfl (fun h23 => ?_) (fun h23 => ?_)
                · skip
                  refine wl_guard_no rfl ?_
                  refine wl_guard_no rfl ?_
                  refine wl_guard_no rfl ?_
                  refine wl_guard_no rfl ?_
                  refine wl_guard_no rfl ?_
                  refine wl_guard_no rfl ?_
                  refine wl_guard_no rfl ?_
                  refine wl_y (y_pick_true rfl (by conv => lhs; whnf)) ?_
                  refine wl_y (y_assign (by conv => lhs; whnf)) ?_
                  refine wl_nil ?_
                  refine block_normal ?_
                  refine then_normal ?_
                  refine wc_region ?_
                  refine wl_y (y_move (by conv => lhs; whnf)) ?_
                  refine wl_y (y_add64 rfl rfl (by omega)) ?_
                  refine wl_y (y_assign (by conv => lhs; whnf)) ?_
                  refine wl_nil ?_
                  refine next_round (σ := Nat × Bool) (s + 1, _) rfl (by repeat first | exact out_hav | refine out_look rfl ?_ | refine out_havIn rfl ?_) ⟨rfl, rfl, trivial⟩ ⟨hm, by omega⟩ (by (try dsimp only); omega)
                · skip
                  refine wl_guard_yes rfl ?_
                  refine wl_y (y_move (by conv => lhs; whnf)) ?_
                  refine wl_guard_yes rfl ?_
                  refine wl_y (y_move (by conv => lhs; whnf)) ?_
                  refine wl_guard_yes rfl ?_
                  refine wl_y (y_indexAddr (by conv => lhs; whnf) rfl (hm.slAt 0 rfl) (by omega) Try.underlying22 ti27 (by decide)) ?_
                  refine wl_guard_yes rfl ?_
                  refine wl_y (y_indexArrSl rfl rfl (hm.slAt 0 rfl) (by simp; omega) (by omega) Try.underlying27 ti3) ?_
                  refine wl_guard_yes rfl ?_
                  refine wl_y (y_loadSl rfl (hm.slAt 0 rfl) (by first | exact tabR_at0 (by omega) | exact tabR_at1 (by omega)) Try.underlying3 rfl) ?_
                  refine wl_guard_yes rfl ?_
                  refine wl_y (y_move (by conv => lhs; whnf)) ?_
                  refine wl_guard_yes rfl ?_
                  refine wl_y (y_eql rfl rfl) ?_
                  refine wl_y (y_pick_false rfl (by conv => lhs; whnf)) ?_
                  refine wl_y (y_assign (by conv => lhs; whnf)) ?_
                  refine wl_nil ?_
                  refine block_normal ?_
                  refine then_normal ?_
                  refine wc_region ?_
                  refine wl_y (y_move (by conv => lhs; whnf)) ?_
                  refine wl_y (y_add64 rfl rfl (by omega)) ?_
                  refine wl_y (y_assign (by conv => lhs; whnf)) ?_
                  refine wl_nil ?_
                  refine next_round (σ := Nat × Bool) (s + 1, _) rfl (by repeat first | exact out_hav | refine out_look rfl ?_ | refine out_havIn rfl ?_) ⟨rfl, rfl, trivial⟩ ⟨hm, by omega⟩ (by (try dsimp only); omega)
            · obtain rfl : k = s := by omega
              refine wc_exit ?_
              refine then_exit ?_
              refine then_exit ?_
              refine block_exit ?_
              refine then_normal ?_
              refine wc_seq ?_
              refine wc_region ?_
              refine wl_y (y_move (by conv => lhs; whnf)) ?_
              refine wl_y (y_not rfl) ?_
              refine wl_nil ?_
              refine then_normal ?_
              refine wc_cond rfl (fun h24 => ?_) (fun h24 => ?_)
              · skip
                refine wc_region ?_
                obtain ⟨pu, hpu, hpu1, hpu2⟩ := ring_prev (k := k) (v := v) (by omega)
                have hmr := mod_lt hk5.1 ((v : Int) + k - 1)
                refine wl_y (y_move (by conv => lhs; whnf)) ?_
                refine wl_y (y_move (by conv => lhs; whnf)) ?_
                refine wl_y (y_move (by conv => lhs; whnf)) ?_
                refine wl_y (y_add64 rfl rfl (by omega)) ?_
                refine wl_y (y_sub64 rfl rfl (by omega)) ?_
                refine wl_y (y_move (by conv => lhs; whnf)) ?_
                refine wl_y (y_rem rfl rfl (by omega)) ?_
                rw [hpu1]
                refine wl_y (y_move (by conv => lhs; whnf)) ?_
                refine wl_y (y_indexAddr (by conv => lhs; whnf) rfl (hm.slAt 0 rfl) (by omega) Try.underlying22 ti27 (by decide)) ?_
                refine wl_y (y_indexArrSl rfl rfl (hm.slAt 0 rfl) (by simp; omega) (by omega) Try.underlying27 ti3) ?_
                refine wl_storeOwn1 (i := 0) (v := .int .i64 (v : Int)) hm rfl rfl rfl ti3 (by simp; omega) rfl rfl (fun W hm => ?_)
                rw [hpu2, prs_put0 (by omega)] at hm
                refine wl_nil ?_
                refine block_normal ?_
                refine then_normal ?_
                refine wc_region ?_
                refine wl_y (y_move (by conv => lhs; whnf)) ?_
                refine wl_y (y_add64 rfl rfl (by omega)) ?_
                refine wl_y (y_assign (by conv => lhs; whnf)) ?_
                refine wl_nil ?_
                refine next_round (σ := Nat × List (Int × Int)) (v + 1, put0 k qs pu) rfl (by repeat first | exact out_hav | refine out_look rfl ?_ | refine out_havIn rfl ?_) ⟨rfl, trivial⟩ ⟨hm, by omega, by rw [put0_len]; exact hq, hrows.put hk5.1 (by omega)⟩ (by (try dsimp only); omega)
              · skip
                refine wc_skip ?_
                refine block_normal ?_
                refine then_normal ?_
                refine wc_region ?_
                refine wl_y (y_move (by conv => lhs; whnf)) ?_
                refine wl_y (y_add64 rfl rfl (by omega)) ?_
                refine wl_y (y_assign (by conv => lhs; whnf)) ?_
                refine wl_nil ?_
                refine next_round (σ := Nat × List (Int × Int)) (v + 1, qs) rfl (by repeat first | exact out_hav | refine out_look rfl ?_ | refine out_havIn rfl ?_) ⟨rfl, trivial⟩ ⟨hm, by omega, hq, hrows⟩ (by (try dsimp only); omega)
        · obtain rfl : k = v := by omega
          refine wc_exit ?_
          refine then_exit ?_
          refine then_exit ?_
          refine block_exit ?_
          refine then_normal ?_
          refine wc_seq ?_
          refine wc_seq ?_
          refine wc_region ?_
          refine wl_y (y_move (by conv => lhs; whnf)) ?_
          refine wl_callR hm hb49 (rCheck_calls _ _ qs (by rw [hq]; exact hm.slAt 0 rfl)) rfl rfl (fun W hm hu => ?_)
          refine wl_y (y_not rfl) ?_
          refine wl_nil ?_
          refine then_normal ?_
          refine wc_cond rfl (fun h25 => ?_) (fun h25 => ?_)
          · skip
            refine wc_seq ?_
            refine wc_region ?_
            refine wl_y (y_assign (by conv => lhs; whnf)) ?_
            refine wl_nil ?_
            refine then_normal ?_
            refine wc_block ?_
            refine wc_loop [14, 131, 132, 133, 134, 135, 136, 137, 138, 139, 140, 141, 142, 143] (fun ((v, qs) : Nat × List (Int × Int)) => [(14, .int .i64 (v : Int))]) (fun ((v, qs) : Nat × List (Int × Int)) W => Mem w [] [.own 27 2 vo k (prs qs)] W ∧ v ≤ k ∧ qs.length = k ∧ RowsOk k j qs ∧ (∀ i, i < v → (qs.getD i (0, 0)).1 = ((i : Int) + 1) % k)) (fun ((v, qs) : Nat × List (Int × Int)) => k - v) ((0, qs) : Nat × List (Int × Int)) ?_ ?_ ?_
            · exact ⟨rfl, trivial⟩
            · exact ⟨hm, Nat.zero_le _, hq, hrows, fun i hi => absurd hi (Nat.not_lt_zero i)⟩
            · rintro ⟨v, qs⟩ u W ⟨hm, hv, hq, hrows, hset⟩
              refine wc_seq ?_
              refine wc_seq ?_
              refine wc_region ?_
              refine wl_y (y_move (by conv => lhs; whnf)) ?_
              refine wl_y (y_move (by conv => lhs; whnf)) ?_
              refine wl_y (y_lss rfl rfl) ?_
              refine wl_nil ?_
              refine then_normal ?_
              refine wc_cond_dec rfl (fun h26 => ?_) (fun h26 => ?_)
              · skip
                refine wc_skip ?_
                refine then_normal ?_
                refine wc_seq ?_
                refine wc_block ?_
                have hmr := mod_lt hk5.1 ((v : Int) + 1)
                refine wc_draw (C := fun W => Mem w [] [.own 27 2 vo k (prs qs)] W) (some 8) mix (by kernel_rfl) (by kernel_rfl) (Mem.stable _ _ _) (hm.step (upd_drew _)) ?_
                refine al_y (by kernel_rfl) (fun W hm => y_move (by conv => lhs; whnf)) ?_
                refine al_y (by kernel_rfl) (fun W hm => y_move (by conv => lhs; whnf)) ?_
                refine al_y (by kernel_rfl) (fun W hm => y_move (by conv => lhs; whnf)) ?_
                refine al_y (by kernel_rfl) (fun W hm => y_add64 rfl rfl (by omega)) ?_
                refine al_y (by kernel_rfl) (fun W hm => y_move (by conv => lhs; whnf)) ?_
                refine al_y (by kernel_rfl) (fun W hm => y_rem rfl rfl (by omega)) ?_
                refine al_y (by kernel_rfl) (fun W hm => y_indexAddr (by conv => lhs; whnf) rfl (hm.slAt 0 rfl) (by omega) Try.underlying22 ti27 (by decide)) ?_
                refine al_y (by kernel_rfl) (fun W hm => y_indexArrSl rfl rfl (hm.slAt 0 rfl) (by simp; omega) (by omega) Try.underlying27 ti3) ?_
                refine al_loud (by kernel_rfl) (fun W hm => ?_)
                refine wl_storeOwn1 (i := 0) (v := .int .i64 (((v : Int) + 1) % (k : Int))) hm rfl rfl rfl ti3 (by simp; omega) rfl rfl (fun W hm => ?_)
                rw [prs_put0 (by omega)] at hm
                refine nx_store none hm rfl ?_
                refine al_nil (by kernel_rfl) (fun W hm => ?_)
                refine block_normal ?_
                refine then_normal ?_
                refine wc_region ?_
                refine wl_y (y_move (by conv => lhs; whnf)) ?_
                refine wl_y (y_add64 rfl rfl (by omega)) ?_
                refine wl_y (y_assign (by conv => lhs; whnf)) ?_
                refine wl_nil ?_
                refine next_round (σ := Nat × List (Int × Int)) (v + 1, put0 k qs v) rfl (by repeat first | exact out_hav | refine out_look rfl ?_ | refine out_havIn rfl ?_) ⟨rfl, trivial⟩ ⟨hm, by omega, by rw [put0_len]; exact hq, hrows.put hk5.1 (by omega), fun i hi => by
        rw [put0_get (by omega)]
        by_cases he : v = i
        · subst he; rw [if_pos rfl]
        · rw [if_neg he]; exact hset i (by omega)⟩ (by (try dsimp only); omega)
              · obtain rfl : k = v := by omega
                refine wc_exit ?_
                refine then_exit ?_
                refine then_exit ?_
                refine block_exit ?_
                refine then_normal ?_
                refine wc_seq ?_
                refine wc_region ?_
                refine wl_y (y_move (by conv => lhs; whnf)) ?_
                refine wl_y (y_assign (by conv => lhs; whnf)) ?_
                refine wl_nil ?_
                refine then_normal ?_
                refine wc_ret ?_
                refine post_ret (results_fr rfl) ?_
                have hrows2 : RowsOk qs.length j qs := by rw [hq]; exact hrows
                have hring : ∀ v, v < qs.length → RingR qs.length v (qs.getD v (0, 0)) := fun v hv => by rw [hq]; exact .inl (hset v (by omega))
                exact ⟨vo, _, rfl, hm, qs, ⟨netOk_ring (by omega) hrows2 hring, fun _ => hring⟩, by rw [hq]⟩
          · have hnok : NetOk qs := of_decide_eq_true (by simpa [netB] using h25)
            refine wc_skip ?_
            refine then_normal ?_
            refine wc_seq ?_
            refine wc_region ?_
            refine wl_y (y_move (by conv => lhs; whnf)) ?_
            refine wl_y (y_assign (by conv => lhs; whnf)) ?_
            refine wl_nil ?_
            refine then_normal ?_
            refine wc_ret ?_
            refine post_ret (results_fr rfl) ?_
            have hring : j = true → ∀ v, v < qs.length → RingR qs.length v (qs.getD v (0, 0)) := fun hj v hv => by rw [hq]; exact (hrows v hv).2 hj
            exact ⟨vo, _, rfl, hm, qs, ⟨hnok, hring⟩, by rw [hq]⟩
end Go.Proofs.Ytofpdjpenmhbnaa
namespace Go.Proofs.Ytofpdjpenmhbnaa
open Go Go.Kx
theorem hb14 : HasBody Try.prog 14 := hasBody Try.func14 (by kernel_rfl) (by kernel_rfl)
theorem hb18 : HasBody Try.prog 18 := hasBody Try.func18 (by kernel_rfl) (by kernel_rfl)
theorem hb30 : HasBody Try.prog 30 := hasBody Try.func30 (by kernel_rfl) (by kernel_rfl)
end Go.Proofs.Ytofpdjpenmhbnaa
namespace Go.Proofs.Ytofpdjpenmhbnaa
open Go Go.Kx
theorem hb40 : HasBody Try.prog 40 := hasBody Try.func40 (by kernel_rfl) (by kernel_rfl)
theorem hb43 : HasBody Try.prog 43 := hasBody Try.func43 (by kernel_rfl) (by kernel_rfl)
end Go.Proofs.Ytofpdjpenmhbnaa
namespace Go.Proofs.Ytofpdjpenmhbnaa
open Go Go.Kx
theorem rWordT_calls (w : World) (s : ByteArray) (hsz : s.size ≤ 140737488355232) (h : wordB s = true) : Cl Try.prog 30 [.string s].toArray w (Ret w (.bool true)) := by
  have hc := rWord_calls w s hsz
  rwa [h] at hc

end Go.Proofs.Ytofpdjpenmhbnaa
namespace Go.Proofs.Ytofpdjpenmhbnaa
open Go Go.Kx
theorem hb79 : HasBody Try.prog 79 := hasBody Try.func79 (by kernel_rfl) (by kernel_rfl)
theorem hb80 : HasBody Try.prog 80 := hasBody Try.func80 (by kernel_rfl) (by kernel_rfl)
theorem hb81 : HasBody Try.prog 81 := hasBody Try.func81 (by kernel_rfl) (by kernel_rfl)
set_option maxHeartbeats 4000000 in
theorem one_calls (w : World) (x : Int × Int) : Cl Try.prog 80 [prV .i64 x].toArray w (Ret w (.bool (gA x))) := by
  have hm : Mem w [] [] w := Mem.init w
  refine cl_enter Try.func80 rfl Try.ntmps80 rfl ?_
  refine wc_seq ?_
  refine wc_region ?_
  refine wl_box (v := prV .i64 x) hm rfl (fun W b1 hm hb1 hu => ?_)
  have hm : Mem w [] [.blk b1 77 [.int .i64 x.1, .int .i64 x.2]] W := hm
  refine wl_y (y_assign (by conv => lhs; whnf)) ?_
  refine wl_nil ?_
  refine then_normal ?_
  refine wc_seq ?_
  refine wc_region ?_
  refine wl_y (y_fieldAddr (off := 0) (ft := 3) rfl Try.underlying77 rfl ti3) ?_
  refine wl_y (y_load rfl (hm.blk_cell 0 rfl rfl) Try.underlying3 rfl) ?_
  refine wl_y (y_eql rfl rfl) ?_
  refine wl_y (y_fieldAddr (off := 1) (ft := 3) rfl Try.underlying77 rfl ti3) ?_
  refine wl_y (y_load rfl (hm.blk_cell 0 rfl rfl) Try.underlying3 rfl) ?_
  refine wl_y (y_eql rfl rfl) ?_
  refine wl_y (y_neqB rfl rfl Try.underlying4) ?_
  refine wl_y (y_assign (by conv => lhs; whnf)) ?_
  refine wl_nil ?_
  refine then_normal ?_
  refine wc_ret ?_
  refine post_ret (results_fr rfl) ?_
  exact ⟨rfl, hm.upd⟩

set_option maxHeartbeats 4000000 in
theorem apartNext_calls (w : World) (bn bx k : Nat) (nx : List Int) (s t c : Nat) (hn : NetAt w bn k nx) (ho : Okf k (tabN nx)) (hb : (En.blk bx 72 [pb bn]).holds w) (hs : s < 32) (ht : t < 32) (hc : c < 2) :
    Cl Try.prog 79 [prV .i64 ((s : Int), (t : Int)), .int .i64 (c : Int), pb bx].toArray w (Ret w (prV .i64 (nextA (tabN nx) k (tabN nx) k ((s : Int), (t : Int)) c))) := by
  have hbk : ∀ {W}, Upd [] w W → (En.blk bx 72 [pb bn]).holds W := fun hu => hb.kept (fun k hk => hu.block k (hb.lt hk) (by simp))
  have hm : Mem w [] [] w := Mem.init w
  refine cl_enter Try.func79 rfl Try.ntmps79 rfl ?_
  refine wc_seq ?_
  refine wc_region ?_
  refine wl_box (v := prV .i64 ((s : Int), (t : Int))) hm rfl (fun W b3 hm hb3 hu => ?_)
  have hm : Mem w [] [.blk b3 77 [.int .i64 (s : Int), .int .i64 (t : Int)]] W := hm
  refine wl_alloc hm ti77 (fun W b5 hm hb5 hu => ?_)
  refine wl_nil ?_
  refine then_normal ?_
  refine wc_seq ?_
  refine wc_draw (C := fun W => Mem w [] [.blk b3 77 [.int .i64 (s : Int), .int .i64 (t : Int)], .blk b5 77 [.int .i64 0, .int .i64 0]] W) (some 11) mix (by kernel_rfl) (by kernel_rfl) (Mem.stable _ _ _) (hm.step (upd_drew _)) ?_
  refine al_y (by kernel_rfl) (fun W hm => y_load rfl (blk_cell (hbk hm.upd) rfl) Try.underlying72 rfl) ?_
  refine al_y (by kernel_rfl) (fun W hm => y_fieldAddr (off := 0) (ft := 3) rfl Try.underlying77 rfl ti3) ?_
  refine al_y (by kernel_rfl) (fun W hm => y_load rfl (hm.blk_cell 0 rfl rfl) Try.underlying3 rfl) ?_
  refine al_y (by kernel_rfl) (fun W hm => y_move (by conv => lhs; whnf)) ?_
  refine al_callR (by kernel_rfl) hb60 (fun W hm => step_calls _ _ _ _ s c (hn.step hm.upd) ho hs hc) rfl rfl ?_
  refine al_y (by kernel_rfl) (fun W hm => y_load rfl (blk_cell (hbk hm.upd) rfl) Try.underlying72 rfl) ?_
  refine al_y (by kernel_rfl) (fun W hm => y_fieldAddr (off := 1) (ft := 3) rfl Try.underlying77 rfl ti3) ?_
  refine al_y (by kernel_rfl) (fun W hm => y_load rfl (hm.blk_cell 0 rfl rfl) Try.underlying3 rfl) ?_
  refine al_y (by kernel_rfl) (fun W hm => y_move (by conv => lhs; whnf)) ?_
  refine al_callR (by kernel_rfl) hb60 (fun W hm => step_calls _ _ _ _ t c (hn.step hm.upd) ho ht hc) rfl rfl ?_
  refine al_y (by kernel_rfl) (fun W hm => y_buildL (cells := #[.int .i64 ((stepF (tabN nx) s c k : Nat) : Int), .int .i64 ((stepF (tabN nx) t c k : Nat) : Int)]) rfl (by kernel_rfl)) ?_
  refine al_loud (by kernel_rfl) (fun W hm => ?_)
  refine wl_storeBlk (i := 1) (vs := [.int .i64 ((stepF (tabN nx) s c k : Nat) : Int), .int .i64 ((stepF (tabN nx) t c k : Nat) : Int)]) hm rfl rfl rfl ti77 rfl rfl (by simp [Value.oneCell']) (fun W hm => ?_)
  refine nx_store none hm rfl ?_
  refine al_nil (by kernel_rfl) (fun W hm => ?_)
  refine then_normal ?_
  refine wc_ret ?_
  refine post_ret (results_c1 rfl rfl (run_loadVar_agg (hm.at (i := 1) rfl) Try.underlying77 rfl ti77)) ?_
  exact ⟨rfl, hm.upd⟩

set_option maxHeartbeats 4000000 in
theorem sameNext_calls (w : World) (bn bx k : Nat) (nx : List Int) (s t c : Nat) (hn : NetAt w bn k nx) (ho : Okf k (tabN nx)) (hb : (En.blk bx 72 [pb bn]).holds w) (bm by_ K : Nat) (ny : List Int) (hn2 : NetAt w bm K ny) (ho2 : Okf K (tabN ny)) (hb2 : (En.blk by_ 72 [pb bm]).holds w) (hs : s < 32) (ht : t < 32) (hc : c < 2) :
    Cl Try.prog 81 [prV .i64 ((s : Int), (t : Int)), .int .i64 (c : Int), pb bx, pb by_].toArray w (Ret w (prV .i64 (nextA (tabN nx) k (tabN ny) K ((s : Int), (t : Int)) c))) := by
  have hbk : ∀ {W}, Upd [] w W → (En.blk bx 72 [pb bn]).holds W := fun hu => hb.kept (fun k hk => hu.block k (hb.lt hk) (by simp))
  have hbk2 : ∀ {W}, Upd [] w W → (En.blk by_ 72 [pb bm]).holds W := fun hu => hb2.kept (fun k hk => hu.block k (hb2.lt hk) (by simp))
  have hm : Mem w [] [] w := Mem.init w
  refine cl_enter Try.func81 rfl Try.ntmps81 rfl ?_
  refine wc_seq ?_
  refine wc_region ?_
  refine wl_box (v := prV .i64 ((s : Int), (t : Int))) hm rfl (fun W b4 hm hb4 hu => ?_)
  have hm : Mem w [] [.blk b4 77 [.int .i64 (s : Int), .int .i64 (t : Int)]] W := hm
  refine wl_alloc hm ti77 (fun W b6 hm hb6 hu => ?_)
  refine wl_nil ?_
  refine then_normal ?_
  refine wc_seq ?_
  refine wc_draw (C := fun W => Mem w [] [.blk b4 77 [.int .i64 (s : Int), .int .i64 (t : Int)], .blk b6 77 [.int .i64 0, .int .i64 0]] W) (some 11) mix (by kernel_rfl) (by kernel_rfl) (Mem.stable _ _ _) (hm.step (upd_drew _)) ?_
  refine al_y (by kernel_rfl) (fun W hm => y_load rfl (blk_cell (hbk hm.upd) rfl) Try.underlying72 rfl) ?_
  refine al_y (by kernel_rfl) (fun W hm => y_fieldAddr (off := 0) (ft := 3) rfl Try.underlying77 rfl ti3) ?_
  refine al_y (by kernel_rfl) (fun W hm => y_load rfl (hm.blk_cell 0 rfl rfl) Try.underlying3 rfl) ?_
  refine al_y (by kernel_rfl) (fun W hm => y_move (by conv => lhs; whnf)) ?_
  refine al_callR (by kernel_rfl) hb60 (fun W hm => step_calls _ _ _ _ s c (hn.step hm.upd) ho hs hc) rfl rfl ?_
  refine al_y (by kernel_rfl) (fun W hm => y_load rfl (blk_cell (hbk2 hm.upd) rfl) Try.underlying72 rfl) ?_
  refine al_y (by kernel_rfl) (fun W hm => y_fieldAddr (off := 1) (ft := 3) rfl Try.underlying77 rfl ti3) ?_
  refine al_y (by kernel_rfl) (fun W hm => y_load rfl (hm.blk_cell 0 rfl rfl) Try.underlying3 rfl) ?_
  refine al_y (by kernel_rfl) (fun W hm => y_move (by conv => lhs; whnf)) ?_
  refine al_callR (by kernel_rfl) hb60 (fun W hm => step_calls _ _ _ _ t c (hn2.step hm.upd) ho2 ht hc) rfl rfl ?_
  refine al_y (by kernel_rfl) (fun W hm => y_buildL (cells := #[.int .i64 ((stepF (tabN nx) s c k : Nat) : Int), .int .i64 ((stepF (tabN ny) t c K : Nat) : Int)]) rfl (by kernel_rfl)) ?_
  refine al_loud (by kernel_rfl) (fun W hm => ?_)
  refine wl_storeBlk (i := 1) (vs := [.int .i64 ((stepF (tabN nx) s c k : Nat) : Int), .int .i64 ((stepF (tabN ny) t c K : Nat) : Int)]) hm rfl rfl rfl ti77 rfl rfl (by simp [Value.oneCell']) (fun W hm => ?_)
  refine nx_store none hm rfl ?_
  refine al_nil (by kernel_rfl) (fun W hm => ?_)
  refine then_normal ?_
  refine wc_ret ?_
  refine post_ret (results_c1 rfl rfl (run_loadVar_agg (hm.at (i := 1) rfl) Try.underlying77 rfl ti77)) ?_
  exact ⟨rfl, hm.upd⟩
end Go.Proofs.Ytofpdjpenmhbnaa
namespace Go.Proofs.Ytofpdjpenmhbnaa
open Go Go.Kx

def apartW (ps : List (Int × Int)) (p q : Int) : ByteArray × Bool × Int := if (0 ≤ p ∧ p < ps.length) ∧ 0 ≤ q ∧ q < ps.length then ((apartV ps p.toNat q.toNat).1, (apartV ps p.toNat q.toNat).2, 0) else (⟨#[]⟩, false, 1)

set_option maxHeartbeats 4000000 in
theorem Apart_yes (w : World) (vl : Value) (ps : List (Int × Int)) (p q : Int) (hl : SlAt w 2 vl ps.length (prs ps)) (hok : NetOk ps) :
    Cl Try.prog 40 [vl, .int .i64 p, .int .i64 q].toArray w (Ret w (.tuple #[.string (apartW ps p q).1, .bool (apartW ps p q).2.1, .int .i64 (apartW ps p q).2.2])) := by
  have hm : Mem w [] [] w := Mem.init w
  refine cl_enter Try.func40 rfl Try.ntmps40 rfl ?_
  refine wc_seq ?_
  refine wc_region ?_
  refine wl_y (y_assign (by conv => lhs; whnf)) ?_
  refine wl_y (y_assign (by conv => lhs; whnf)) ?_
  refine wl_y (y_assign (by conv => lhs; whnf)) ?_
  refine wl_nil ?_
  refine then_normal ?_
  refine wc_seq ?_
  refine wc_region ?_
  refine wl_y (y_move (by conv => lhs; whnf)) ?_
  refine wl_callM hm hb54 (open_yes _ _ ps (hl.step hm.upd) hok) rfl rfl (fun W v15 E hm hu hE => ?_)
  obtain ⟨bn, nx, rfl, rfl, hnet⟩ := hE
  have ho := hnet.okf
  have hk5 := ho.k5
  have hk1 := hok.1.1
  refine wl_y (y_move (by conv => lhs; whnf)) ?_
  refine wl_y (y_extract rfl rfl) ?_
  refine wl_y (y_extract rfl rfl) ?_
  refine wl_alloc hm ti72 (fun W b9 hm hb9 hu => ?_)
  refine wl_store1 (i := 1) hm rfl (by conv => lhs; whnf) rfl ti72 (by first | decide | simp) rfl rfl (fun W hm => ?_)
  refine wl_y (y_assign (by conv => lhs; whnf)) ?_
  refine wl_nil ?_
  refine then_normal ?_
  refine wc_seq ?_
  refine wc_seq ?_
  refine wc_region ?_
  refine wl_y (y_move (by conv => lhs; whnf)) ?_
  refine wl_y (y_neq rfl rfl) ?_
  refine wl_nil ?_
  refine then_normal ?_
  refine wc_cond_dec rfl (fun h1 => ?_) (fun h1 => ?_)
  · exact absurd rfl h1
  · skip
    refine wc_skip ?_
    refine then_normal ?_
    refine wc_seq ?_
    refine wc_seq ?_
    refine wc_region ?_
    refine wl_y (y_move (by conv => lhs; whnf)) ?_
    refine wl_y (y_move (by conv => lhs; whnf)) ?_
    refine wl_lit2 (v := .int .i64 p) (w := .int .i64 q) hm rfl rfl Try.underlying55 ti3 rfl rfl (fun W v23 hm hu23 => ?_)
    refine wl_callR hm hb78 (least2_calls _ _ p q (hm.slAt 2 rfl)) rfl rfl (fun W hm hu => ?_)
    refine wl_y (y_lss rfl rfl) ?_
    refine wl_split rfl (fun h2 => ?_) (fun h2 => ?_)
    · skip
      refine wl_guard_no rfl ?_
      refine wl_guard_no rfl ?_
      refine wl_guard_no rfl ?_
      refine wl_guard_no rfl ?_
      refine wl_guard_no rfl ?_
      refine wl_guard_no rfl ?_
      refine wl_guard_no rfl ?_
      refine wl_guard_no rfl ?_
      refine wl_y (y_pick_true rfl (by conv => lhs; whnf)) ?_
      refine wl_nil ?_
      refine then_normal ?_
      refine wc_cond_true rfl ?_
      refine wc_seq ?_
      refine wc_region ?_
      refine wl_y (y_assign (by conv => lhs; whnf)) ?_
      refine wl_y (y_assign (by conv => lhs; whnf)) ?_
      refine wl_y (y_assign (by conv => lhs; whnf)) ?_
      refine wl_nil ?_
      refine then_normal ?_
      refine wc_ret ?_
      refine then_ret ?_
      refine post_ret (results_fr3 rfl) ?_
      refine ⟨?_, hm.upd⟩
      rw [apartW, if_neg (by omega)]; rfl
    · skip
      refine wl_guard_yes rfl ?_
      refine wl_y (y_move (by conv => lhs; whnf)) ?_
      refine wl_guard_yes rfl ?_
      refine wl_y (y_move (by conv => lhs; whnf)) ?_
      refine wl_guard_yes rfl ?_
      refine wl_y (y_max rfl rfl) ?_
      refine wl_guard_yes rfl ?_
      refine wl_y (y_load rfl (hm.blk_cell 1 rfl rfl) Try.underlying72 rfl) ?_
      refine wl_guard_yes rfl ?_
      refine wl_y (y_nilCheck rfl) ?_
      refine wl_guard_yes rfl ?_
      refine wl_y (y_fieldAddr (off := 0) (ft := 3) rfl Try.underlying94 rfl ti3) ?_
      refine wl_guard_yes rfl ?_
      refine wl_y (y_load (v := .int .i64 (ps.length : Nat)) rfl (hm.blk_cell 0 rfl rfl) Try.underlying3 rfl) ?_
      refine wl_guard_yes rfl ?_
      refine wl_y (y_geq rfl rfl) ?_
      refine wl_y (y_pick_false rfl (by conv => lhs; whnf)) ?_
      refine wl_nil ?_
      refine then_normal ?_
      refine wc_cond_dec rfl (fun h3 => ?_) (fun h3 => ?_)
      · skip
        refine wc_seq ?_
        refine wc_region ?_
        refine wl_y (y_assign (by conv => lhs; whnf)) ?_
        refine wl_y (y_assign (by conv => lhs; whnf)) ?_
        refine wl_y (y_assign (by conv => lhs; whnf)) ?_
        refine wl_nil ?_
        refine then_normal ?_
        refine wc_ret ?_
        refine then_ret ?_
        refine post_ret (results_fr3 rfl) ?_
        refine ⟨?_, hm.upd⟩
        rw [apartW, if_neg (by omega)]; rfl
      · obtain ⟨pn, rfl⟩ : ∃ pn : Nat, p = pn := ⟨p.toNat, by omega⟩
        obtain ⟨qn, rfl⟩ : ∃ qn : Nat, q = qn := ⟨q.toNat, by omega⟩
        have hp16 : 2 ^ pn ≤ 2 ^ 4 := Nat.pow_le_pow_right (by decide) (by omega)
        have hq16 : 2 ^ qn ≤ 2 ^ 4 := Nat.pow_le_pow_right (by decide) (by omega)
        refine wc_skip ?_
        refine then_normal ?_
        refine wc_seq ?_
        refine wc_region ?_
        refine wl_y (y_move (by conv => lhs; whnf)) ?_
        refine wl_y (y_conv rfl Try.underlying3 Try.underlying39 (IntWalk.u64_in _ (by omega))) ?_
        refine wl_y (y_bitN rfl rfl (by omega)) ?_
        refine wl_y (y_move (by conv => lhs; whnf)) ?_
        refine wl_y (y_conv rfl Try.underlying3 Try.underlying39 (IntWalk.u64_in _ (by omega))) ?_
        refine wl_y (y_bitN rfl rfl (by omega)) ?_
        refine wl_y (y_buildL (cells := #[.int .i64 ((2 ^ pn : Nat) : Int), .int .i64 ((2 ^ qn : Nat) : Int)]) rfl (by kernel_rfl)) ?_
        refine wl_y (y_makeFuncL rfl rfl) ?_
        refine wl_callR (v := .tuple #[.string (bfsV (nextA (tabN nx) ps.length (tabN nx) ps.length) gA (((2 ^ pn : Nat) : Int), ((2 ^ qn : Nat) : Int)) 1024).1, .bool (bfsV (nextA (tabN nx) ps.length (tabN nx) ps.length) gA (((2 ^ pn : Nat) : Int), ((2 ^ qn : Nat) : Int)) 1024).2]) hm hb69 (search_calls _ (((2 ^ pn : Nat) : Int), ((2 ^ qn : Nat) : Int)) (nextA (tabN nx) ps.length (tabN nx) ps.length) gA DomA domA 1024 79 80 [pb b9] [] hb79 hb80 (fun W' x c' hu hD hc => by obtain ⟨s, t, hs, ht, rfl⟩ := hD; exact apartNext_calls W' bn b9 ps.length _ s t c' ((⟨hm.at (i := 0) rfl, hnet.nx.1⟩ : NetAt _ _ _ _).step hu) ho ((hm.at (i := 1) rfl).up hu) hs ht hc) (fun W' x hu hD => one_calls W' x) ⟨2 ^ pn, 2 ^ qn, by omega, by omega, rfl⟩ (fun x c' hx hc => nextA_dom ho ho hc) (fun x h => domA_mem h) domA_len (by decide)) rfl rfl (fun W hm hu => ?_)
        refine wl_y (y_move (by conv => lhs; whnf)) ?_
        refine wl_y (y_extract rfl rfl) ?_
        refine wl_y (y_extract rfl rfl) ?_
        refine wl_y (y_assign (by conv => lhs; whnf)) ?_
        refine wl_y (y_assign (by conv => lhs; whnf)) ?_
        refine wl_nil ?_
        refine then_normal ?_
        refine wc_seq ?_
        refine wc_region ?_
        refine wl_y (y_move (by conv => lhs; whnf)) ?_
        refine wl_y (y_move (by conv => lhs; whnf)) ?_
        refine wl_y (y_assign (by conv => lhs; whnf)) ?_
        refine wl_y (y_assign (by conv => lhs; whnf)) ?_
        refine wl_y (y_assign (by conv => lhs; whnf)) ?_
        refine wl_nil ?_
        refine then_normal ?_
        refine wc_ret ?_
        refine post_ret (results_fr3 rfl) ?_
        refine ⟨?_, hm.upd⟩
        rw [apartW, if_pos (by omega), Int.toNat_natCast, Int.toNat_natCast, show apartV ps pn qn = (bfsV (nextA (tabN nx) ps.length (tabN nx) ps.length) gA (((2 ^ pn : Nat) : Int), ((2 ^ qn : Nat) : Int)) 1024) from bfsV_congr (fun x c hc => (nextA_congr (fun _ _ hi hx => hnet.tab hi hx) (fun _ _ hi hx => hnet.tab hi hx) x c hc).symm) _ _ _]; rfl

set_option maxHeartbeats 4000000 in
theorem Same_yes (w : World) (vl vr : Value) (ps qs : List (Int × Int)) (hl : SlAt w 2 vl ps.length (prs ps)) (hok : NetOk ps) (hr : SlAt w 2 vr qs.length (prs qs)) (hok2 : NetOk qs) :
    Cl Try.prog 43 [vl, vr].toArray w (Ret w (.tuple #[.string (sameV ps qs).1, .bool (!(sameV ps qs).2), .int .i64 0])) := by
  have hm : Mem w [] [] w := Mem.init w
  refine cl_enter Try.func43 rfl Try.ntmps43 rfl ?_
  refine wc_seq ?_
  refine wc_region ?_
  refine wl_y (y_assign (by conv => lhs; whnf)) ?_
  refine wl_y (y_assign (by conv => lhs; whnf)) ?_
  refine wl_y (y_assign (by conv => lhs; whnf)) ?_
  refine wl_nil ?_
  refine then_normal ?_
  refine wc_seq ?_
  refine wc_region ?_
  refine wl_y (y_move (by conv => lhs; whnf)) ?_
  refine wl_callM hm hb54 (open_yes _ _ ps (hl.step hm.upd) hok) rfl rfl (fun W v14 E hm hu hE => ?_)
  obtain ⟨bn, nx, rfl, rfl, hnet⟩ := hE
  have ho := hnet.okf
  have hk5 := ho.k5
  have hk1 := hok.1.1
  refine wl_y (y_move (by conv => lhs; whnf)) ?_
  refine wl_y (y_extract rfl rfl) ?_
  refine wl_y (y_extract rfl rfl) ?_
  refine wl_alloc hm ti72 (fun W b7 hm hb7 hu => ?_)
  refine wl_store1 (i := 1) hm rfl (by conv => lhs; whnf) rfl ti72 (by first | decide | simp) rfl rfl (fun W hm => ?_)
  refine wl_y (y_assign (by conv => lhs; whnf)) ?_
  refine wl_nil ?_
  refine then_normal ?_
  refine wc_seq ?_
  refine wc_seq ?_
  refine wc_region ?_
  refine wl_y (y_move (by conv => lhs; whnf)) ?_
  refine wl_y (y_neq rfl rfl) ?_
  refine wl_nil ?_
  refine then_normal ?_
  refine wc_cond_dec rfl (fun h1 => ?_) (fun h1 => ?_)
  · exact absurd rfl h1
  · skip
    refine wc_skip ?_
    refine then_normal ?_
    refine wc_seq ?_
    refine wc_region ?_
    refine wl_y (y_move (by conv => lhs; whnf)) ?_
    refine wl_callM hm hb54 (open_yes _ _ qs (hr.step hm.upd) hok2) rfl rfl (fun W v22 E hm hu hE => ?_)
    obtain ⟨bm, ny, rfl, rfl, hnet2⟩ := hE
    have ho2 := hnet2.okf
    have hk52 := ho2.k5
    refine wl_y (y_move (by conv => lhs; whnf)) ?_
    refine wl_y (y_extract rfl rfl) ?_
    refine wl_y (y_extract rfl rfl) ?_
    refine wl_alloc hm ti72 (fun W b9 hm hb9 hu => ?_)
    refine wl_store1 (i := 3) hm rfl (by conv => lhs; whnf) rfl ti72 (by first | decide | simp) rfl rfl (fun W hm => ?_)
    refine wl_y (y_assign (by conv => lhs; whnf)) ?_
    refine wl_nil ?_
    refine then_normal ?_
    refine wc_seq ?_
    refine wc_seq ?_
    refine wc_region ?_
    refine wl_y (y_move (by conv => lhs; whnf)) ?_
    refine wl_y (y_neq rfl rfl) ?_
    refine wl_nil ?_
    refine then_normal ?_
    refine wc_cond_dec rfl (fun h2 => ?_) (fun h2 => ?_)
    · exact absurd rfl h2
    · skip
      refine wc_skip ?_
      refine then_normal ?_
      refine wc_seq ?_
      have h32 := pow_le_32 hk5
      have h322 := pow_le_32 hk52
      have hpp := Nat.two_pow_pos ps.length
      have hpp2 := Nat.two_pow_pos qs.length
      refine wc_draw (C := fun W => Mem w [] [.blk bn 94 (netCells ps.length nx), .blk b7 72 [pb bn], .blk bm 94 (netCells qs.length ny), .blk b9 72 [pb bm]] W) none mix (by kernel_rfl) (by kernel_rfl) (Mem.stable _ _ _) (hm.step (upd_drew _)) ?_
      refine al_y (by kernel_rfl) (fun W hm => y_load rfl (hm.blk_cell 1 rfl rfl) Try.underlying72 rfl) ?_
      refine al_callR (by kernel_rfl) hb58 (fun W hm => all_calls _ _ _ _ (⟨hm.at (i := 0) rfl, hnet.nx.1⟩ : NetAt _ _ _ _) hk5) rfl rfl ?_
      refine al_y (by kernel_rfl) (fun W hm => y_load rfl (hm.blk_cell 3 rfl rfl) Try.underlying72 rfl) ?_
      refine al_callR (by kernel_rfl) hb58 (fun W hm => all_calls _ _ _ _ (⟨hm.at (i := 2) rfl, hnet2.nx.1⟩ : NetAt _ _ _ _) hk52) rfl rfl ?_
      refine al_y (by kernel_rfl) (fun W hm => y_buildL (cells := #[.int .i64 ((2 ^ ps.length - 1 : Nat) : Int), .int .i64 ((2 ^ qs.length - 1 : Nat) : Int)]) rfl (by kernel_rfl)) ?_
      refine al_y (by kernel_rfl) (fun W hm => y_makeFuncL rfl rfl) ?_
      refine al_callR (by kernel_rfl) hb69 (fun W hm => search_calls W (((2 ^ ps.length - 1 : Nat) : Int), ((2 ^ qs.length - 1 : Nat) : Int)) (nextA (tabN nx) ps.length (tabN ny) qs.length) gA DomA domA 1024 81 80 [pb b7, pb b9] [] hb81 hb80 (fun W' x c' hu hD hc => by obtain ⟨s, t, hs, ht, rfl⟩ := hD; exact sameNext_calls W' bn b7 ps.length _ s t c' ((⟨hm.at (i := 0) rfl, hnet.nx.1⟩ : NetAt _ _ _ _).step hu) ho ((hm.at (i := 1) rfl).up hu) bm b9 qs.length _ ((⟨hm.at (i := 2) rfl, hnet2.nx.1⟩ : NetAt _ _ _ _).step hu) ho2 ((hm.at (i := 3) rfl).up hu) hs ht hc) (fun W' x hu hD => one_calls W' x) ⟨2 ^ ps.length - 1, 2 ^ qs.length - 1, by omega, by omega, rfl⟩ (fun x c' hx hc => nextA_dom ho ho2 hc) (fun x h => domA_mem h) domA_len (by decide)) rfl rfl ?_
      refine al_y (by kernel_rfl) (fun W hm => y_move (by conv => lhs; whnf)) ?_
      refine al_y (by kernel_rfl) (fun W hm => y_extract rfl rfl) ?_
      refine al_y (by kernel_rfl) (fun W hm => y_extract rfl rfl) ?_
      refine al_y (by kernel_rfl) (fun W hm => y_assign (by conv => lhs; whnf)) ?_
      refine al_y (by kernel_rfl) (fun W hm => y_assign (by conv => lhs; whnf)) ?_
      refine al_nil (by kernel_rfl) (fun W hm => ?_)
      refine then_normal ?_
      refine wc_seq ?_
      refine wc_region ?_
      refine wl_y (y_move (by conv => lhs; whnf)) ?_
      refine wl_y (y_move (by conv => lhs; whnf)) ?_
      refine wl_y (y_not rfl) ?_
      refine wl_y (y_assign (by conv => lhs; whnf)) ?_
      refine wl_y (y_assign (by conv => lhs; whnf)) ?_
      refine wl_y (y_assign (by conv => lhs; whnf)) ?_
      refine wl_nil ?_
      refine then_normal ?_
      refine wc_ret ?_
      refine post_ret (results_fr3 rfl) ?_
      refine ⟨?_, hm.upd⟩
      rw [show sameV ps qs = (bfsV (nextA (tabN nx) ps.length (tabN ny) qs.length) gA (((2 ^ ps.length - 1 : Nat) : Int), ((2 ^ qs.length - 1 : Nat) : Int)) 1024) from bfsV_congr (fun x c hc => (nextA_congr (fun _ _ hi hx => hnet.tab hi hx) (fun _ _ hi hx => hnet2.tab hi hx) x c hc).symm) _ _ _]; rfl
end Go.Proofs.Ytofpdjpenmhbnaa
