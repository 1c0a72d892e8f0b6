/- Arguments: slices of pairs, read as data. -/
import Derived.ProofKit
import Derived.OpenShut
import Derived.ShutString
import Derived.ChangeOld
import Derived.Below
import Derived.SizedLaws
import Derived.Deep.Slices
import Derived.Test.YtofpdjpenmhbnaaRows
import Derived.Test.YtofpdjpenmhbnaaC2
set_option linter.unusedVariables false
set_option linter.unusedSimpArgs false
set_option linter.unusedSectionVars false
namespace Go.Kx
open Go Go.RowKit Go.ChangeShapes Go.WideShapes Go.Deep
theorem open_prs {H : Type} {enc : TypeId × Value → H} {P : Program} {w : World} {base : Nat} {spare : Nat → Bool} {held : Bool} {t e q : TypeId} {a : Option Addr} {len cap : Nat} {d : DataW H} {ps : List MemPlace} (ht : P.underlying t = some (.slice e)) (he : P.underlying e = some (.array 2 q)) (hq : P.underlying q = some (.int .i64))
    (ce : P.cellsOf e = 2) (cq : P.cellsOf q = 1) (h : DataW.Trod enc P w base spare held t (.slice a len cap) d ps) : ∃ zs : List (Int × Int), zs.length = len ∧ SlAt w 2 (.slice a len cap) zs.length (prs zs) := by
  obtain ⟨fuel, hf⟩ := h
  rcases open_slice ht hf with ⟨hcs, _⟩ | ⟨x, l, c, m, n, D, Pl, hcs, _, hl, _, hm, _, hx⟩
  · simp [Value.cells] at hcs
    obtain ⟨rfl, rfl, rfl⟩ := hcs
    exact ⟨[], rfl, SlAt.nil w 2⟩
  · simp [Value.cells] at hcs
    obtain ⟨rfl, rfl, rfl⟩ := hcs
    have hlm : len ≤ m := by rw [hm]; split <;> omega
    have each : ∀ i, i < len → ∃ z : Int × Int, w.cell? (x.add (i * 2)) = some (.int .i64 z.1) ∧ w.cell? (x.add (i * 2 + 1)) = some (.int .i64 z.2) := fun i hi => by
      obtain ⟨cs', h1, h2⟩ := hx i (by omega)
      rw [ce] at h1
      obtain ⟨_, hlen, hcell⟩ := World.cells?_some h1
      obtain ⟨xs, k, _, _, _, hxl, hg⟩ := DataW.trod_array he h2
      match cs', hlen, xs, hxl with
      | [v0, v1], _, [y0, y1], _ =>
        have g0 := hg 0 (by decide)
        have g1 := hg 1 (by decide)
        simp [cq] at g0 g1
        obtain ⟨z0, e0, _, _⟩ := DataW.trod_int hq g0
        obtain ⟨z1, e1, _, _⟩ := DataW.trod_int hq g1
        simp only [List.cons.injEq, and_true] at e0 e1
        have c0 := hcell 0 (by decide)
        have c1 := hcell 1 (by decide)
        rw [add_add] at c0 c1
        exact ⟨(z0, z1), by simpa [e0] using c0, by simpa [e1] using c1⟩
    obtain ⟨z, hz⟩ := choose_lt each
    refine ⟨(List.range len).map z, by simp, by simp, some x, cap, by simp, by simpa using hl, fun j v hj => ?_⟩
    have hjl : j < ((List.range len).map z).length * 2 := by
      have := (List.getElem?_eq_some_iff.1 hj).1
      rwa [length_prs] at this
    simp only [List.length_map, List.length_range] at hjl
    have hsp : x.spot = none := by
      have h0 := (hz 0 (by omega)).1
      have := World.cell?_spot h0
      simpa [Addr.add] using this
    obtain ⟨b, o, s⟩ := x
    simp only at hsp
    subst hsp
    refine ⟨b, o, rfl, ?_⟩
    have hget : ((List.range len).map z).getD (j / 2) (0, 0) = z (j / 2) := by
      simp [List.getD, show j / 2 < len by omega]
    have hat := prs_at (ps := (List.range len).map z) (i := j / 2) (x := j % 2) (by simp; omega) (by omega)
    rw [show j / 2 * 2 + j % 2 = j by omega, hj, hget] at hat
    rw [hat]
    have hzz := hz (j / 2) (by omega)
    rcases Nat.mod_two_eq_zero_or_one j with h0 | h0
    · have := hzz.1
      rw [addr_add, show j / 2 * 2 = j by omega] at this
      rw [this, h0]; rfl
    · have := hzz.2
      rw [addr_add, show j / 2 * 2 + 1 = j by omega] at this
      rw [this, h0]; rfl
end Go.Kx
/- Opening an argument that is a pair of ints by value. -/
namespace Go.Kx
open Go Go.ChangeShapes Go.WideShapes Go.ChangeAt Go.RowKit
theorem open_pairA {H : Type} {enc : TypeId × Value → H} {P : Program} {w : World} {r : Reach} {base b0 : Nat} {spare : Nat → Bool} {held : Bool} {t e : TypeId} {v : Value} {d : DataW H} {ps : List MemPlace} (ht : P.underlying t = some (.array 2 e)) (he : P.underlying e = some (.int .i64))
    (ct : P.cellsOf t = 2) (ce : P.cellsOf e = 1) (hval : Value.okWide P w r b0 t v) (h : DataW.Trod enc P w base spare held t v d ps) : ∃ a c : Int, v = .agg #[.int .i64 a, .int .i64 c] := by
  unfold Value.okWide at hval
  rw [ht] at hval
  obtain ⟨cs, rfl, hsz, _⟩ := hval
  rw [ct] at hsz
  obtain ⟨c0, c1, rfl⟩ : ∃ c0 c1, cs = #[c0, c1] := by
    obtain ⟨l⟩ := cs
    match l, hsz with
    | [a, b], _ => exact ⟨a, b, rfl⟩
  obtain ⟨fuel, hf⟩ := h
  obtain ⟨xs, k, _, _, _, hxl, hg⟩ := DataW.trod_array ht hf
  match xs, hxl with
  | [y0, y1], _ =>
    have g0 := hg 0 (by decide)
    have g1 := hg 1 (by decide)
    simp [ce, Value.cells] at g0 g1
    obtain ⟨z0, e0, _, _⟩ := DataW.trod_int he g0
    obtain ⟨z1, e1, _, _⟩ := DataW.trod_int he g1
    simp only [List.cons.injEq, and_true] at e0 e1
    exact ⟨z0, z1, by rw [e0, e1]⟩
end Go.Kx
/- The law SoficAparts: for every input it returns true, and its arguments read as before. No condition. -/
namespace Go.Proofs.Ytofpdjpenmhbnaa.soficAparts
open Go Go.Kx Go.ChangeShapes Go.WideShapes Go.ChangeAt Go.RowKit
open Go.ChangeMaps (open_string shut_string)
theorem own : ownKnob Try.prog.godebug = none := by kernel_rfl
theorem laidOut : laidOutB Try.prog = true := by kernel_rfl
set_option maxHeartbeats 4000000 in
set_option maxRecDepth 100000 in
theorem lifted (os : Os) (started : os.Started) (H : Type) (enc : TypeId × Value → H) :
    ReturnsInHanded {} Try.checked os 9 .any (Rows.soficApartsSpec.pre6 enc Try.prog Try.f9 Rows.soficApartsRow.domain false) (Rows.soficApartsSpec.post enc Try.prog Try.f9 false true false false) := by
  refine returnsInHanded_of_change_sized (C := Try.checked) own started (by kernel_rfl) Try.func9
    (ChangeSpec.witness6 (enc := enc) (C := Try.checked) false ⟨#[], #[.slice none 0 0, .slice none 0 0, .agg #[.int .i64 0, .int .i64 0]], []⟩ 8 (by kernel_rfl) (by kernel_rfl) (by kernel_rfl) (by kernel_rfl)) ?_
  intro W base args ds gs before hval0 hW hcnd hsz0 _
  have hsz : (DataW.weightsEach Try.prog (Try.f9.params.toList ++ Rows.soficApartsSpec.plain.varTypes Try.prog) (ds ++ gs)).all (· ≤ reachBytes) = true := hsz0
  have hval : ∀ (j : Nat) t v, Try.f9.params[j]? = some t → args[j]? = some v → Value.okWide Try.prog W .any base t v := hval0
  have hW' := hW
  obtain ⟨p, q, hA0, hV, rfl, hfz, hnd⟩ := hW
  have hA : DataW.TrodAll enc Try.prog W 0 (fun _ => true) true Try.f9.params.toList args.toList ds p := hA0
  rw [Try.params9] at hA hval hsz
  obtain ⟨v0, vs0, d0, ds0, p0, q0, hargs, rfl, rfl, h0, r0⟩ := trodAll_cons hA
  obtain ⟨v1, vs1, d1, ds1, p1, q1, rfl, rfl, rfl, h1, r1⟩ := trodAll_cons r0
  obtain ⟨v2, vs2, d2, ds2, p2, q2, rfl, rfl, rfl, h2, r2⟩ := trodAll_cons r1
  obtain ⟨rfl, rfl, rfl⟩ := trodAll_nil r2
  obtain rfl : args = #[v0, v1, v2] := by cases args; simp_all
  obtain ⟨rfl, rfl⟩ := trodVars_none hV
  obtain ⟨a0, len0, cap0, rfl⟩ := okWide_slice Try.underlying22 (hval 0 22 v0 rfl rfl)
  have k0 := h0
  have lt0 : ∀ x ∈ p0, x.block < W.heap.size := by obtain ⟨m, hm⟩ := k0; exact DataW.trod_lt m _ _ _ hm
  obtain ⟨z0, zl0, hl0⟩ := open_prs Try.underlying22 Try.underlying27 Try.underlying3 (by kernel_rfl) (by kernel_rfl) h0
  obtain ⟨a1, len1, cap1, rfl⟩ := okWide_slice Try.underlying22 (hval 1 22 v1 rfl rfl)
  have k1 := h1
  have lt1 : ∀ x ∈ p1, x.block < W.heap.size := by obtain ⟨m, hm⟩ := k1; exact DataW.trod_lt m _ _ _ hm
  obtain ⟨z1, zl1, hl1⟩ := open_prs Try.underlying22 Try.underlying27 Try.underlying3 (by kernel_rfl) (by kernel_rfl) h1
  have k2 := h2
  have lt2 : ∀ x ∈ p2, x.block < W.heap.size := by obtain ⟨m, hm⟩ := k2; exact DataW.trod_lt m _ _ _ hm
  obtain ⟨za2, zb2, rfl⟩ := open_pairA Try.underlying27 Try.underlying3 (by kernel_rfl) (by kernel_rfl) (hval 2 27 v2 rfl rfl) h2
  clear hA0 hval0 hsz0 hsz
  refine (Cl.calls (soficApartsR_calls W _ z0 _ z1 za2 zb2 hl0 hl1)).mono fun e W' ⟨he, hu⟩ => ?_
  have bel := hu.below
  subst he
  exact ⟨_, rfl, _, _, _, [], _, [], hW', trodAll_mk1 (shut_bool Try.underlying4 _), (trodAll_cons_mk (Below.trod laidOut (by kernel_rfl) (of_decide_eq_true (by kernel_rfl)) k0 bel lt0) (trodAll_cons_mk (Below.trod laidOut (by kernel_rfl) (of_decide_eq_true (by kernel_rfl)) k1 bel lt1) (trodAll_cons_mk (Below.trod laidOut (by kernel_rfl) (of_decide_eq_true (by kernel_rfl)) k2 bel lt2) trodAll_mk0))), rfl, bel.frame _, fun h => by cases h⟩
theorem over : Rows.soficApartsRow.holds Try.pinned (OpenSpec.ofChange Rows.soficApartsSpec) :=
  OpenClaim.holds_of_wide 9 Try.f9 rfl rfl rfl rfl rfl rfl rfl ⟨rfl, rfl, rfl, rfl, rfl⟩ rfl rfl rfl rfl rfl (by kernel_rfl) Try.func9 (by kernel_rfl)
    (of_decide_eq_true (by kernel_rfl)) (by unfold Func.isWrapper; first | (rw [if_pos (by decide +kernel)]; kernel_rfl) | (rw [if_neg (by decide +kernel)]; exact ⟨rfl, rfl⟩))
    (fun os started H enc _ => lifted os started H enc)
theorem proved : Rows.SoficApartsSaid := over
end Go.Proofs.Ytofpdjpenmhbnaa.soficAparts
namespace Go.Proofs.Ytofpdjpenmhbnaa
theorem soficAparts_holds : Rows.SoficApartsSaid := soficAparts.proved
#print axioms soficAparts_holds
end Go.Proofs.Ytofpdjpenmhbnaa
