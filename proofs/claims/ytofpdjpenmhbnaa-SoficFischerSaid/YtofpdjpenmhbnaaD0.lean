/- Arguments: slices of pairs, read as data. -/
import Derived.ProofKit
import Derived.OpenShut
import Derived.ShutString
import Derived.ChangeOld
import Derived.Below
import Derived.SizedLaws
import Derived.Deep.Slices
import Derived.Test.YtofpdjpenmhbnaaRows
import Derived.Test.YtofpdjpenmhbnaaC2
set_option linter.unusedVariables false
set_option linter.unusedSimpArgs false
set_option linter.unusedSectionVars false
namespace Go.Kx
open Go Go.RowKit Go.ChangeShapes Go.WideShapes Go.Deep
theorem open_prs {H : Type} {enc : TypeId × Value → H} {P : Program} {w : World} {base : Nat} {spare : Nat → Bool} {held : Bool} {t e q : TypeId} {a : Option Addr} {len cap : Nat} {d : DataW H} {ps : List MemPlace} (ht : P.underlying t = some (.slice e)) (he : P.underlying e = some (.array 2 q)) (hq : P.underlying q = some (.int .i64))
    (ce : P.cellsOf e = 2) (cq : P.cellsOf q = 1) (h : DataW.Trod enc P w base spare held t (.slice a len cap) d ps) : ∃ zs : List (Int × Int), zs.length = len ∧ SlAt w 2 (.slice a len cap) zs.length (prs zs) := by
  obtain ⟨fuel, hf⟩ := h
  rcases open_slice ht hf with ⟨hcs, _⟩ | ⟨x, l, c, m, n, D, Pl, hcs, _, hl, _, hm, _, hx⟩
  · simp [Value.cells] at hcs
    obtain ⟨rfl, rfl, rfl⟩ := hcs
    exact ⟨[], rfl, SlAt.nil w 2⟩
  · simp [Value.cells] at hcs
    obtain ⟨rfl, rfl, rfl⟩ := hcs
    have hlm : len ≤ m := by rw [hm]; split <;> omega
    have each : ∀ i, i < len → ∃ z : Int × Int, w.cell? (x.add (i * 2)) = some (.int .i64 z.1) ∧ w.cell? (x.add (i * 2 + 1)) = some (.int .i64 z.2) := fun i hi => by
      obtain ⟨cs', h1, h2⟩ := hx i (by omega)
      rw [ce] at h1
      obtain ⟨_, hlen, hcell⟩ := World.cells?_some h1
      obtain ⟨xs, k, _, _, _, hxl, hg⟩ := DataW.trod_array he h2
      match cs', hlen, xs, hxl with
      | [v0, v1], _, [y0, y1], _ =>
        have g0 := hg 0 (by decide)
        have g1 := hg 1 (by decide)
        simp [cq] at g0 g1
        obtain ⟨z0, e0, _, _⟩ := DataW.trod_int hq g0
        obtain ⟨z1, e1, _, _⟩ := DataW.trod_int hq g1
        simp only [List.cons.injEq, and_true] at e0 e1
        have c0 := hcell 0 (by decide)
        have c1 := hcell 1 (by decide)
        rw [add_add] at c0 c1
        exact ⟨(z0, z1), by simpa [e0] using c0, by simpa [e1] using c1⟩
    obtain ⟨z, hz⟩ := choose_lt each
    refine ⟨(List.range len).map z, by simp, by simp, some x, cap, by simp, by simpa using hl, fun j v hj => ?_⟩
    have hjl : j < ((List.range len).map z).length * 2 := by
      have := (List.getElem?_eq_some_iff.1 hj).1
      rwa [length_prs] at this
    simp only [List.length_map, List.length_range] at hjl
    have hsp : x.spot = none := by
      have h0 := (hz 0 (by omega)).1
      have := World.cell?_spot h0
      simpa [Addr.add] using this
    obtain ⟨b, o, s⟩ := x
    simp only at hsp
    subst hsp
    refine ⟨b, o, rfl, ?_⟩
    have hget : ((List.range len).map z).getD (j / 2) (0, 0) = z (j / 2) := by
      simp [List.getD, show j / 2 < len by omega]
    have hat := prs_at (ps := (List.range len).map z) (i := j / 2) (x := j % 2) (by simp; omega) (by omega)
    rw [show j / 2 * 2 + j % 2 = j by omega, hj, hget] at hat
    rw [hat]
    have hzz := hz (j / 2) (by omega)
    rcases Nat.mod_two_eq_zero_or_one j with h0 | h0
    · have := hzz.1
      rw [addr_add, show j / 2 * 2 = j by omega] at this
      rw [this, h0]; rfl
    · have := hzz.2
      rw [addr_add, show j / 2 * 2 + 1 = j by omega] at this
      rw [this, h0]; rfl
end Go.Kx
/- The law SoficFischer: for every input it returns true, and its arguments read as before. No condition. -/
namespace Go.Proofs.Ytofpdjpenmhbnaa.soficFischer
open Go Go.Kx Go.ChangeShapes Go.WideShapes Go.ChangeAt Go.RowKit
open Go.ChangeMaps (open_string shut_string)
theorem own : ownKnob Try.prog.godebug = none := by kernel_rfl
theorem laidOut : laidOutB Try.prog = true := by kernel_rfl
set_option maxRecDepth 100000 in
theorem lifted (os : Os) (started : os.Started) (H : Type) (enc : TypeId × Value → H) :
    ReturnsInHanded {} Try.checked os 11 .any (Rows.soficFischerSpec.pre6 enc Try.prog Try.f11 Rows.soficFischerRow.domain false) (Rows.soficFischerSpec.post enc Try.prog Try.f11 false true false false) := by
  refine returnsInHanded_of_change_sized (C := Try.checked) own started (by kernel_rfl) Try.func11
    (ChangeSpec.witness6 (enc := enc) (C := Try.checked) false ⟨#[], #[.slice none 0 0, .int .i64 0], []⟩ 8 (by kernel_rfl) (by kernel_rfl) (by kernel_rfl) (by kernel_rfl)) ?_
  intro W base args ds gs before hval0 hW hcnd hsz0 _
  have hsz : (DataW.weightsEach Try.prog (Try.f11.params.toList ++ Rows.soficFischerSpec.plain.varTypes Try.prog) (ds ++ gs)).all (· ≤ reachBytes) = true := hsz0
  have hval : ∀ (j : Nat) t v, Try.f11.params[j]? = some t → args[j]? = some v → Value.okWide Try.prog W .any base t v := hval0
  have hW' := hW
  obtain ⟨p, q, hA0, hV, rfl, hfz, hnd⟩ := hW
  have hA : DataW.TrodAll enc Try.prog W 0 (fun _ => true) true Try.f11.params.toList args.toList ds p := hA0
  rw [Try.params11] at hA hval hsz
  obtain ⟨v0, vs0, d0, ds0, p0, q0, hargs, rfl, rfl, h0, r0⟩ := trodAll_cons hA
  obtain ⟨v1, vs1, d1, ds1, p1, q1, rfl, rfl, rfl, h1, r1⟩ := trodAll_cons r0
  obtain ⟨rfl, rfl, rfl⟩ := trodAll_nil r1
  obtain rfl : args = #[v0, v1] := by cases args; simp_all
  obtain ⟨rfl, rfl⟩ := trodVars_none hV
  obtain ⟨a0, len0, cap0, rfl⟩ := okWide_slice Try.underlying22 (hval 0 22 v0 rfl rfl)
  have k0 := h0
  have lt0 : ∀ x ∈ p0, x.block < W.heap.size := by obtain ⟨m, hm⟩ := k0; exact DataW.trod_lt m _ _ _ hm
  obtain ⟨z0, zl0, hl0⟩ := open_prs Try.underlying22 Try.underlying27 Try.underlying3 (by kernel_rfl) (by kernel_rfl) h0
  obtain ⟨a1, rfl, rfl, rfl, w1⟩ := open_int Try.underlying3 (hval 1 3 v1 rfl rfl) h1
  clear hA0 hval0 hsz0 hsz
  refine (Cl.calls (soficFischer_calls W _ z0 a1 hl0 w1)).mono fun e W' ⟨he, hu⟩ => ?_
  have bel := hu.below
  subst he
  exact ⟨_, rfl, _, _, _, [], _, [], hW', trodAll_mk1 (shut_bool Try.underlying4 _), (trodAll_cons_mk (Below.trod laidOut (by kernel_rfl) (of_decide_eq_true (by kernel_rfl)) k0 bel lt0) (trodAll_cons_mk (shut_int Try.underlying3 w1) trodAll_mk0)), rfl, bel.frame _, fun h => by cases h⟩
theorem over : Rows.soficFischerRow.holds Try.pinned (OpenSpec.ofChange Rows.soficFischerSpec) :=
  OpenClaim.holds_of_wide 11 Try.f11 rfl rfl rfl rfl rfl rfl rfl ⟨rfl, rfl, rfl, rfl, rfl⟩ rfl rfl rfl rfl rfl (by kernel_rfl) Try.func11 (by kernel_rfl)
    (of_decide_eq_true (by kernel_rfl)) (by unfold Func.isWrapper; first | (rw [if_pos (by decide +kernel)]; kernel_rfl) | (rw [if_neg (by decide +kernel)]; exact ⟨rfl, rfl⟩))
    (fun os started H enc _ => lifted os started H enc)
theorem proved : Rows.SoficFischerSaid := over
end Go.Proofs.Ytofpdjpenmhbnaa.soficFischer
namespace Go.Proofs.Ytofpdjpenmhbnaa
theorem soficFischer_holds : Rows.SoficFischerSaid := soficFischer.proved
#print axioms soficFischer_holds
end Go.Proofs.Ytofpdjpenmhbnaa
