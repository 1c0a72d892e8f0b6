/-
  No cell of these rows narrows 'for every input' (looked for: loops, veiled, ifaces, maps, wideKeys, modest, calm, conditions, laid).
  DERIVED. THE GIVEN ROWS OF THIS SEAT. 11 by the template 'for every input the law returns true; each argument reads behind the call as it read before'; 0 by the template 'total and deterministic' (their statements: YtofpdjpenmhbnaaTotals.lean).
  GIVEN WITH THE SEED: the statements are not yours to turn. If you find one false, say at which input.
  Laid BY PROGRAM, IN A SANDBOX (cutbox-rows.mjs): the forced cells as the released guide's own fill.sh prints them over the translation 0a29ed93271371eb… (all of the seat's roots in one cut). By AI agents, Wed Nov 11 2026. No macro, syntax, notation, axiom, sorry.
-/
import Derived.Test.YtofpdjpenmhbnaaChecked
import GoSem.Claim
import GoSem.ClaimJoined
import GoSem.ClaimMapViews
import Derived.JoinedTies
import Derived.KernelRfl
namespace Go.Proofs.Ytofpdjpenmhbnaa
/- THE CELL 'sum', in the pinned program and in every row, IS THE sha256 OF THE DUMP (.gsa) THAT YtofpdjpenmhbnaaProg.lean LOADS. Nothing in Lean hashes anything: it is a label: what it is worth is what the hold of that sum in a sandbox is worth. -/
noncomputable def Try.pinned : Pinned := { name := "ytofpdjpenmhbnaa", sum := "0a29ed93271371ebdcfaf1a88f6de256f80ffdc3eed1d7610523bfc47d98118f", checked := Try.checked }
namespace Rows
def none {H : Type} : Left H := { results := [], args := [] }

/-- 'girouettelaw07.SoficMemories': WHATEVER THE INPUT: true; the input reads as it did. -/
def soficMemoriesSpec : ChangeSpec := { name := "soficMemories", fn := fun _ => fun
  | [d1, d2] => { results := [.lit (.bool true)], args := [d1, d2] }
  | _ => none }
def soficMemoriesRow : OpenClaim := { program := "ytofpdjpenmhbnaa", sum := "0a29ed93271371ebdcfaf1a88f6de256f80ffdc3eed1d7610523bfc47d98118f", func := "girouette/girouettelaw07.SoficMemories", spec := "soficMemories", inPlace := ["internal/bytealg.IndexByteString", "internal/bytealg.IndexString"], unfollowed := true, recurses := true, named := ["internal/bytealg.MaxLen"], plainKeys := false, apart := false }
def SoficMemoriesSaid : Prop := soficMemoriesRow.holds Try.pinned (OpenSpec.ofChange soficMemoriesSpec)

/-- ITS FALSE NEIGHBOUR: 'it returns false'. Refute it at one input. -/
def soficMemoriesWrong : ChangeSpec := { name := "soficMemories", fn := fun _ => fun
  | [d1, d2] => { results := [.lit (.bool false)], args := [d1, d2] }
  | _ => none }
def SoficMemoriesWrongFalsely : Prop := soficMemoriesRow.holds Try.pinned (OpenSpec.ofChange soficMemoriesWrong)

/-- 'girouettelaw07.SoficRounds': WHATEVER THE INPUT: true; the input reads as it did. -/
def soficRoundsSpec : ChangeSpec := { name := "soficRounds", fn := fun _ => fun
  | [d1, d2] => { results := [.lit (.bool true)], args := [d1, d2] }
  | _ => none }
def soficRoundsRow : OpenClaim := { program := "ytofpdjpenmhbnaa", sum := "0a29ed93271371ebdcfaf1a88f6de256f80ffdc3eed1d7610523bfc47d98118f", func := "girouette/girouettelaw07.SoficRounds", spec := "soficRounds", inPlace := ["internal/bytealg.IndexByteString", "internal/bytealg.IndexString"], unfollowed := true, recurses := true, named := ["internal/bytealg.MaxLen"], plainKeys := false, apart := false }
def SoficRoundsSaid : Prop := soficRoundsRow.holds Try.pinned (OpenSpec.ofChange soficRoundsSpec)

/-- ITS FALSE NEIGHBOUR: 'it returns false'. Refute it at one input. -/
def soficRoundsWrong : ChangeSpec := { name := "soficRounds", fn := fun _ => fun
  | [d1, d2] => { results := [.lit (.bool false)], args := [d1, d2] }
  | _ => none }
def SoficRoundsWrongFalsely : Prop := soficRoundsRow.holds Try.pinned (OpenSpec.ofChange soficRoundsWrong)

/-- 'girouettelaw07.SoficTells': WHATEVER THE INPUT: true; the input reads as it did. -/
def soficTellsSpec : ChangeSpec := { name := "soficTells", fn := fun _ => fun
  | [d1, d2] => { results := [.lit (.bool true)], args := [d1, d2] }
  | _ => none }
def soficTellsRow : OpenClaim := { program := "ytofpdjpenmhbnaa", sum := "0a29ed93271371ebdcfaf1a88f6de256f80ffdc3eed1d7610523bfc47d98118f", func := "girouette/girouettelaw07.SoficTells", spec := "soficTells", inPlace := ["internal/bytealg.IndexByteString", "internal/bytealg.IndexString"], unfollowed := true, recurses := true, named := ["internal/bytealg.MaxLen"], plainKeys := false, apart := false }
def SoficTellsSaid : Prop := soficTellsRow.holds Try.pinned (OpenSpec.ofChange soficTellsSpec)

/-- ITS FALSE NEIGHBOUR: 'it returns false'. Refute it at one input. -/
def soficTellsWrong : ChangeSpec := { name := "soficTells", fn := fun _ => fun
  | [d1, d2] => { results := [.lit (.bool false)], args := [d1, d2] }
  | _ => none }
def SoficTellsWrongFalsely : Prop := soficTellsRow.holds Try.pinned (OpenSpec.ofChange soficTellsWrong)

/-- 'girouettelaw07.SoficSteps': WHATEVER THE INPUT: true; the input reads as it did. -/
def soficStepsSpec : ChangeSpec := { name := "soficSteps", fn := fun _ => fun
  | [d] => { results := [.lit (.bool true)], args := [d] }
  | _ => none }
def soficStepsRow : OpenClaim := { program := "ytofpdjpenmhbnaa", sum := "0a29ed93271371ebdcfaf1a88f6de256f80ffdc3eed1d7610523bfc47d98118f", func := "girouette/girouettelaw07.SoficSteps", spec := "soficSteps", inPlace := ["internal/bytealg.IndexByteString", "internal/bytealg.IndexString"], unfollowed := true, recurses := true, named := ["internal/bytealg.MaxLen"], plainKeys := false, apart := false }
def SoficStepsSaid : Prop := soficStepsRow.holds Try.pinned (OpenSpec.ofChange soficStepsSpec)

/-- ITS FALSE NEIGHBOUR: 'it returns false'. Refute it at one input. -/
def soficStepsWrong : ChangeSpec := { name := "soficSteps", fn := fun _ => fun
  | [d] => { results := [.lit (.bool false)], args := [d] }
  | _ => none }
def SoficStepsWrongFalsely : Prop := soficStepsRow.holds Try.pinned (OpenSpec.ofChange soficStepsWrong)

/-- 'girouettelaw07.SoficWords': WHATEVER THE INPUT: true; the input reads as it did. -/
def soficWordsSpec : ChangeSpec := { name := "soficWords", fn := fun _ => fun
  | [d1, d2] => { results := [.lit (.bool true)], args := [d1, d2] }
  | _ => none }
def soficWordsRow : OpenClaim := { program := "ytofpdjpenmhbnaa", sum := "0a29ed93271371ebdcfaf1a88f6de256f80ffdc3eed1d7610523bfc47d98118f", func := "girouette/girouettelaw07.SoficWords", spec := "soficWords", inPlace := ["internal/bytealg.IndexByteString", "internal/bytealg.IndexString"], unfollowed := true, recurses := true, named := ["internal/bytealg.MaxLen"], plainKeys := false, apart := false }
def SoficWordsSaid : Prop := soficWordsRow.holds Try.pinned (OpenSpec.ofChange soficWordsSpec)

/-- ITS FALSE NEIGHBOUR: 'it returns false'. Refute it at one input. -/
def soficWordsWrong : ChangeSpec := { name := "soficWords", fn := fun _ => fun
  | [d1, d2] => { results := [.lit (.bool false)], args := [d1, d2] }
  | _ => none }
def SoficWordsWrongFalsely : Prop := soficWordsRow.holds Try.pinned (OpenSpec.ofChange soficWordsWrong)

/-- 'girouettelaw07.SoficForms': WHATEVER THE INPUT: true; the input reads as it did. -/
def soficFormsSpec : ChangeSpec := { name := "soficForms", fn := fun _ => fun
  | [d1, d2] => { results := [.lit (.bool true)], args := [d1, d2] }
  | _ => none }
def soficFormsRow : OpenClaim := { program := "ytofpdjpenmhbnaa", sum := "0a29ed93271371ebdcfaf1a88f6de256f80ffdc3eed1d7610523bfc47d98118f", func := "girouette/girouettelaw07.SoficForms", spec := "soficForms", inPlace := ["internal/bytealg.IndexByteString", "internal/bytealg.IndexString"], unfollowed := true, recurses := true, named := ["internal/bytealg.MaxLen"], plainKeys := false, apart := false }
def SoficFormsSaid : Prop := soficFormsRow.holds Try.pinned (OpenSpec.ofChange soficFormsSpec)

/-- ITS FALSE NEIGHBOUR: 'it returns false'. Refute it at one input. -/
def soficFormsWrong : ChangeSpec := { name := "soficForms", fn := fun _ => fun
  | [d1, d2] => { results := [.lit (.bool false)], args := [d1, d2] }
  | _ => none }
def SoficFormsWrongFalsely : Prop := soficFormsRow.holds Try.pinned (OpenSpec.ofChange soficFormsWrong)

/-- 'girouettelaw07.SoficAparts': WHATEVER THE INPUT: true; the input reads as it did. -/
def soficApartsSpec : ChangeSpec := { name := "soficAparts", fn := fun _ => fun
  | [d1, d2, d3] => { results := [.lit (.bool true)], args := [d1, d2, d3] }
  | _ => none }
def soficApartsRow : OpenClaim := { program := "ytofpdjpenmhbnaa", sum := "0a29ed93271371ebdcfaf1a88f6de256f80ffdc3eed1d7610523bfc47d98118f", func := "girouette/girouettelaw07.SoficAparts", spec := "soficAparts", inPlace := ["internal/bytealg.IndexByteString", "internal/bytealg.IndexString"], unfollowed := true, recurses := true, named := ["internal/bytealg.MaxLen"], plainKeys := false, apart := false }
def SoficApartsSaid : Prop := soficApartsRow.holds Try.pinned (OpenSpec.ofChange soficApartsSpec)

/-- ITS FALSE NEIGHBOUR: 'it returns false'. Refute it at one input. -/
def soficApartsWrong : ChangeSpec := { name := "soficAparts", fn := fun _ => fun
  | [d1, d2, d3] => { results := [.lit (.bool false)], args := [d1, d2, d3] }
  | _ => none }
def SoficApartsWrongFalsely : Prop := soficApartsRow.holds Try.pinned (OpenSpec.ofChange soficApartsWrong)

/-- 'girouettelaw07.SoficCounts': WHATEVER THE INPUT: true; the input reads as it did. -/
def soficCountsSpec : ChangeSpec := { name := "soficCounts", fn := fun _ => fun
  | [d1, d2] => { results := [.lit (.bool true)], args := [d1, d2] }
  | _ => none }
def soficCountsRow : OpenClaim := { program := "ytofpdjpenmhbnaa", sum := "0a29ed93271371ebdcfaf1a88f6de256f80ffdc3eed1d7610523bfc47d98118f", func := "girouette/girouettelaw07.SoficCounts", spec := "soficCounts", inPlace := ["internal/bytealg.IndexByteString", "internal/bytealg.IndexString"], unfollowed := true, recurses := true, named := ["internal/bytealg.MaxLen"], plainKeys := false, apart := false }
def SoficCountsSaid : Prop := soficCountsRow.holds Try.pinned (OpenSpec.ofChange soficCountsSpec)

/-- ITS FALSE NEIGHBOUR: 'it returns false'. Refute it at one input. -/
def soficCountsWrong : ChangeSpec := { name := "soficCounts", fn := fun _ => fun
  | [d1, d2] => { results := [.lit (.bool false)], args := [d1, d2] }
  | _ => none }
def SoficCountsWrongFalsely : Prop := soficCountsRow.holds Try.pinned (OpenSpec.ofChange soficCountsWrong)

/-- 'girouettelaw07.SoficFischer': WHATEVER THE INPUT: true; the input reads as it did. -/
def soficFischerSpec : ChangeSpec := { name := "soficFischer", fn := fun _ => fun
  | [d1, d2] => { results := [.lit (.bool true)], args := [d1, d2] }
  | _ => none }
def soficFischerRow : OpenClaim := { program := "ytofpdjpenmhbnaa", sum := "0a29ed93271371ebdcfaf1a88f6de256f80ffdc3eed1d7610523bfc47d98118f", func := "girouette/girouettelaw07.SoficFischer", spec := "soficFischer", inPlace := ["internal/bytealg.IndexByteString", "internal/bytealg.IndexString"], unfollowed := true, recurses := true, named := ["internal/bytealg.MaxLen"], plainKeys := false, apart := false }
def SoficFischerSaid : Prop := soficFischerRow.holds Try.pinned (OpenSpec.ofChange soficFischerSpec)

/-- ITS FALSE NEIGHBOUR: 'it returns false'. Refute it at one input. -/
def soficFischerWrong : ChangeSpec := { name := "soficFischer", fn := fun _ => fun
  | [d1, d2] => { results := [.lit (.bool false)], args := [d1, d2] }
  | _ => none }
def SoficFischerWrongFalsely : Prop := soficFischerRow.holds Try.pinned (OpenSpec.ofChange soficFischerWrong)

/-- 'girouettelaw07.SoficManning': WHATEVER THE INPUT: true; the input reads as it did. -/
def soficManningSpec : ChangeSpec := { name := "soficManning", fn := fun _ => fun
  | [d1, d2, d3] => { results := [.lit (.bool true)], args := [d1, d2, d3] }
  | _ => none }
def soficManningRow : OpenClaim := { program := "ytofpdjpenmhbnaa", sum := "0a29ed93271371ebdcfaf1a88f6de256f80ffdc3eed1d7610523bfc47d98118f", func := "girouette/girouettelaw07.SoficManning", spec := "soficManning", inPlace := ["internal/bytealg.IndexByteString", "internal/bytealg.IndexString"], unfollowed := true, recurses := true, named := ["internal/bytealg.MaxLen"], plainKeys := false, apart := false }
def SoficManningSaid : Prop := soficManningRow.holds Try.pinned (OpenSpec.ofChange soficManningSpec)

/-- ITS FALSE NEIGHBOUR: 'it returns false'. Refute it at one input. -/
def soficManningWrong : ChangeSpec := { name := "soficManning", fn := fun _ => fun
  | [d1, d2, d3] => { results := [.lit (.bool false)], args := [d1, d2, d3] }
  | _ => none }
def SoficManningWrongFalsely : Prop := soficManningRow.holds Try.pinned (OpenSpec.ofChange soficManningWrong)

/-- 'girouettelaw07.SoficChecks': WHATEVER THE INPUT: true; the input reads as it did. -/
def soficChecksSpec : ChangeSpec := { name := "soficChecks", fn := fun _ => fun
  | [d1, d2] => { results := [.lit (.bool true)], args := [d1, d2] }
  | _ => none }
def soficChecksRow : OpenClaim := { program := "ytofpdjpenmhbnaa", sum := "0a29ed93271371ebdcfaf1a88f6de256f80ffdc3eed1d7610523bfc47d98118f", func := "girouette/girouettelaw07.SoficChecks", spec := "soficChecks", inPlace := ["internal/bytealg.IndexByteString", "internal/bytealg.IndexString"], unfollowed := true, recurses := true, named := ["internal/bytealg.MaxLen"], plainKeys := false, apart := false }
def SoficChecksSaid : Prop := soficChecksRow.holds Try.pinned (OpenSpec.ofChange soficChecksSpec)

/-- ITS FALSE NEIGHBOUR: 'it returns false'. Refute it at one input. -/
def soficChecksWrong : ChangeSpec := { name := "soficChecks", fn := fun _ => fun
  | [d1, d2] => { results := [.lit (.bool false)], args := [d1, d2] }
  | _ => none }
def SoficChecksWrongFalsely : Prop := soficChecksRow.holds Try.pinned (OpenSpec.ofChange soficChecksWrong)

/- THE SECOND FORM. 'bulk': how many values and letters a reading holds, each counted each time it is reached (what is shared counts as often as it is met; a slice's spare places count too). A statement '..UptoSaid' is the law's where the arguments, and the package variables that the reading takes, are together of bulk at most 1048576: NARROWER than '..Said'. Prove '..Said' where nothing that the law and all that it calls make is longer than what came in: it says more and counts as full. Else prove '..UptoSaid'. A law counts once. -/
mutual
def uptoBulk {H : Type} : DataW H → Nat
  | .lit (.string bytes) => bytes.length + 1
  | .lit _ => 1
  | .nil => 1
  | .ptr d => uptoBulk d + 1
  | .slice elems spare => uptoBulkAll elems + uptoBulkAll spare + 1
  | .agg parts => uptoBulkAll parts + 1
  | .iface _ d => uptoBulk d + 1
  | .map entries => uptoBulkEntries entries + 1
  | .held _ => 1
def uptoBulkAll {H : Type} : List (DataW H) → Nat
  | [] => 0
  | d :: r => uptoBulk d + uptoBulkAll r
def uptoBulkEntries {H : Type} : List (Lit × DataW H) → Nat
  | [] => 0
  | x :: r => uptoBulkEntry x + uptoBulkEntries r
def uptoBulkEntry {H : Type} : Lit × DataW H → Nat
  | (.string bytes, d) => bytes.length + uptoBulk d + 1
  | (_, d) => uptoBulk d + 1
 end
def uptoSmall : (H : Type) → List (DataW H) → Bool := fun _ ds => decide (uptoBulkAll ds ≤ 1048576)
def OpenSpec.upto (s : _root_.Go.ChangeSpec) : _root_.Go.OpenSpec := { _root_.Go.OpenSpec.ofChange s with cond := some uptoSmall }

/-- 'girouettelaw07.SoficMemories', WHERE WHAT IT READS IS OF BULK AT MOST 1048576: true; the input reads as it did. -/
def soficMemoriesUptoRow : OpenClaim := { program := "ytofpdjpenmhbnaa", sum := "0a29ed93271371ebdcfaf1a88f6de256f80ffdc3eed1d7610523bfc47d98118f", func := "girouette/girouettelaw07.SoficMemories", spec := "soficMemories", inPlace := ["internal/bytealg.IndexByteString", "internal/bytealg.IndexString"], unfollowed := true, recurses := true, named := ["internal/bytealg.MaxLen"], plainKeys := false, apart := false, narrowed := true }
def SoficMemoriesUptoSaid : Prop := soficMemoriesUptoRow.holds Try.pinned (OpenSpec.upto soficMemoriesSpec)

/-- 'girouettelaw07.SoficRounds', WHERE WHAT IT READS IS OF BULK AT MOST 1048576: true; the input reads as it did. -/
def soficRoundsUptoRow : OpenClaim := { program := "ytofpdjpenmhbnaa", sum := "0a29ed93271371ebdcfaf1a88f6de256f80ffdc3eed1d7610523bfc47d98118f", func := "girouette/girouettelaw07.SoficRounds", spec := "soficRounds", inPlace := ["internal/bytealg.IndexByteString", "internal/bytealg.IndexString"], unfollowed := true, recurses := true, named := ["internal/bytealg.MaxLen"], plainKeys := false, apart := false, narrowed := true }
def SoficRoundsUptoSaid : Prop := soficRoundsUptoRow.holds Try.pinned (OpenSpec.upto soficRoundsSpec)

/-- 'girouettelaw07.SoficTells', WHERE WHAT IT READS IS OF BULK AT MOST 1048576: true; the input reads as it did. -/
def soficTellsUptoRow : OpenClaim := { program := "ytofpdjpenmhbnaa", sum := "0a29ed93271371ebdcfaf1a88f6de256f80ffdc3eed1d7610523bfc47d98118f", func := "girouette/girouettelaw07.SoficTells", spec := "soficTells", inPlace := ["internal/bytealg.IndexByteString", "internal/bytealg.IndexString"], unfollowed := true, recurses := true, named := ["internal/bytealg.MaxLen"], plainKeys := false, apart := false, narrowed := true }
def SoficTellsUptoSaid : Prop := soficTellsUptoRow.holds Try.pinned (OpenSpec.upto soficTellsSpec)

/-- 'girouettelaw07.SoficSteps', WHERE WHAT IT READS IS OF BULK AT MOST 1048576: true; the input reads as it did. -/
def soficStepsUptoRow : OpenClaim := { program := "ytofpdjpenmhbnaa", sum := "0a29ed93271371ebdcfaf1a88f6de256f80ffdc3eed1d7610523bfc47d98118f", func := "girouette/girouettelaw07.SoficSteps", spec := "soficSteps", inPlace := ["internal/bytealg.IndexByteString", "internal/bytealg.IndexString"], unfollowed := true, recurses := true, named := ["internal/bytealg.MaxLen"], plainKeys := false, apart := false, narrowed := true }
def SoficStepsUptoSaid : Prop := soficStepsUptoRow.holds Try.pinned (OpenSpec.upto soficStepsSpec)

/-- 'girouettelaw07.SoficWords', WHERE WHAT IT READS IS OF BULK AT MOST 1048576: true; the input reads as it did. -/
def soficWordsUptoRow : OpenClaim := { program := "ytofpdjpenmhbnaa", sum := "0a29ed93271371ebdcfaf1a88f6de256f80ffdc3eed1d7610523bfc47d98118f", func := "girouette/girouettelaw07.SoficWords", spec := "soficWords", inPlace := ["internal/bytealg.IndexByteString", "internal/bytealg.IndexString"], unfollowed := true, recurses := true, named := ["internal/bytealg.MaxLen"], plainKeys := false, apart := false, narrowed := true }
def SoficWordsUptoSaid : Prop := soficWordsUptoRow.holds Try.pinned (OpenSpec.upto soficWordsSpec)

/-- 'girouettelaw07.SoficForms', WHERE WHAT IT READS IS OF BULK AT MOST 1048576: true; the input reads as it did. -/
def soficFormsUptoRow : OpenClaim := { program := "ytofpdjpenmhbnaa", sum := "0a29ed93271371ebdcfaf1a88f6de256f80ffdc3eed1d7610523bfc47d98118f", func := "girouette/girouettelaw07.SoficForms", spec := "soficForms", inPlace := ["internal/bytealg.IndexByteString", "internal/bytealg.IndexString"], unfollowed := true, recurses := true, named := ["internal/bytealg.MaxLen"], plainKeys := false, apart := false, narrowed := true }
def SoficFormsUptoSaid : Prop := soficFormsUptoRow.holds Try.pinned (OpenSpec.upto soficFormsSpec)

/-- 'girouettelaw07.SoficAparts', WHERE WHAT IT READS IS OF BULK AT MOST 1048576: true; the input reads as it did. -/
def soficApartsUptoRow : OpenClaim := { program := "ytofpdjpenmhbnaa", sum := "0a29ed93271371ebdcfaf1a88f6de256f80ffdc3eed1d7610523bfc47d98118f", func := "girouette/girouettelaw07.SoficAparts", spec := "soficAparts", inPlace := ["internal/bytealg.IndexByteString", "internal/bytealg.IndexString"], unfollowed := true, recurses := true, named := ["internal/bytealg.MaxLen"], plainKeys := false, apart := false, narrowed := true }
def SoficApartsUptoSaid : Prop := soficApartsUptoRow.holds Try.pinned (OpenSpec.upto soficApartsSpec)

/-- 'girouettelaw07.SoficCounts', WHERE WHAT IT READS IS OF BULK AT MOST 1048576: true; the input reads as it did. -/
def soficCountsUptoRow : OpenClaim := { program := "ytofpdjpenmhbnaa", sum := "0a29ed93271371ebdcfaf1a88f6de256f80ffdc3eed1d7610523bfc47d98118f", func := "girouette/girouettelaw07.SoficCounts", spec := "soficCounts", inPlace := ["internal/bytealg.IndexByteString", "internal/bytealg.IndexString"], unfollowed := true, recurses := true, named := ["internal/bytealg.MaxLen"], plainKeys := false, apart := false, narrowed := true }
def SoficCountsUptoSaid : Prop := soficCountsUptoRow.holds Try.pinned (OpenSpec.upto soficCountsSpec)

/-- 'girouettelaw07.SoficFischer', WHERE WHAT IT READS IS OF BULK AT MOST 1048576: true; the input reads as it did. -/
def soficFischerUptoRow : OpenClaim := { program := "ytofpdjpenmhbnaa", sum := "0a29ed93271371ebdcfaf1a88f6de256f80ffdc3eed1d7610523bfc47d98118f", func := "girouette/girouettelaw07.SoficFischer", spec := "soficFischer", inPlace := ["internal/bytealg.IndexByteString", "internal/bytealg.IndexString"], unfollowed := true, recurses := true, named := ["internal/bytealg.MaxLen"], plainKeys := false, apart := false, narrowed := true }
def SoficFischerUptoSaid : Prop := soficFischerUptoRow.holds Try.pinned (OpenSpec.upto soficFischerSpec)

/-- 'girouettelaw07.SoficManning', WHERE WHAT IT READS IS OF BULK AT MOST 1048576: true; the input reads as it did. -/
def soficManningUptoRow : OpenClaim := { program := "ytofpdjpenmhbnaa", sum := "0a29ed93271371ebdcfaf1a88f6de256f80ffdc3eed1d7610523bfc47d98118f", func := "girouette/girouettelaw07.SoficManning", spec := "soficManning", inPlace := ["internal/bytealg.IndexByteString", "internal/bytealg.IndexString"], unfollowed := true, recurses := true, named := ["internal/bytealg.MaxLen"], plainKeys := false, apart := false, narrowed := true }
def SoficManningUptoSaid : Prop := soficManningUptoRow.holds Try.pinned (OpenSpec.upto soficManningSpec)

/-- 'girouettelaw07.SoficChecks', WHERE WHAT IT READS IS OF BULK AT MOST 1048576: true; the input reads as it did. -/
def soficChecksUptoRow : OpenClaim := { program := "ytofpdjpenmhbnaa", sum := "0a29ed93271371ebdcfaf1a88f6de256f80ffdc3eed1d7610523bfc47d98118f", func := "girouette/girouettelaw07.SoficChecks", spec := "soficChecks", inPlace := ["internal/bytealg.IndexByteString", "internal/bytealg.IndexString"], unfollowed := true, recurses := true, named := ["internal/bytealg.MaxLen"], plainKeys := false, apart := false, narrowed := true }
def SoficChecksUptoSaid : Prop := soficChecksUptoRow.holds Try.pinned (OpenSpec.upto soficChecksSpec)

end Rows
end Go.Proofs.Ytofpdjpenmhbnaa
