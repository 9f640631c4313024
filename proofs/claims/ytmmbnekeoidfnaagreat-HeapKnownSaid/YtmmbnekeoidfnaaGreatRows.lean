/-
  NARROWER THAN 'FOR EVERY INPUT', by the rows' own cells (each row's printed sentence says how): HeapPlays: loops · HeapChecks: loops · HeapAnswers: loops · HeapSteps: loops · HeapTrees: loops · HeapGrows: loops · HeapAlone: loops · HeapProves: loops.
  DERIVED. THE GIVEN ROWS OF THIS SEAT. 9 by the template 'for every input the law returns true; each argument reads behind the call as it read before'; 0 by the template 'total and deterministic' (their statements: YtmmbnekeoidfnaaGreatTotals.lean).
  GIVEN WITH THE SEED: the statements are not yours to turn. If you find one false, say at which input.
  Laid BY PROGRAM, IN A SANDBOX (cutbox-rows.mjs): the forced cells as the released guide's own fill.sh prints them over the translation a14851c5b6a074ad… (all of the seat's roots in one cut). By AI agents, Wed Nov 11 2026. No macro, syntax, notation, axiom, sorry.
-/
import Derived.Test.YtmmbnekeoidfnaaGreatChecked
import GoSem.Claim
import GoSem.ClaimJoined
import GoSem.ClaimMapViews
import Derived.JoinedTies
import Derived.KernelRfl
namespace Go.Proofs.YtmmbnekeoidfnaaGreat
/- THE CELL 'sum', in the pinned program and in every row, IS THE sha256 OF THE DUMP (.gsa) THAT YtmmbnekeoidfnaaGreatProg.lean LOADS. Nothing in Lean hashes anything: it is a label: what it is worth is what the hold of that sum in a sandbox is worth. -/
noncomputable def Tryz.pinned : Pinned := { name := "ytmmbnekeoidfnaagreat", sum := "a14851c5b6a074ad9663459cfd3575edef4034e008961d1c40577d87e958d62f", checked := Tryz.checked }
namespace Rows
def none {H : Type} : Left H := { results := [], args := [] }

/-- 'swinglelaw08.HeapPlays': WHATEVER THE INPUT: true; the input reads as it did. -/
def heapPlaysSpec : ChangeSpec := { name := "heapPlays", fn := fun _ => fun
  | [d1, d2, d3, d4] => { results := [.lit (.bool true)], args := [d1, d2, d3, d4] }
  | _ => none }
def heapPlaysRow : OpenClaim := { program := "ytmmbnekeoidfnaagreat", sum := "a14851c5b6a074ad9663459cfd3575edef4034e008961d1c40577d87e958d62f", func := "swingle/swinglelaw08.HeapPlays", spec := "heapPlays", unfollowed := true, recurses := true, loops := true, plainKeys := false, apart := false }
def HeapPlaysSaid : Prop := heapPlaysRow.holds Tryz.pinned (OpenSpec.ofChange heapPlaysSpec)

/-- ITS FALSE NEIGHBOUR: 'it returns false'. Refute it at one input. -/
def heapPlaysWrong : ChangeSpec := { name := "heapPlays", fn := fun _ => fun
  | [d1, d2, d3, d4] => { results := [.lit (.bool false)], args := [d1, d2, d3, d4] }
  | _ => none }
def HeapPlaysWrongFalsely : Prop := heapPlaysRow.holds Tryz.pinned (OpenSpec.ofChange heapPlaysWrong)

/-- 'swinglelaw08.HeapChecks': WHATEVER THE INPUT: true; the input reads as it did. -/
def heapChecksSpec : ChangeSpec := { name := "heapChecks", fn := fun _ => fun
  | [d1, d2, d3] => { results := [.lit (.bool true)], args := [d1, d2, d3] }
  | _ => none }
def heapChecksRow : OpenClaim := { program := "ytmmbnekeoidfnaagreat", sum := "a14851c5b6a074ad9663459cfd3575edef4034e008961d1c40577d87e958d62f", func := "swingle/swinglelaw08.HeapChecks", spec := "heapChecks", unfollowed := true, recurses := true, loops := true, plainKeys := false, apart := false }
def HeapChecksSaid : Prop := heapChecksRow.holds Tryz.pinned (OpenSpec.ofChange heapChecksSpec)

/-- ITS FALSE NEIGHBOUR: 'it returns false'. Refute it at one input. -/
def heapChecksWrong : ChangeSpec := { name := "heapChecks", fn := fun _ => fun
  | [d1, d2, d3] => { results := [.lit (.bool false)], args := [d1, d2, d3] }
  | _ => none }
def HeapChecksWrongFalsely : Prop := heapChecksRow.holds Tryz.pinned (OpenSpec.ofChange heapChecksWrong)

/-- 'swinglelaw08.HeapAnswers': WHATEVER THE INPUT: true; the input reads as it did. -/
def heapAnswersSpec : ChangeSpec := { name := "heapAnswers", fn := fun _ => fun
  | [d1, d2, d3] => { results := [.lit (.bool true)], args := [d1, d2, d3] }
  | _ => none }
def heapAnswersRow : OpenClaim := { program := "ytmmbnekeoidfnaagreat", sum := "a14851c5b6a074ad9663459cfd3575edef4034e008961d1c40577d87e958d62f", func := "swingle/swinglelaw08.HeapAnswers", spec := "heapAnswers", unfollowed := true, recurses := true, loops := true, plainKeys := false, apart := false }
def HeapAnswersSaid : Prop := heapAnswersRow.holds Tryz.pinned (OpenSpec.ofChange heapAnswersSpec)

/-- ITS FALSE NEIGHBOUR: 'it returns false'. Refute it at one input. -/
def heapAnswersWrong : ChangeSpec := { name := "heapAnswers", fn := fun _ => fun
  | [d1, d2, d3] => { results := [.lit (.bool false)], args := [d1, d2, d3] }
  | _ => none }
def HeapAnswersWrongFalsely : Prop := heapAnswersRow.holds Tryz.pinned (OpenSpec.ofChange heapAnswersWrong)

/-- 'swinglelaw08.HeapSteps': WHATEVER THE INPUT: true; the input reads as it did. -/
def heapStepsSpec : ChangeSpec := { name := "heapSteps", fn := fun _ => fun
  | [d1, d2] => { results := [.lit (.bool true)], args := [d1, d2] }
  | _ => none }
def heapStepsRow : OpenClaim := { program := "ytmmbnekeoidfnaagreat", sum := "a14851c5b6a074ad9663459cfd3575edef4034e008961d1c40577d87e958d62f", func := "swingle/swinglelaw08.HeapSteps", spec := "heapSteps", unfollowed := true, recurses := true, loops := true, plainKeys := false, apart := false }
def HeapStepsSaid : Prop := heapStepsRow.holds Tryz.pinned (OpenSpec.ofChange heapStepsSpec)

/-- ITS FALSE NEIGHBOUR: 'it returns false'. Refute it at one input. -/
def heapStepsWrong : ChangeSpec := { name := "heapSteps", fn := fun _ => fun
  | [d1, d2] => { results := [.lit (.bool false)], args := [d1, d2] }
  | _ => none }
def HeapStepsWrongFalsely : Prop := heapStepsRow.holds Tryz.pinned (OpenSpec.ofChange heapStepsWrong)

/-- 'swinglelaw08.HeapTrees': WHATEVER THE INPUT: true; the input reads as it did. -/
def heapTreesSpec : ChangeSpec := { name := "heapTrees", fn := fun _ => fun
  | [d1, d2, d3] => { results := [.lit (.bool true)], args := [d1, d2, d3] }
  | _ => none }
def heapTreesRow : OpenClaim := { program := "ytmmbnekeoidfnaagreat", sum := "a14851c5b6a074ad9663459cfd3575edef4034e008961d1c40577d87e958d62f", func := "swingle/swinglelaw08.HeapTrees", spec := "heapTrees", unfollowed := true, recurses := true, loops := true, plainKeys := false, apart := false }
def HeapTreesSaid : Prop := heapTreesRow.holds Tryz.pinned (OpenSpec.ofChange heapTreesSpec)

/-- ITS FALSE NEIGHBOUR: 'it returns false'. Refute it at one input. -/
def heapTreesWrong : ChangeSpec := { name := "heapTrees", fn := fun _ => fun
  | [d1, d2, d3] => { results := [.lit (.bool false)], args := [d1, d2, d3] }
  | _ => none }
def HeapTreesWrongFalsely : Prop := heapTreesRow.holds Tryz.pinned (OpenSpec.ofChange heapTreesWrong)

/-- 'swinglelaw08.HeapKnown': WHATEVER THE INPUT: true; the input reads as it did. -/
def heapKnownSpec : ChangeSpec := { name := "heapKnown", fn := fun _ => fun
  | [] => { results := [.lit (.bool true)], args := [] }
  | _ => none }
def heapKnownRow : OpenClaim := { program := "ytmmbnekeoidfnaagreat", sum := "a14851c5b6a074ad9663459cfd3575edef4034e008961d1c40577d87e958d62f", func := "swingle/swinglelaw08.HeapKnown", spec := "heapKnown", unfollowed := true, recurses := true, plainKeys := false, apart := false }
def HeapKnownSaid : Prop := heapKnownRow.holds Tryz.pinned (OpenSpec.ofChange heapKnownSpec)

/-- ITS FALSE NEIGHBOUR: 'it returns false'. Refute it at one input. -/
def heapKnownWrong : ChangeSpec := { name := "heapKnown", fn := fun _ => fun
  | [] => { results := [.lit (.bool false)], args := [] }
  | _ => none }
def HeapKnownWrongFalsely : Prop := heapKnownRow.holds Tryz.pinned (OpenSpec.ofChange heapKnownWrong)

/-- 'swinglelaw08.HeapGrows': WHATEVER THE INPUT: true; the input reads as it did. -/
def heapGrowsSpec : ChangeSpec := { name := "heapGrows", fn := fun _ => fun
  | [d1, d2, d3] => { results := [.lit (.bool true)], args := [d1, d2, d3] }
  | _ => none }
def heapGrowsRow : OpenClaim := { program := "ytmmbnekeoidfnaagreat", sum := "a14851c5b6a074ad9663459cfd3575edef4034e008961d1c40577d87e958d62f", func := "swingle/swinglelaw08.HeapGrows", spec := "heapGrows", unfollowed := true, recurses := true, loops := true, plainKeys := false, apart := false }
def HeapGrowsSaid : Prop := heapGrowsRow.holds Tryz.pinned (OpenSpec.ofChange heapGrowsSpec)

/-- ITS FALSE NEIGHBOUR: 'it returns false'. Refute it at one input. -/
def heapGrowsWrong : ChangeSpec := { name := "heapGrows", fn := fun _ => fun
  | [d1, d2, d3] => { results := [.lit (.bool false)], args := [d1, d2, d3] }
  | _ => none }
def HeapGrowsWrongFalsely : Prop := heapGrowsRow.holds Tryz.pinned (OpenSpec.ofChange heapGrowsWrong)

/-- 'swinglelaw08.HeapAlone': WHATEVER THE INPUT: true; the input reads as it did. -/
def heapAloneSpec : ChangeSpec := { name := "heapAlone", fn := fun _ => fun
  | [d1, d2, d3] => { results := [.lit (.bool true)], args := [d1, d2, d3] }
  | _ => none }
def heapAloneRow : OpenClaim := { program := "ytmmbnekeoidfnaagreat", sum := "a14851c5b6a074ad9663459cfd3575edef4034e008961d1c40577d87e958d62f", func := "swingle/swinglelaw08.HeapAlone", spec := "heapAlone", unfollowed := true, recurses := true, loops := true, plainKeys := false, apart := false }
def HeapAloneSaid : Prop := heapAloneRow.holds Tryz.pinned (OpenSpec.ofChange heapAloneSpec)

/-- ITS FALSE NEIGHBOUR: 'it returns false'. Refute it at one input. -/
def heapAloneWrong : ChangeSpec := { name := "heapAlone", fn := fun _ => fun
  | [d1, d2, d3] => { results := [.lit (.bool false)], args := [d1, d2, d3] }
  | _ => none }
def HeapAloneWrongFalsely : Prop := heapAloneRow.holds Tryz.pinned (OpenSpec.ofChange heapAloneWrong)

/-- 'swinglelaw08.HeapProves': WHATEVER THE INPUT: true; the input reads as it did. -/
def heapProvesSpec : ChangeSpec := { name := "heapProves", fn := fun _ => fun
  | [d1, d2, d3, d4] => { results := [.lit (.bool true)], args := [d1, d2, d3, d4] }
  | _ => none }
def heapProvesRow : OpenClaim := { program := "ytmmbnekeoidfnaagreat", sum := "a14851c5b6a074ad9663459cfd3575edef4034e008961d1c40577d87e958d62f", func := "swingle/swinglelaw08.HeapProves", spec := "heapProves", unfollowed := true, recurses := true, loops := true, plainKeys := false, apart := false }
def HeapProvesSaid : Prop := heapProvesRow.holds Tryz.pinned (OpenSpec.ofChange heapProvesSpec)

/-- ITS FALSE NEIGHBOUR: 'it returns false'. Refute it at one input. -/
def heapProvesWrong : ChangeSpec := { name := "heapProves", fn := fun _ => fun
  | [d1, d2, d3, d4] => { results := [.lit (.bool false)], args := [d1, d2, d3, d4] }
  | _ => none }
def HeapProvesWrongFalsely : Prop := heapProvesRow.holds Tryz.pinned (OpenSpec.ofChange heapProvesWrong)

/- THE SECOND FORM. 'bulk': how many values and letters a reading holds, each counted each time it is reached (what is shared counts as often as it is met; a slice's spare places count too). A statement '..UptoSaid' is the law's where the arguments, and the package variables that the reading takes, are together of bulk at most 1048576: NARROWER than '..Said'. Prove '..Said' where nothing that the law and all that it calls make is longer than what came in: it says more and counts as full. Else prove '..UptoSaid'. A law counts once. -/
mutual
def uptoBulk {H : Type} : DataW H → Nat
  | .lit (.string bytes) => bytes.length + 1
  | .lit _ => 1
  | .nil => 1
  | .ptr d => uptoBulk d + 1
  | .slice elems spare => uptoBulkAll elems + uptoBulkAll spare + 1
  | .agg parts => uptoBulkAll parts + 1
  | .iface _ d => uptoBulk d + 1
  | .map entries => uptoBulkEntries entries + 1
  | .held _ => 1
def uptoBulkAll {H : Type} : List (DataW H) → Nat
  | [] => 0
  | d :: r => uptoBulk d + uptoBulkAll r
def uptoBulkEntries {H : Type} : List (Lit × DataW H) → Nat
  | [] => 0
  | x :: r => uptoBulkEntry x + uptoBulkEntries r
def uptoBulkEntry {H : Type} : Lit × DataW H → Nat
  | (.string bytes, d) => bytes.length + uptoBulk d + 1
  | (_, d) => uptoBulk d + 1
 end
def uptoSmall : (H : Type) → List (DataW H) → Bool := fun _ ds => decide (uptoBulkAll ds ≤ 1048576)
def OpenSpec.upto (s : _root_.Go.ChangeSpec) : _root_.Go.OpenSpec := { _root_.Go.OpenSpec.ofChange s with cond := some uptoSmall }

/-- 'swinglelaw08.HeapPlays', WHERE WHAT IT READS IS OF BULK AT MOST 1048576: true; the input reads as it did. -/
def heapPlaysUptoRow : OpenClaim := { program := "ytmmbnekeoidfnaagreat", sum := "a14851c5b6a074ad9663459cfd3575edef4034e008961d1c40577d87e958d62f", func := "swingle/swinglelaw08.HeapPlays", spec := "heapPlays", unfollowed := true, recurses := true, loops := true, plainKeys := false, apart := false, narrowed := true }
def HeapPlaysUptoSaid : Prop := heapPlaysUptoRow.holds Tryz.pinned (OpenSpec.upto heapPlaysSpec)

/-- 'swinglelaw08.HeapChecks', WHERE WHAT IT READS IS OF BULK AT MOST 1048576: true; the input reads as it did. -/
def heapChecksUptoRow : OpenClaim := { program := "ytmmbnekeoidfnaagreat", sum := "a14851c5b6a074ad9663459cfd3575edef4034e008961d1c40577d87e958d62f", func := "swingle/swinglelaw08.HeapChecks", spec := "heapChecks", unfollowed := true, recurses := true, loops := true, plainKeys := false, apart := false, narrowed := true }
def HeapChecksUptoSaid : Prop := heapChecksUptoRow.holds Tryz.pinned (OpenSpec.upto heapChecksSpec)

/-- 'swinglelaw08.HeapAnswers', WHERE WHAT IT READS IS OF BULK AT MOST 1048576: true; the input reads as it did. -/
def heapAnswersUptoRow : OpenClaim := { program := "ytmmbnekeoidfnaagreat", sum := "a14851c5b6a074ad9663459cfd3575edef4034e008961d1c40577d87e958d62f", func := "swingle/swinglelaw08.HeapAnswers", spec := "heapAnswers", unfollowed := true, recurses := true, loops := true, plainKeys := false, apart := false, narrowed := true }
def HeapAnswersUptoSaid : Prop := heapAnswersUptoRow.holds Tryz.pinned (OpenSpec.upto heapAnswersSpec)

/-- 'swinglelaw08.HeapSteps', WHERE WHAT IT READS IS OF BULK AT MOST 1048576: true; the input reads as it did. -/
def heapStepsUptoRow : OpenClaim := { program := "ytmmbnekeoidfnaagreat", sum := "a14851c5b6a074ad9663459cfd3575edef4034e008961d1c40577d87e958d62f", func := "swingle/swinglelaw08.HeapSteps", spec := "heapSteps", unfollowed := true, recurses := true, loops := true, plainKeys := false, apart := false, narrowed := true }
def HeapStepsUptoSaid : Prop := heapStepsUptoRow.holds Tryz.pinned (OpenSpec.upto heapStepsSpec)

/-- 'swinglelaw08.HeapTrees', WHERE WHAT IT READS IS OF BULK AT MOST 1048576: true; the input reads as it did. -/
def heapTreesUptoRow : OpenClaim := { program := "ytmmbnekeoidfnaagreat", sum := "a14851c5b6a074ad9663459cfd3575edef4034e008961d1c40577d87e958d62f", func := "swingle/swinglelaw08.HeapTrees", spec := "heapTrees", unfollowed := true, recurses := true, loops := true, plainKeys := false, apart := false, narrowed := true }
def HeapTreesUptoSaid : Prop := heapTreesUptoRow.holds Tryz.pinned (OpenSpec.upto heapTreesSpec)

/-- 'swinglelaw08.HeapKnown', WHERE WHAT IT READS IS OF BULK AT MOST 1048576: true; the input reads as it did. -/
def heapKnownUptoRow : OpenClaim := { program := "ytmmbnekeoidfnaagreat", sum := "a14851c5b6a074ad9663459cfd3575edef4034e008961d1c40577d87e958d62f", func := "swingle/swinglelaw08.HeapKnown", spec := "heapKnown", unfollowed := true, recurses := true, plainKeys := false, apart := false, narrowed := true }
def HeapKnownUptoSaid : Prop := heapKnownUptoRow.holds Tryz.pinned (OpenSpec.upto heapKnownSpec)

/-- 'swinglelaw08.HeapGrows', WHERE WHAT IT READS IS OF BULK AT MOST 1048576: true; the input reads as it did. -/
def heapGrowsUptoRow : OpenClaim := { program := "ytmmbnekeoidfnaagreat", sum := "a14851c5b6a074ad9663459cfd3575edef4034e008961d1c40577d87e958d62f", func := "swingle/swinglelaw08.HeapGrows", spec := "heapGrows", unfollowed := true, recurses := true, loops := true, plainKeys := false, apart := false, narrowed := true }
def HeapGrowsUptoSaid : Prop := heapGrowsUptoRow.holds Tryz.pinned (OpenSpec.upto heapGrowsSpec)

/-- 'swinglelaw08.HeapAlone', WHERE WHAT IT READS IS OF BULK AT MOST 1048576: true; the input reads as it did. -/
def heapAloneUptoRow : OpenClaim := { program := "ytmmbnekeoidfnaagreat", sum := "a14851c5b6a074ad9663459cfd3575edef4034e008961d1c40577d87e958d62f", func := "swingle/swinglelaw08.HeapAlone", spec := "heapAlone", unfollowed := true, recurses := true, loops := true, plainKeys := false, apart := false, narrowed := true }
def HeapAloneUptoSaid : Prop := heapAloneUptoRow.holds Tryz.pinned (OpenSpec.upto heapAloneSpec)

/-- 'swinglelaw08.HeapProves', WHERE WHAT IT READS IS OF BULK AT MOST 1048576: true; the input reads as it did. -/
def heapProvesUptoRow : OpenClaim := { program := "ytmmbnekeoidfnaagreat", sum := "a14851c5b6a074ad9663459cfd3575edef4034e008961d1c40577d87e958d62f", func := "swingle/swinglelaw08.HeapProves", spec := "heapProves", unfollowed := true, recurses := true, loops := true, plainKeys := false, apart := false, narrowed := true }
def HeapProvesUptoSaid : Prop := heapProvesUptoRow.holds Tryz.pinned (OpenSpec.upto heapProvesSpec)

end Rows
end Go.Proofs.YtmmbnekeoidfnaaGreat
