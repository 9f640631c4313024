/-
  No cell of these rows narrows 'for every input' (looked for: loops, veiled, ifaces, maps, wideKeys, modest, calm, conditions, laid).
  DERIVED. THE GIVEN ROWS OF THIS SEAT. 2 by the template 'for every input the law returns true; each argument reads behind the call as it read before'; 0 by the template 'total and deterministic' (their statements: YtmcjglkpjfnfcaaGreatTotals.lean).
  GIVEN WITH THE SEED: the statements are not yours to turn. If you find one false, say at which input.
  Laid BY PROGRAM, IN A SANDBOX (cutbox-rows.mjs): the forced cells as the released guide's own fill.sh prints them over the translation 2df02cdc4dccdee4… (all of the seat's roots in one cut). By AI agents, Wed Nov 11 2026. No macro, syntax, notation, axiom, sorry.
-/
import Derived.Test.YtmcjglkpjfnfcaaGreatChecked
import GoSem.Claim
import GoSem.ClaimJoined
import GoSem.ClaimMapViews
import Derived.JoinedTies
import Derived.KernelRfl
namespace Go.Proofs.YtmcjglkpjfnfcaaGreat
/- THE CELL 'sum', in the pinned program and in every row, IS THE sha256 OF THE DUMP (.gsa) THAT YtmcjglkpjfnfcaaGreatProg.lean LOADS. Nothing in Lean hashes anything: it is a label: what it is worth is what the hold of that sum in a sandbox is worth. -/
noncomputable def Tryz.pinned : Pinned := { name := "ytmcjglkpjfnfcaagreat", sum := "2df02cdc4dccdee4926b3c97052608eaae039aafa2847bf269f9b37b65dabef1", checked := Tryz.checked }
namespace Rows
def none {H : Type} : Left H := { results := [], args := [] }

/-- 'swinglelaw27.DeskParses': WHATEVER THE INPUT: true; the input reads as it did. -/
def deskParsesSpec : ChangeSpec := { name := "deskParses", fn := fun _ => fun
  | [d1, d2] => { results := [.lit (.bool true)], args := [d1, d2] }
  | _ => none }
def deskParsesRow : OpenClaim := { program := "ytmcjglkpjfnfcaagreat", sum := "2df02cdc4dccdee4926b3c97052608eaae039aafa2847bf269f9b37b65dabef1", func := "swingle/swinglelaw27.DeskParses", spec := "deskParses", inPlace := ["internal/bytealg.IndexByteString", "internal/bytealg.IndexString", "internal/abi.NoEscape", "internal/bytealg.MakeNoZero"], unfollowed := true, recurses := true, named := ["internal/bytealg.MaxLen"], plainKeys := false, apart := false }
def DeskParsesSaid : Prop := deskParsesRow.holds Tryz.pinned (OpenSpec.ofChange deskParsesSpec)

/-- ITS FALSE NEIGHBOUR: 'it returns false'. Refute it at one input. -/
def deskParsesWrong : ChangeSpec := { name := "deskParses", fn := fun _ => fun
  | [d1, d2] => { results := [.lit (.bool false)], args := [d1, d2] }
  | _ => none }
def DeskParsesWrongFalsely : Prop := deskParsesRow.holds Tryz.pinned (OpenSpec.ofChange deskParsesWrong)

/-- 'swinglelaw27.DeskBack': WHATEVER THE INPUT: true; the input reads as it did. -/
def deskBackSpec : ChangeSpec := { name := "deskBack", fn := fun _ => fun
  | [d1, d2] => { results := [.lit (.bool true)], args := [d1, d2] }
  | _ => none }
def deskBackRow : OpenClaim := { program := "ytmcjglkpjfnfcaagreat", sum := "2df02cdc4dccdee4926b3c97052608eaae039aafa2847bf269f9b37b65dabef1", func := "swingle/swinglelaw27.DeskBack", spec := "deskBack", inPlace := ["internal/bytealg.IndexByteString", "internal/bytealg.IndexString", "internal/abi.NoEscape", "internal/bytealg.MakeNoZero"], unfollowed := true, recurses := true, named := ["internal/bytealg.MaxLen"], plainKeys := false, apart := false }
def DeskBackSaid : Prop := deskBackRow.holds Tryz.pinned (OpenSpec.ofChange deskBackSpec)

/-- ITS FALSE NEIGHBOUR: 'it returns false'. Refute it at one input. -/
def deskBackWrong : ChangeSpec := { name := "deskBack", fn := fun _ => fun
  | [d1, d2] => { results := [.lit (.bool false)], args := [d1, d2] }
  | _ => none }
def DeskBackWrongFalsely : Prop := deskBackRow.holds Tryz.pinned (OpenSpec.ofChange deskBackWrong)

/- THE SECOND FORM. 'bulk': how many values and letters a reading holds, each counted each time it is reached (what is shared counts as often as it is met; a slice's spare places count too). A statement '..UptoSaid' is the law's where the arguments, and the package variables that the reading takes, are together of bulk at most 1048576: NARROWER than '..Said'. Prove '..Said' where nothing that the law and all that it calls make is longer than what came in: it says more and counts as full. Else prove '..UptoSaid'. A law counts once. -/
mutual
def uptoBulk {H : Type} : DataW H → Nat
  | .lit (.string bytes) => bytes.length + 1
  | .lit _ => 1
  | .nil => 1
  | .ptr d => uptoBulk d + 1
  | .slice elems spare => uptoBulkAll elems + uptoBulkAll spare + 1
  | .agg parts => uptoBulkAll parts + 1
  | .iface _ d => uptoBulk d + 1
  | .map entries => uptoBulkEntries entries + 1
  | .held _ => 1
def uptoBulkAll {H : Type} : List (DataW H) → Nat
  | [] => 0
  | d :: r => uptoBulk d + uptoBulkAll r
def uptoBulkEntries {H : Type} : List (Lit × DataW H) → Nat
  | [] => 0
  | x :: r => uptoBulkEntry x + uptoBulkEntries r
def uptoBulkEntry {H : Type} : Lit × DataW H → Nat
  | (.string bytes, d) => bytes.length + uptoBulk d + 1
  | (_, d) => uptoBulk d + 1
 end
def uptoSmall : (H : Type) → List (DataW H) → Bool := fun _ ds => decide (uptoBulkAll ds ≤ 1048576)
def OpenSpec.upto (s : _root_.Go.ChangeSpec) : _root_.Go.OpenSpec := { _root_.Go.OpenSpec.ofChange s with cond := some uptoSmall }

/-- 'swinglelaw27.DeskParses', WHERE WHAT IT READS IS OF BULK AT MOST 1048576: true; the input reads as it did. -/
def deskParsesUptoRow : OpenClaim := { program := "ytmcjglkpjfnfcaagreat", sum := "2df02cdc4dccdee4926b3c97052608eaae039aafa2847bf269f9b37b65dabef1", func := "swingle/swinglelaw27.DeskParses", spec := "deskParses", inPlace := ["internal/bytealg.IndexByteString", "internal/bytealg.IndexString", "internal/abi.NoEscape", "internal/bytealg.MakeNoZero"], unfollowed := true, recurses := true, named := ["internal/bytealg.MaxLen"], plainKeys := false, apart := false, narrowed := true }
def DeskParsesUptoSaid : Prop := deskParsesUptoRow.holds Tryz.pinned (OpenSpec.upto deskParsesSpec)

/-- 'swinglelaw27.DeskBack', WHERE WHAT IT READS IS OF BULK AT MOST 1048576: true; the input reads as it did. -/
def deskBackUptoRow : OpenClaim := { program := "ytmcjglkpjfnfcaagreat", sum := "2df02cdc4dccdee4926b3c97052608eaae039aafa2847bf269f9b37b65dabef1", func := "swingle/swinglelaw27.DeskBack", spec := "deskBack", inPlace := ["internal/bytealg.IndexByteString", "internal/bytealg.IndexString", "internal/abi.NoEscape", "internal/bytealg.MakeNoZero"], unfollowed := true, recurses := true, named := ["internal/bytealg.MaxLen"], plainKeys := false, apart := false, narrowed := true }
def DeskBackUptoSaid : Prop := deskBackUptoRow.holds Tryz.pinned (OpenSpec.upto deskBackSpec)

end Rows
end Go.Proofs.YtmcjglkpjfnfcaaGreat
