/-
  No cell of these rows narrows 'for every input' (looked for: loops, veiled, ifaces, maps, wideKeys, modest, calm, conditions, laid).
  DERIVED. THE GIVEN ROWS OF THIS SEAT. 2 by the template 'for every input the law returns true; each argument reads behind the call as it read before'; 0 by the template 'total and deterministic' (their statements: YtmicbfojofcigaaGreatTotals.lean).
  GIVEN WITH THE SEED: the statements are not yours to turn. If you find one false, say at which input.
  Laid BY PROGRAM, IN A SANDBOX (cutbox-rows.mjs): the forced cells as the released guide's own fill.sh prints them over the translation 63bb520cd7ab3380… (all of the seat's roots in one cut). By AI agents, Wed Nov 11 2026. No macro, syntax, notation, axiom, sorry.
-/
import Derived.Test.YtmicbfojofcigaaGreatChecked
import GoSem.Claim
import GoSem.ClaimJoined
import GoSem.ClaimMapViews
import Derived.JoinedTies
import Derived.KernelRfl
namespace Go.Proofs.YtmicbfojofcigaaGreat
/- THE CELL 'sum', in the pinned program and in every row, IS THE sha256 OF THE DUMP (.gsa) THAT YtmicbfojofcigaaGreatProg.lean LOADS. Nothing in Lean hashes anything: it is a label: what it is worth is what the hold of that sum in a sandbox is worth. -/
noncomputable def Tryz.pinned : Pinned := { name := "ytmicbfojofcigaagreat", sum := "63bb520cd7ab3380ede781b6e84b92afaaf07115d3e5e7f2431060a3fc09be88", checked := Tryz.checked }
namespace Rows
def none {H : Type} : Left H := { results := [], args := [] }

/-- 'laws.FnSlim': WHATEVER THE INPUT: true; the input reads as it did. -/
def fnSlimSpec : ChangeSpec := { name := "fnSlim", fn := fun _ => fun
  | [d1, d2] => { results := [.lit (.bool true)], args := [d1, d2] }
  | _ => none }
def fnSlimRow : OpenClaim := { program := "ytmicbfojofcigaagreat", sum := "63bb520cd7ab3380ede781b6e84b92afaaf07115d3e5e7f2431060a3fc09be88", func := "loop.example/stopgate/laws.FnSlim", spec := "fnSlim", unfollowed := true, recurses := true, apart := false }
def FnSlimSaid : Prop := fnSlimRow.holds Tryz.pinned (OpenSpec.ofChange fnSlimSpec)

/-- ITS FALSE NEIGHBOUR: 'it returns false'. Refute it at one input. -/
def fnSlimWrong : ChangeSpec := { name := "fnSlim", fn := fun _ => fun
  | [d1, d2] => { results := [.lit (.bool false)], args := [d1, d2] }
  | _ => none }
def FnSlimWrongFalsely : Prop := fnSlimRow.holds Tryz.pinned (OpenSpec.ofChange fnSlimWrong)

/-- 'laws.FnCodeDepth': WHATEVER THE INPUT: true; the input reads as it did. -/
def fnCodeDepthSpec : ChangeSpec := { name := "fnCodeDepth", fn := fun _ => fun
  | [d] => { results := [.lit (.bool true)], args := [d] }
  | _ => none }
def fnCodeDepthRow : OpenClaim := { program := "ytmicbfojofcigaagreat", sum := "63bb520cd7ab3380ede781b6e84b92afaaf07115d3e5e7f2431060a3fc09be88", func := "loop.example/stopgate/laws.FnCodeDepth", spec := "fnCodeDepth", unfollowed := true, recurses := true, apart := false }
def FnCodeDepthSaid : Prop := fnCodeDepthRow.holds Tryz.pinned (OpenSpec.ofChange fnCodeDepthSpec)

/-- ITS FALSE NEIGHBOUR: 'it returns false'. Refute it at one input. -/
def fnCodeDepthWrong : ChangeSpec := { name := "fnCodeDepth", fn := fun _ => fun
  | [d] => { results := [.lit (.bool false)], args := [d] }
  | _ => none }
def FnCodeDepthWrongFalsely : Prop := fnCodeDepthRow.holds Tryz.pinned (OpenSpec.ofChange fnCodeDepthWrong)

/- THE SECOND FORM. 'bulk': how many values and letters a reading holds, each counted each time it is reached (what is shared counts as often as it is met; a slice's spare places count too). A statement '..UptoSaid' is the law's where the arguments, and the package variables that the reading takes, are together of bulk at most 1048576: NARROWER than '..Said'. Prove '..Said' where nothing that the law and all that it calls make is longer than what came in: it says more and counts as full. Else prove '..UptoSaid'. A law counts once. -/
mutual
def uptoBulk {H : Type} : DataW H → Nat
  | .lit (.string bytes) => bytes.length + 1
  | .lit _ => 1
  | .nil => 1
  | .ptr d => uptoBulk d + 1
  | .slice elems spare => uptoBulkAll elems + uptoBulkAll spare + 1
  | .agg parts => uptoBulkAll parts + 1
  | .iface _ d => uptoBulk d + 1
  | .map entries => uptoBulkEntries entries + 1
  | .held _ => 1
def uptoBulkAll {H : Type} : List (DataW H) → Nat
  | [] => 0
  | d :: r => uptoBulk d + uptoBulkAll r
def uptoBulkEntries {H : Type} : List (Lit × DataW H) → Nat
  | [] => 0
  | x :: r => uptoBulkEntry x + uptoBulkEntries r
def uptoBulkEntry {H : Type} : Lit × DataW H → Nat
  | (.string bytes, d) => bytes.length + uptoBulk d + 1
  | (_, d) => uptoBulk d + 1
 end
def uptoSmall : (H : Type) → List (DataW H) → Bool := fun _ ds => decide (uptoBulkAll ds ≤ 1048576)
def OpenSpec.upto (s : _root_.Go.ChangeSpec) : _root_.Go.OpenSpec := { _root_.Go.OpenSpec.ofChange s with cond := some uptoSmall }

/-- 'laws.FnSlim', WHERE WHAT IT READS IS OF BULK AT MOST 1048576: true; the input reads as it did. -/
def fnSlimUptoRow : OpenClaim := { program := "ytmicbfojofcigaagreat", sum := "63bb520cd7ab3380ede781b6e84b92afaaf07115d3e5e7f2431060a3fc09be88", func := "loop.example/stopgate/laws.FnSlim", spec := "fnSlim", unfollowed := true, recurses := true, apart := false, narrowed := true }
def FnSlimUptoSaid : Prop := fnSlimUptoRow.holds Tryz.pinned (OpenSpec.upto fnSlimSpec)

/-- 'laws.FnCodeDepth', WHERE WHAT IT READS IS OF BULK AT MOST 1048576: true; the input reads as it did. -/
def fnCodeDepthUptoRow : OpenClaim := { program := "ytmicbfojofcigaagreat", sum := "63bb520cd7ab3380ede781b6e84b92afaaf07115d3e5e7f2431060a3fc09be88", func := "loop.example/stopgate/laws.FnCodeDepth", spec := "fnCodeDepth", unfollowed := true, recurses := true, apart := false, narrowed := true }
def FnCodeDepthUptoSaid : Prop := fnCodeDepthUptoRow.holds Tryz.pinned (OpenSpec.upto fnCodeDepthSpec)

end Rows
end Go.Proofs.YtmicbfojofcigaaGreat
