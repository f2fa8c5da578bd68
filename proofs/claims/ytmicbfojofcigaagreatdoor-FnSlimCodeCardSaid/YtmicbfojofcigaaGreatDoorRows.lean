/-
  NARROWER THAN 'FOR EVERY INPUT', by the rows' own cells (each row's printed sentence says how): FnSlimWrites: ifaces, laid · FnSlimMore: ifaces, laid · FnCode: ifaces, laid · FnSlimStmts: ifaces, laid · FnCodeNone: ifaces, laid · FnSlimCode: ifaces, laid.
  DERIVED. THE GIVEN ROWS OF THIS SEAT. 6 by the template 'for every input the law returns true; each argument reads behind the call as it read before'; 0 by the template 'total and deterministic' (their statements: YtmicbfojofcigaaGreatDoorTotals.lean).
  GIVEN WITH THE SEED: the statements are not yours to turn. If you find one false, say at which input.
  Laid BY PROGRAM, IN A SANDBOX (cutbox-rows.mjs): the forced cells as the released guide's own fill.sh prints them over the translation d31ee09c58aa3423… (all of the seat's roots in one cut). By AI agents, Wed Nov 11 2026. No macro, syntax, notation, axiom, sorry.
-/
import Derived.Test.YtmicbfojofcigaaGreatDoorChecked
import GoSem.Claim
import GoSem.ClaimJoined
import GoSem.ClaimMapViews
import Derived.JoinedTies
import Derived.KernelRfl
namespace Go.Proofs.YtmicbfojofcigaaGreatDoor
/- THE CELL 'sum', in the pinned program and in every row, IS THE sha256 OF THE DUMP (.gsa) THAT YtmicbfojofcigaaGreatDoorProg.lean LOADS. Nothing in Lean hashes anything: it is a label: what it is worth is what the hold of that sum in a sandbox is worth. -/
noncomputable def Tryz.pinned : Pinned := { name := "ytmicbfojofcigaagreatdoor", sum := "d31ee09c58aa342334dcff5858d5c4957b1124e4a0604c3a6609c781b6581507", checked := Tryz.checked }
namespace Rows
def none {H : Type} : Left H := { results := [], args := [] }

/- WHAT THE LISTED PACKAGE-LEVEL VARIABLES READ AS WHEN THE CALL BEGINS. Each datum BY PROGRAM (the guide's laid-datum.mjs) off the statement by which the dump's own 'gosem.cut.vars' lays the variable. In a bare row this is a premise. The card (YtmicbfojofcigaaGreatDoorCards.lean) ties it to the program's text. -/
def laid_loop_example_stopgate_impl_errLong {H : Type} : DataW H := .iface "*errors.errorString" (.ptr (.agg [.lit (.string [116, 97, 107, 101, 115, 32, 116, 111, 111, 32, 108, 111, 110, 103])]))

/-- 'laws.FnSlimWrites': WHATEVER THE INPUT: true; the input reads as it did. -/
def fnSlimWritesSpec : ChangeSpec := { name := "fnSlimWrites", vars := ["loop.example/stopgate/impl.errLong"], fn := fun _ => fun
  | [d1, d2, g1] => { results := [.lit (.bool true)], args := [d1, d2], vars := [g1] }
  | _ => none }
def fnSlimWritesRow : OpenClaim := { program := "ytmicbfojofcigaagreatdoor", sum := "d31ee09c58aa342334dcff5858d5c4957b1124e4a0604c3a6609c781b6581507", func := "loop.example/stopgate/laws.FnSlimWrites", spec := "fnSlimWrites", inPlace := ["internal/reflectlite.TypeOf"], unfollowed := true, recurses := true, named := ["loop.example/stopgate/impl.errLong"], ifaces := true, apart := false, laid := [("loop.example/stopgate/impl.errLong", laid_loop_example_stopgate_impl_errLong)] }
def FnSlimWritesSaid : Prop := fnSlimWritesRow.holds Tryz.pinned (OpenSpec.ofChange fnSlimWritesSpec)

/-- ITS FALSE NEIGHBOUR: 'it returns false'. Refute it at one input. -/
def fnSlimWritesWrong : ChangeSpec := { name := "fnSlimWrites", vars := ["loop.example/stopgate/impl.errLong"], fn := fun _ => fun
  | [d1, d2, g1] => { results := [.lit (.bool false)], args := [d1, d2], vars := [g1] }
  | _ => none }
def FnSlimWritesWrongFalsely : Prop := fnSlimWritesRow.holds Tryz.pinned (OpenSpec.ofChange fnSlimWritesWrong)

/-- 'laws.FnSlimMore': WHATEVER THE INPUT: true; the input reads as it did. -/
def fnSlimMoreSpec : ChangeSpec := { name := "fnSlimMore", vars := ["loop.example/stopgate/impl.errLong"], fn := fun _ => fun
  | [d1, d2, g1] => { results := [.lit (.bool true)], args := [d1, d2], vars := [g1] }
  | _ => none }
def fnSlimMoreRow : OpenClaim := { program := "ytmicbfojofcigaagreatdoor", sum := "d31ee09c58aa342334dcff5858d5c4957b1124e4a0604c3a6609c781b6581507", func := "loop.example/stopgate/laws.FnSlimMore", spec := "fnSlimMore", inPlace := ["internal/reflectlite.TypeOf"], unfollowed := true, recurses := true, named := ["loop.example/stopgate/impl.errLong"], ifaces := true, apart := false, laid := [("loop.example/stopgate/impl.errLong", laid_loop_example_stopgate_impl_errLong)] }
def FnSlimMoreSaid : Prop := fnSlimMoreRow.holds Tryz.pinned (OpenSpec.ofChange fnSlimMoreSpec)

/-- ITS FALSE NEIGHBOUR: 'it returns false'. Refute it at one input. -/
def fnSlimMoreWrong : ChangeSpec := { name := "fnSlimMore", vars := ["loop.example/stopgate/impl.errLong"], fn := fun _ => fun
  | [d1, d2, g1] => { results := [.lit (.bool false)], args := [d1, d2], vars := [g1] }
  | _ => none }
def FnSlimMoreWrongFalsely : Prop := fnSlimMoreRow.holds Tryz.pinned (OpenSpec.ofChange fnSlimMoreWrong)

/-- 'laws.FnCode': WHATEVER THE INPUT: true; the input reads as it did. -/
def fnCodeSpec : ChangeSpec := { name := "fnCode", vars := ["loop.example/stopgate/impl.errLong"], fn := fun _ => fun
  | [d, g1] => { results := [.lit (.bool true)], args := [d], vars := [g1] }
  | _ => none }
def fnCodeRow : OpenClaim := { program := "ytmicbfojofcigaagreatdoor", sum := "d31ee09c58aa342334dcff5858d5c4957b1124e4a0604c3a6609c781b6581507", func := "loop.example/stopgate/laws.FnCode", spec := "fnCode", inPlace := ["internal/reflectlite.TypeOf"], unfollowed := true, recurses := true, named := ["loop.example/stopgate/impl.errLong"], ifaces := true, apart := false, laid := [("loop.example/stopgate/impl.errLong", laid_loop_example_stopgate_impl_errLong)] }
def FnCodeSaid : Prop := fnCodeRow.holds Tryz.pinned (OpenSpec.ofChange fnCodeSpec)

/-- ITS FALSE NEIGHBOUR: 'it returns false'. Refute it at one input. -/
def fnCodeWrong : ChangeSpec := { name := "fnCode", vars := ["loop.example/stopgate/impl.errLong"], fn := fun _ => fun
  | [d, g1] => { results := [.lit (.bool false)], args := [d], vars := [g1] }
  | _ => none }
def FnCodeWrongFalsely : Prop := fnCodeRow.holds Tryz.pinned (OpenSpec.ofChange fnCodeWrong)

/-- 'laws.FnSlimStmts': WHATEVER THE INPUT: true; the input reads as it did. -/
def fnSlimStmtsSpec : ChangeSpec := { name := "fnSlimStmts", vars := ["loop.example/stopgate/impl.errLong"], fn := fun _ => fun
  | [d1, d2, g1] => { results := [.lit (.bool true)], args := [d1, d2], vars := [g1] }
  | _ => none }
def fnSlimStmtsRow : OpenClaim := { program := "ytmicbfojofcigaagreatdoor", sum := "d31ee09c58aa342334dcff5858d5c4957b1124e4a0604c3a6609c781b6581507", func := "loop.example/stopgate/laws.FnSlimStmts", spec := "fnSlimStmts", inPlace := ["internal/reflectlite.TypeOf"], unfollowed := true, recurses := true, named := ["loop.example/stopgate/impl.errLong"], ifaces := true, apart := false, laid := [("loop.example/stopgate/impl.errLong", laid_loop_example_stopgate_impl_errLong)] }
def FnSlimStmtsSaid : Prop := fnSlimStmtsRow.holds Tryz.pinned (OpenSpec.ofChange fnSlimStmtsSpec)

/-- ITS FALSE NEIGHBOUR: 'it returns false'. Refute it at one input. -/
def fnSlimStmtsWrong : ChangeSpec := { name := "fnSlimStmts", vars := ["loop.example/stopgate/impl.errLong"], fn := fun _ => fun
  | [d1, d2, g1] => { results := [.lit (.bool false)], args := [d1, d2], vars := [g1] }
  | _ => none }
def FnSlimStmtsWrongFalsely : Prop := fnSlimStmtsRow.holds Tryz.pinned (OpenSpec.ofChange fnSlimStmtsWrong)

/-- 'laws.FnCodeNone': WHATEVER THE INPUT: true; the input reads as it did. -/
def fnCodeNoneSpec : ChangeSpec := { name := "fnCodeNone", vars := ["loop.example/stopgate/impl.errLong"], fn := fun _ => fun
  | [d, g1] => { results := [.lit (.bool true)], args := [d], vars := [g1] }
  | _ => none }
def fnCodeNoneRow : OpenClaim := { program := "ytmicbfojofcigaagreatdoor", sum := "d31ee09c58aa342334dcff5858d5c4957b1124e4a0604c3a6609c781b6581507", func := "loop.example/stopgate/laws.FnCodeNone", spec := "fnCodeNone", inPlace := ["internal/reflectlite.TypeOf"], unfollowed := true, recurses := true, named := ["loop.example/stopgate/impl.errLong"], ifaces := true, apart := false, laid := [("loop.example/stopgate/impl.errLong", laid_loop_example_stopgate_impl_errLong)] }
def FnCodeNoneSaid : Prop := fnCodeNoneRow.holds Tryz.pinned (OpenSpec.ofChange fnCodeNoneSpec)

/-- ITS FALSE NEIGHBOUR: 'it returns false'. Refute it at one input. -/
def fnCodeNoneWrong : ChangeSpec := { name := "fnCodeNone", vars := ["loop.example/stopgate/impl.errLong"], fn := fun _ => fun
  | [d, g1] => { results := [.lit (.bool false)], args := [d], vars := [g1] }
  | _ => none }
def FnCodeNoneWrongFalsely : Prop := fnCodeNoneRow.holds Tryz.pinned (OpenSpec.ofChange fnCodeNoneWrong)

/-- 'laws.FnSlimCode': WHATEVER THE INPUT: true; the input reads as it did. -/
def fnSlimCodeSpec : ChangeSpec := { name := "fnSlimCode", vars := ["loop.example/stopgate/impl.errLong"], fn := fun _ => fun
  | [d1, d2, g1] => { results := [.lit (.bool true)], args := [d1, d2], vars := [g1] }
  | _ => none }
def fnSlimCodeRow : OpenClaim := { program := "ytmicbfojofcigaagreatdoor", sum := "d31ee09c58aa342334dcff5858d5c4957b1124e4a0604c3a6609c781b6581507", func := "loop.example/stopgate/laws.FnSlimCode", spec := "fnSlimCode", inPlace := ["internal/reflectlite.TypeOf"], unfollowed := true, recurses := true, named := ["loop.example/stopgate/impl.errLong"], ifaces := true, apart := false, laid := [("loop.example/stopgate/impl.errLong", laid_loop_example_stopgate_impl_errLong)] }
def FnSlimCodeSaid : Prop := fnSlimCodeRow.holds Tryz.pinned (OpenSpec.ofChange fnSlimCodeSpec)

/-- ITS FALSE NEIGHBOUR: 'it returns false'. Refute it at one input. -/
def fnSlimCodeWrong : ChangeSpec := { name := "fnSlimCode", vars := ["loop.example/stopgate/impl.errLong"], fn := fun _ => fun
  | [d1, d2, g1] => { results := [.lit (.bool false)], args := [d1, d2], vars := [g1] }
  | _ => none }
def FnSlimCodeWrongFalsely : Prop := fnSlimCodeRow.holds Tryz.pinned (OpenSpec.ofChange fnSlimCodeWrong)

/- THE SECOND FORM. 'bulk': how many values and letters a reading holds, each counted each time it is reached (what is shared counts as often as it is met; a slice's spare places count too). A statement '..UptoSaid' is the law's where the arguments, and the package variables that the reading takes, are together of bulk at most 1048576: NARROWER than '..Said'. Prove '..Said' where nothing that the law and all that it calls make is longer than what came in: it says more and counts as full. Else prove '..UptoSaid'. A law counts once. -/
mutual
def uptoBulk {H : Type} : DataW H → Nat
  | .lit (.string bytes) => bytes.length + 1
  | .lit _ => 1
  | .nil => 1
  | .ptr d => uptoBulk d + 1
  | .slice elems spare => uptoBulkAll elems + uptoBulkAll spare + 1
  | .agg parts => uptoBulkAll parts + 1
  | .iface _ d => uptoBulk d + 1
  | .map entries => uptoBulkEntries entries + 1
  | .held _ => 1
def uptoBulkAll {H : Type} : List (DataW H) → Nat
  | [] => 0
  | d :: r => uptoBulk d + uptoBulkAll r
def uptoBulkEntries {H : Type} : List (Lit × DataW H) → Nat
  | [] => 0
  | x :: r => uptoBulkEntry x + uptoBulkEntries r
def uptoBulkEntry {H : Type} : Lit × DataW H → Nat
  | (.string bytes, d) => bytes.length + uptoBulk d + 1
  | (_, d) => uptoBulk d + 1
 end
def uptoSmall : (H : Type) → List (DataW H) → Bool := fun _ ds => decide (uptoBulkAll ds ≤ 1048576)
def OpenSpec.upto (s : _root_.Go.ChangeSpec) : _root_.Go.OpenSpec := { _root_.Go.OpenSpec.ofChange s with cond := some uptoSmall }

/-- 'laws.FnSlimWrites', WHERE WHAT IT READS IS OF BULK AT MOST 1048576: true; the input reads as it did. -/
def fnSlimWritesUptoRow : OpenClaim := { program := "ytmicbfojofcigaagreatdoor", sum := "d31ee09c58aa342334dcff5858d5c4957b1124e4a0604c3a6609c781b6581507", func := "loop.example/stopgate/laws.FnSlimWrites", spec := "fnSlimWrites", inPlace := ["internal/reflectlite.TypeOf"], unfollowed := true, recurses := true, named := ["loop.example/stopgate/impl.errLong"], ifaces := true, apart := false, laid := [("loop.example/stopgate/impl.errLong", laid_loop_example_stopgate_impl_errLong)], narrowed := true }
def FnSlimWritesUptoSaid : Prop := fnSlimWritesUptoRow.holds Tryz.pinned (OpenSpec.upto fnSlimWritesSpec)

/-- 'laws.FnSlimMore', WHERE WHAT IT READS IS OF BULK AT MOST 1048576: true; the input reads as it did. -/
def fnSlimMoreUptoRow : OpenClaim := { program := "ytmicbfojofcigaagreatdoor", sum := "d31ee09c58aa342334dcff5858d5c4957b1124e4a0604c3a6609c781b6581507", func := "loop.example/stopgate/laws.FnSlimMore", spec := "fnSlimMore", inPlace := ["internal/reflectlite.TypeOf"], unfollowed := true, recurses := true, named := ["loop.example/stopgate/impl.errLong"], ifaces := true, apart := false, laid := [("loop.example/stopgate/impl.errLong", laid_loop_example_stopgate_impl_errLong)], narrowed := true }
def FnSlimMoreUptoSaid : Prop := fnSlimMoreUptoRow.holds Tryz.pinned (OpenSpec.upto fnSlimMoreSpec)

/-- 'laws.FnCode', WHERE WHAT IT READS IS OF BULK AT MOST 1048576: true; the input reads as it did. -/
def fnCodeUptoRow : OpenClaim := { program := "ytmicbfojofcigaagreatdoor", sum := "d31ee09c58aa342334dcff5858d5c4957b1124e4a0604c3a6609c781b6581507", func := "loop.example/stopgate/laws.FnCode", spec := "fnCode", inPlace := ["internal/reflectlite.TypeOf"], unfollowed := true, recurses := true, named := ["loop.example/stopgate/impl.errLong"], ifaces := true, apart := false, laid := [("loop.example/stopgate/impl.errLong", laid_loop_example_stopgate_impl_errLong)], narrowed := true }
def FnCodeUptoSaid : Prop := fnCodeUptoRow.holds Tryz.pinned (OpenSpec.upto fnCodeSpec)

/-- 'laws.FnSlimStmts', WHERE WHAT IT READS IS OF BULK AT MOST 1048576: true; the input reads as it did. -/
def fnSlimStmtsUptoRow : OpenClaim := { program := "ytmicbfojofcigaagreatdoor", sum := "d31ee09c58aa342334dcff5858d5c4957b1124e4a0604c3a6609c781b6581507", func := "loop.example/stopgate/laws.FnSlimStmts", spec := "fnSlimStmts", inPlace := ["internal/reflectlite.TypeOf"], unfollowed := true, recurses := true, named := ["loop.example/stopgate/impl.errLong"], ifaces := true, apart := false, laid := [("loop.example/stopgate/impl.errLong", laid_loop_example_stopgate_impl_errLong)], narrowed := true }
def FnSlimStmtsUptoSaid : Prop := fnSlimStmtsUptoRow.holds Tryz.pinned (OpenSpec.upto fnSlimStmtsSpec)

/-- 'laws.FnCodeNone', WHERE WHAT IT READS IS OF BULK AT MOST 1048576: true; the input reads as it did. -/
def fnCodeNoneUptoRow : OpenClaim := { program := "ytmicbfojofcigaagreatdoor", sum := "d31ee09c58aa342334dcff5858d5c4957b1124e4a0604c3a6609c781b6581507", func := "loop.example/stopgate/laws.FnCodeNone", spec := "fnCodeNone", inPlace := ["internal/reflectlite.TypeOf"], unfollowed := true, recurses := true, named := ["loop.example/stopgate/impl.errLong"], ifaces := true, apart := false, laid := [("loop.example/stopgate/impl.errLong", laid_loop_example_stopgate_impl_errLong)], narrowed := true }
def FnCodeNoneUptoSaid : Prop := fnCodeNoneUptoRow.holds Tryz.pinned (OpenSpec.upto fnCodeNoneSpec)

/-- 'laws.FnSlimCode', WHERE WHAT IT READS IS OF BULK AT MOST 1048576: true; the input reads as it did. -/
def fnSlimCodeUptoRow : OpenClaim := { program := "ytmicbfojofcigaagreatdoor", sum := "d31ee09c58aa342334dcff5858d5c4957b1124e4a0604c3a6609c781b6581507", func := "loop.example/stopgate/laws.FnSlimCode", spec := "fnSlimCode", inPlace := ["internal/reflectlite.TypeOf"], unfollowed := true, recurses := true, named := ["loop.example/stopgate/impl.errLong"], ifaces := true, apart := false, laid := [("loop.example/stopgate/impl.errLong", laid_loop_example_stopgate_impl_errLong)], narrowed := true }
def FnSlimCodeUptoSaid : Prop := fnSlimCodeUptoRow.holds Tryz.pinned (OpenSpec.upto fnSlimCodeSpec)

end Rows
end Go.Proofs.YtmicbfojofcigaaGreatDoor
