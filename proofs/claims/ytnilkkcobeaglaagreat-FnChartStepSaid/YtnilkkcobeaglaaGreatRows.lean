/-
  NARROWER THAN 'FOR EVERY INPUT', by the rows' own cells (each row's printed sentence says how): FnExactSlimStmts: loops.
  DERIVED. THE GIVEN ROWS OF THIS SEAT. 5 by the template 'for every input the law returns true; each argument reads behind the call as it read before'; 0 by the template 'total and deterministic' (their statements: YtnilkkcobeaglaaGreatTotals.lean).
  GIVEN WITH THE SEED: the statements are not yours to turn. If you find one false, say at which input.
  Laid BY PROGRAM, IN A SANDBOX (cutbox-rows.mjs): the forced cells as the released guide's own fill.sh prints them over the translation 6fa58ef54dc011ed… (all of the seat's roots in one cut). By AI agents, Wed Nov 11 2026. No macro, syntax, notation, axiom, sorry.
-/
import Derived.Test.YtnilkkcobeaglaaGreatChecked
import GoSem.Claim
import GoSem.ClaimJoined
import GoSem.ClaimMapViews
import Derived.JoinedTies
import Derived.KernelRfl
namespace Go.Proofs.YtnilkkcobeaglaaGreat
/- THE CELL 'sum', in the pinned program and in every row, IS THE sha256 OF THE DUMP (.gsa) THAT YtnilkkcobeaglaaGreatProg.lean LOADS. Nothing in Lean hashes anything: it is a label: what it is worth is what the hold of that sum in a sandbox is worth. -/
noncomputable def Tryz.pinned : Pinned := { name := "ytnilkkcobeaglaagreat", sum := "6fa58ef54dc011ed88388ff2a0ef0626f637f204c5827fa17bf92d0ae1ec2405", checked := Tryz.checked }
namespace Rows
def none {H : Type} : Left H := { results := [], args := [] }

/-- 'laws.FnChartOrder': WHATEVER THE INPUT: true; the input reads as it did. -/
def fnChartOrderSpec : ChangeSpec := { name := "fnChartOrder", fn := fun _ => fun
  | [d] => { results := [.lit (.bool true)], args := [d] }
  | _ => none }
def fnChartOrderRow : OpenClaim := { program := "ytnilkkcobeaglaagreat", sum := "6fa58ef54dc011ed88388ff2a0ef0626f637f204c5827fa17bf92d0ae1ec2405", func := "loop.example/stopgate/laws.FnChartOrder", spec := "fnChartOrder", unfollowed := true, recurses := true, apart := false }
def FnChartOrderSaid : Prop := fnChartOrderRow.holds Tryz.pinned (OpenSpec.ofChange fnChartOrderSpec)

/-- ITS FALSE NEIGHBOUR: 'it returns false'. Refute it at one input. -/
def fnChartOrderWrong : ChangeSpec := { name := "fnChartOrder", fn := fun _ => fun
  | [d] => { results := [.lit (.bool false)], args := [d] }
  | _ => none }
def FnChartOrderWrongFalsely : Prop := fnChartOrderRow.holds Tryz.pinned (OpenSpec.ofChange fnChartOrderWrong)

/-- 'laws.FnChartKept': WHATEVER THE INPUT: true; the input reads as it did. -/
def fnChartKeptSpec : ChangeSpec := { name := "fnChartKept", fn := fun _ => fun
  | [d] => { results := [.lit (.bool true)], args := [d] }
  | _ => none }
def fnChartKeptRow : OpenClaim := { program := "ytnilkkcobeaglaagreat", sum := "6fa58ef54dc011ed88388ff2a0ef0626f637f204c5827fa17bf92d0ae1ec2405", func := "loop.example/stopgate/laws.FnChartKept", spec := "fnChartKept", unfollowed := true, recurses := true, apart := false }
def FnChartKeptSaid : Prop := fnChartKeptRow.holds Tryz.pinned (OpenSpec.ofChange fnChartKeptSpec)

/-- ITS FALSE NEIGHBOUR: 'it returns false'. Refute it at one input. -/
def fnChartKeptWrong : ChangeSpec := { name := "fnChartKept", fn := fun _ => fun
  | [d] => { results := [.lit (.bool false)], args := [d] }
  | _ => none }
def FnChartKeptWrongFalsely : Prop := fnChartKeptRow.holds Tryz.pinned (OpenSpec.ofChange fnChartKeptWrong)

/-- 'laws.FnChartStep': WHATEVER THE INPUT: true; the input reads as it did. -/
def fnChartStepSpec : ChangeSpec := { name := "fnChartStep", fn := fun _ => fun
  | [d] => { results := [.lit (.bool true)], args := [d] }
  | _ => none }
def fnChartStepRow : OpenClaim := { program := "ytnilkkcobeaglaagreat", sum := "6fa58ef54dc011ed88388ff2a0ef0626f637f204c5827fa17bf92d0ae1ec2405", func := "loop.example/stopgate/laws.FnChartStep", spec := "fnChartStep", unfollowed := true, recurses := true, apart := false }
def FnChartStepSaid : Prop := fnChartStepRow.holds Tryz.pinned (OpenSpec.ofChange fnChartStepSpec)

/-- ITS FALSE NEIGHBOUR: 'it returns false'. Refute it at one input. -/
def fnChartStepWrong : ChangeSpec := { name := "fnChartStep", fn := fun _ => fun
  | [d] => { results := [.lit (.bool false)], args := [d] }
  | _ => none }
def FnChartStepWrongFalsely : Prop := fnChartStepRow.holds Tryz.pinned (OpenSpec.ofChange fnChartStepWrong)

/-- 'laws.FnSlim': WHATEVER THE INPUT: true; the input reads as it did. -/
def fnSlimSpec : ChangeSpec := { name := "fnSlim", fn := fun _ => fun
  | [d1, d2] => { results := [.lit (.bool true)], args := [d1, d2] }
  | _ => none }
def fnSlimRow : OpenClaim := { program := "ytnilkkcobeaglaagreat", sum := "6fa58ef54dc011ed88388ff2a0ef0626f637f204c5827fa17bf92d0ae1ec2405", func := "loop.example/stopgate/laws.FnSlim", spec := "fnSlim", unfollowed := true, recurses := true, apart := false }
def FnSlimSaid : Prop := fnSlimRow.holds Tryz.pinned (OpenSpec.ofChange fnSlimSpec)

/-- ITS FALSE NEIGHBOUR: 'it returns false'. Refute it at one input. -/
def fnSlimWrong : ChangeSpec := { name := "fnSlim", fn := fun _ => fun
  | [d1, d2] => { results := [.lit (.bool false)], args := [d1, d2] }
  | _ => none }
def FnSlimWrongFalsely : Prop := fnSlimRow.holds Tryz.pinned (OpenSpec.ofChange fnSlimWrong)

/-- 'laws.FnExactSlimStmts': WHATEVER THE INPUT: true; the input reads as it did. -/
def fnExactSlimStmtsSpec : ChangeSpec := { name := "fnExactSlimStmts", fn := fun _ => fun
  | [d] => { results := [.lit (.bool true)], args := [d] }
  | _ => none }
def fnExactSlimStmtsRow : OpenClaim := { program := "ytnilkkcobeaglaagreat", sum := "6fa58ef54dc011ed88388ff2a0ef0626f637f204c5827fa17bf92d0ae1ec2405", func := "loop.example/stopgate/laws.FnExactSlimStmts", spec := "fnExactSlimStmts", unfollowed := true, recurses := true, loops := true, apart := false }
def FnExactSlimStmtsSaid : Prop := fnExactSlimStmtsRow.holds Tryz.pinned (OpenSpec.ofChange fnExactSlimStmtsSpec)

/-- ITS FALSE NEIGHBOUR: 'it returns false'. Refute it at one input. -/
def fnExactSlimStmtsWrong : ChangeSpec := { name := "fnExactSlimStmts", fn := fun _ => fun
  | [d] => { results := [.lit (.bool false)], args := [d] }
  | _ => none }
def FnExactSlimStmtsWrongFalsely : Prop := fnExactSlimStmtsRow.holds Tryz.pinned (OpenSpec.ofChange fnExactSlimStmtsWrong)

/- THE SECOND FORM. 'bulk': how many values and letters a reading holds, each counted each time it is reached (what is shared counts as often as it is met; a slice's spare places count too). A statement '..UptoSaid' is the law's where the arguments, and the package variables that the reading takes, are together of bulk at most 1048576: NARROWER than '..Said'. Prove '..Said' where nothing that the law and all that it calls make is longer than what came in: it says more and counts as full. Else prove '..UptoSaid'. A law counts once. -/
mutual
def uptoBulk {H : Type} : DataW H → Nat
  | .lit (.string bytes) => bytes.length + 1
  | .lit _ => 1
  | .nil => 1
  | .ptr d => uptoBulk d + 1
  | .slice elems spare => uptoBulkAll elems + uptoBulkAll spare + 1
  | .agg parts => uptoBulkAll parts + 1
  | .iface _ d => uptoBulk d + 1
  | .map entries => uptoBulkEntries entries + 1
  | .held _ => 1
def uptoBulkAll {H : Type} : List (DataW H) → Nat
  | [] => 0
  | d :: r => uptoBulk d + uptoBulkAll r
def uptoBulkEntries {H : Type} : List (Lit × DataW H) → Nat
  | [] => 0
  | x :: r => uptoBulkEntry x + uptoBulkEntries r
def uptoBulkEntry {H : Type} : Lit × DataW H → Nat
  | (.string bytes, d) => bytes.length + uptoBulk d + 1
  | (_, d) => uptoBulk d + 1
 end
def uptoSmall : (H : Type) → List (DataW H) → Bool := fun _ ds => decide (uptoBulkAll ds ≤ 1048576)
def OpenSpec.upto (s : _root_.Go.ChangeSpec) : _root_.Go.OpenSpec := { _root_.Go.OpenSpec.ofChange s with cond := some uptoSmall }

/-- 'laws.FnChartOrder', WHERE WHAT IT READS IS OF BULK AT MOST 1048576: true; the input reads as it did. -/
def fnChartOrderUptoRow : OpenClaim := { program := "ytnilkkcobeaglaagreat", sum := "6fa58ef54dc011ed88388ff2a0ef0626f637f204c5827fa17bf92d0ae1ec2405", func := "loop.example/stopgate/laws.FnChartOrder", spec := "fnChartOrder", unfollowed := true, recurses := true, apart := false, narrowed := true }
def FnChartOrderUptoSaid : Prop := fnChartOrderUptoRow.holds Tryz.pinned (OpenSpec.upto fnChartOrderSpec)

/-- 'laws.FnChartKept', WHERE WHAT IT READS IS OF BULK AT MOST 1048576: true; the input reads as it did. -/
def fnChartKeptUptoRow : OpenClaim := { program := "ytnilkkcobeaglaagreat", sum := "6fa58ef54dc011ed88388ff2a0ef0626f637f204c5827fa17bf92d0ae1ec2405", func := "loop.example/stopgate/laws.FnChartKept", spec := "fnChartKept", unfollowed := true, recurses := true, apart := false, narrowed := true }
def FnChartKeptUptoSaid : Prop := fnChartKeptUptoRow.holds Tryz.pinned (OpenSpec.upto fnChartKeptSpec)

/-- 'laws.FnChartStep', WHERE WHAT IT READS IS OF BULK AT MOST 1048576: true; the input reads as it did. -/
def fnChartStepUptoRow : OpenClaim := { program := "ytnilkkcobeaglaagreat", sum := "6fa58ef54dc011ed88388ff2a0ef0626f637f204c5827fa17bf92d0ae1ec2405", func := "loop.example/stopgate/laws.FnChartStep", spec := "fnChartStep", unfollowed := true, recurses := true, apart := false, narrowed := true }
def FnChartStepUptoSaid : Prop := fnChartStepUptoRow.holds Tryz.pinned (OpenSpec.upto fnChartStepSpec)

/-- 'laws.FnSlim', WHERE WHAT IT READS IS OF BULK AT MOST 1048576: true; the input reads as it did. -/
def fnSlimUptoRow : OpenClaim := { program := "ytnilkkcobeaglaagreat", sum := "6fa58ef54dc011ed88388ff2a0ef0626f637f204c5827fa17bf92d0ae1ec2405", func := "loop.example/stopgate/laws.FnSlim", spec := "fnSlim", unfollowed := true, recurses := true, apart := false, narrowed := true }
def FnSlimUptoSaid : Prop := fnSlimUptoRow.holds Tryz.pinned (OpenSpec.upto fnSlimSpec)

/-- 'laws.FnExactSlimStmts', WHERE WHAT IT READS IS OF BULK AT MOST 1048576: true; the input reads as it did. -/
def fnExactSlimStmtsUptoRow : OpenClaim := { program := "ytnilkkcobeaglaagreat", sum := "6fa58ef54dc011ed88388ff2a0ef0626f637f204c5827fa17bf92d0ae1ec2405", func := "loop.example/stopgate/laws.FnExactSlimStmts", spec := "fnExactSlimStmts", unfollowed := true, recurses := true, loops := true, apart := false, narrowed := true }
def FnExactSlimStmtsUptoSaid : Prop := fnExactSlimStmtsUptoRow.holds Tryz.pinned (OpenSpec.upto fnExactSlimStmtsSpec)

end Rows
end Go.Proofs.YtnilkkcobeaglaaGreat
