/-
  NARROWER THAN 'FOR EVERY INPUT', by the rows' own cells (each row's printed sentence says how): FnExactSlimStmts: loops · FnExactStmtsText: loops · FnExactChartFires: loops · FnExactChartStep: loops.
  DERIVED. THE GIVEN ROWS OF THIS SEAT. 4 by the template 'for every input the law returns true; each argument reads behind the call as it read before'; 0 by the template 'total and deterministic' (their statements: YtnmfmeehmieifaaGreatTotals.lean).
  GIVEN WITH THE SEED: the statements are not yours to turn. If you find one false, say at which input.
  Laid BY PROGRAM, IN A SANDBOX (cutbox-rows.mjs): the forced cells as the released guide's own fill.sh prints them over the translation 6ea6d3950f055ffd… (all of the seat's roots in one cut). By AI agents, Wed Nov 11 2026. No macro, syntax, notation, axiom, sorry.
-/
import Derived.Test.YtnmfmeehmieifaaGreatChecked
import GoSem.Claim
import GoSem.ClaimJoined
import GoSem.ClaimMapViews
import Derived.JoinedTies
import Derived.KernelRfl
namespace Go.Proofs.YtnmfmeehmieifaaGreat
/- THE CELL 'sum', in the pinned program and in every row, IS THE sha256 OF THE DUMP (.gsa) THAT YtnmfmeehmieifaaGreatProg.lean LOADS. Nothing in Lean hashes anything: it is a label: what it is worth is what the hold of that sum in a sandbox is worth. -/
noncomputable def Tryz.pinned : Pinned := { name := "ytnmfmeehmieifaagreat", sum := "6ea6d3950f055ffde8ab7db510e64a947f9ef57bd9553cd2d9d217357eec752f", checked := Tryz.checked }
namespace Rows
def none {H : Type} : Left H := { results := [], args := [] }

/-- 'laws.FnExactSlimStmts': WHATEVER THE INPUT: true; the input reads as it did. -/
def fnExactSlimStmtsSpec : ChangeSpec := { name := "fnExactSlimStmts", fn := fun _ => fun
  | [d] => { results := [.lit (.bool true)], args := [d] }
  | _ => none }
def fnExactSlimStmtsRow : OpenClaim := { program := "ytnmfmeehmieifaagreat", sum := "6ea6d3950f055ffde8ab7db510e64a947f9ef57bd9553cd2d9d217357eec752f", func := "loop.example/stopgate/laws.FnExactSlimStmts", spec := "fnExactSlimStmts", unfollowed := true, recurses := true, loops := true, apart := false }
def FnExactSlimStmtsSaid : Prop := fnExactSlimStmtsRow.holds Tryz.pinned (OpenSpec.ofChange fnExactSlimStmtsSpec)

/-- ITS FALSE NEIGHBOUR: 'it returns false'. Refute it at one input. -/
def fnExactSlimStmtsWrong : ChangeSpec := { name := "fnExactSlimStmts", fn := fun _ => fun
  | [d] => { results := [.lit (.bool false)], args := [d] }
  | _ => none }
def FnExactSlimStmtsWrongFalsely : Prop := fnExactSlimStmtsRow.holds Tryz.pinned (OpenSpec.ofChange fnExactSlimStmtsWrong)

/-- 'laws.FnExactStmtsText': WHATEVER THE INPUT: true; the input reads as it did. -/
def fnExactStmtsTextSpec : ChangeSpec := { name := "fnExactStmtsText", fn := fun _ => fun
  | [d] => { results := [.lit (.bool true)], args := [d] }
  | _ => none }
def fnExactStmtsTextRow : OpenClaim := { program := "ytnmfmeehmieifaagreat", sum := "6ea6d3950f055ffde8ab7db510e64a947f9ef57bd9553cd2d9d217357eec752f", func := "loop.example/stopgate/laws.FnExactStmtsText", spec := "fnExactStmtsText", inPlace := ["internal/abi.NoEscape", "internal/bytealg.MakeNoZero"], unfollowed := true, recurses := true, loops := true, apart := false }
def FnExactStmtsTextSaid : Prop := fnExactStmtsTextRow.holds Tryz.pinned (OpenSpec.ofChange fnExactStmtsTextSpec)

/-- ITS FALSE NEIGHBOUR: 'it returns false'. Refute it at one input. -/
def fnExactStmtsTextWrong : ChangeSpec := { name := "fnExactStmtsText", fn := fun _ => fun
  | [d] => { results := [.lit (.bool false)], args := [d] }
  | _ => none }
def FnExactStmtsTextWrongFalsely : Prop := fnExactStmtsTextRow.holds Tryz.pinned (OpenSpec.ofChange fnExactStmtsTextWrong)

/-- 'laws.FnExactChartFires': WHATEVER THE INPUT: true; the input reads as it did. -/
def fnExactChartFiresSpec : ChangeSpec := { name := "fnExactChartFires", fn := fun _ => fun
  | [d1, d2, d3] => { results := [.lit (.bool true)], args := [d1, d2, d3] }
  | _ => none }
def fnExactChartFiresRow : OpenClaim := { program := "ytnmfmeehmieifaagreat", sum := "6ea6d3950f055ffde8ab7db510e64a947f9ef57bd9553cd2d9d217357eec752f", func := "loop.example/stopgate/laws.FnExactChartFires", spec := "fnExactChartFires", unfollowed := true, recurses := true, loops := true, apart := false }
def FnExactChartFiresSaid : Prop := fnExactChartFiresRow.holds Tryz.pinned (OpenSpec.ofChange fnExactChartFiresSpec)

/-- ITS FALSE NEIGHBOUR: 'it returns false'. Refute it at one input. -/
def fnExactChartFiresWrong : ChangeSpec := { name := "fnExactChartFires", fn := fun _ => fun
  | [d1, d2, d3] => { results := [.lit (.bool false)], args := [d1, d2, d3] }
  | _ => none }
def FnExactChartFiresWrongFalsely : Prop := fnExactChartFiresRow.holds Tryz.pinned (OpenSpec.ofChange fnExactChartFiresWrong)

/-- 'laws.FnExactChartStep': WHATEVER THE INPUT: true; the input reads as it did. -/
def fnExactChartStepSpec : ChangeSpec := { name := "fnExactChartStep", fn := fun _ => fun
  | [d1, d2, d3] => { results := [.lit (.bool true)], args := [d1, d2, d3] }
  | _ => none }
def fnExactChartStepRow : OpenClaim := { program := "ytnmfmeehmieifaagreat", sum := "6ea6d3950f055ffde8ab7db510e64a947f9ef57bd9553cd2d9d217357eec752f", func := "loop.example/stopgate/laws.FnExactChartStep", spec := "fnExactChartStep", unfollowed := true, recurses := true, loops := true, apart := false }
def FnExactChartStepSaid : Prop := fnExactChartStepRow.holds Tryz.pinned (OpenSpec.ofChange fnExactChartStepSpec)

/-- ITS FALSE NEIGHBOUR: 'it returns false'. Refute it at one input. -/
def fnExactChartStepWrong : ChangeSpec := { name := "fnExactChartStep", fn := fun _ => fun
  | [d1, d2, d3] => { results := [.lit (.bool false)], args := [d1, d2, d3] }
  | _ => none }
def FnExactChartStepWrongFalsely : Prop := fnExactChartStepRow.holds Tryz.pinned (OpenSpec.ofChange fnExactChartStepWrong)

/- THE SECOND FORM. 'bulk': how many values and letters a reading holds, each counted each time it is reached (what is shared counts as often as it is met; a slice's spare places count too). A statement '..UptoSaid' is the law's where the arguments, and the package variables that the reading takes, are together of bulk at most 1048576: NARROWER than '..Said'. Prove '..Said' where nothing that the law and all that it calls make is longer than what came in: it says more and counts as full. Else prove '..UptoSaid'. A law counts once. -/
mutual
def uptoBulk {H : Type} : DataW H → Nat
  | .lit (.string bytes) => bytes.length + 1
  | .lit _ => 1
  | .nil => 1
  | .ptr d => uptoBulk d + 1
  | .slice elems spare => uptoBulkAll elems + uptoBulkAll spare + 1
  | .agg parts => uptoBulkAll parts + 1
  | .iface _ d => uptoBulk d + 1
  | .map entries => uptoBulkEntries entries + 1
  | .held _ => 1
def uptoBulkAll {H : Type} : List (DataW H) → Nat
  | [] => 0
  | d :: r => uptoBulk d + uptoBulkAll r
def uptoBulkEntries {H : Type} : List (Lit × DataW H) → Nat
  | [] => 0
  | x :: r => uptoBulkEntry x + uptoBulkEntries r
def uptoBulkEntry {H : Type} : Lit × DataW H → Nat
  | (.string bytes, d) => bytes.length + uptoBulk d + 1
  | (_, d) => uptoBulk d + 1
 end
def uptoSmall : (H : Type) → List (DataW H) → Bool := fun _ ds => decide (uptoBulkAll ds ≤ 1048576)
def OpenSpec.upto (s : _root_.Go.ChangeSpec) : _root_.Go.OpenSpec := { _root_.Go.OpenSpec.ofChange s with cond := some uptoSmall }

/-- 'laws.FnExactSlimStmts', WHERE WHAT IT READS IS OF BULK AT MOST 1048576: true; the input reads as it did. -/
def fnExactSlimStmtsUptoRow : OpenClaim := { program := "ytnmfmeehmieifaagreat", sum := "6ea6d3950f055ffde8ab7db510e64a947f9ef57bd9553cd2d9d217357eec752f", func := "loop.example/stopgate/laws.FnExactSlimStmts", spec := "fnExactSlimStmts", unfollowed := true, recurses := true, loops := true, apart := false, narrowed := true }
def FnExactSlimStmtsUptoSaid : Prop := fnExactSlimStmtsUptoRow.holds Tryz.pinned (OpenSpec.upto fnExactSlimStmtsSpec)

/-- 'laws.FnExactStmtsText', WHERE WHAT IT READS IS OF BULK AT MOST 1048576: true; the input reads as it did. -/
def fnExactStmtsTextUptoRow : OpenClaim := { program := "ytnmfmeehmieifaagreat", sum := "6ea6d3950f055ffde8ab7db510e64a947f9ef57bd9553cd2d9d217357eec752f", func := "loop.example/stopgate/laws.FnExactStmtsText", spec := "fnExactStmtsText", inPlace := ["internal/abi.NoEscape", "internal/bytealg.MakeNoZero"], unfollowed := true, recurses := true, loops := true, apart := false, narrowed := true }
def FnExactStmtsTextUptoSaid : Prop := fnExactStmtsTextUptoRow.holds Tryz.pinned (OpenSpec.upto fnExactStmtsTextSpec)

/-- 'laws.FnExactChartFires', WHERE WHAT IT READS IS OF BULK AT MOST 1048576: true; the input reads as it did. -/
def fnExactChartFiresUptoRow : OpenClaim := { program := "ytnmfmeehmieifaagreat", sum := "6ea6d3950f055ffde8ab7db510e64a947f9ef57bd9553cd2d9d217357eec752f", func := "loop.example/stopgate/laws.FnExactChartFires", spec := "fnExactChartFires", unfollowed := true, recurses := true, loops := true, apart := false, narrowed := true }
def FnExactChartFiresUptoSaid : Prop := fnExactChartFiresUptoRow.holds Tryz.pinned (OpenSpec.upto fnExactChartFiresSpec)

/-- 'laws.FnExactChartStep', WHERE WHAT IT READS IS OF BULK AT MOST 1048576: true; the input reads as it did. -/
def fnExactChartStepUptoRow : OpenClaim := { program := "ytnmfmeehmieifaagreat", sum := "6ea6d3950f055ffde8ab7db510e64a947f9ef57bd9553cd2d9d217357eec752f", func := "loop.example/stopgate/laws.FnExactChartStep", spec := "fnExactChartStep", unfollowed := true, recurses := true, loops := true, apart := false, narrowed := true }
def FnExactChartStepUptoSaid : Prop := fnExactChartStepUptoRow.holds Tryz.pinned (OpenSpec.upto fnExactChartStepSpec)

end Rows
end Go.Proofs.YtnmfmeehmieifaaGreat
