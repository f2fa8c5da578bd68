/- A part of a proof: lemmas and contracts of functions; the last text of the claim says what is proved. -/
import Derived.Test.YtmicbfojofcigaaGreatX9e0100cc62
set_option linter.unusedSectionVars false
set_option linter.unusedSimpArgs false
set_option linter.unusedVariables false
namespace Go.Proofs.YtmicbfojofcigaaGreat
open Go Sg
set_option maxRecDepth 100000
set_option linter.unusedSimpArgs false
set_option linter.unusedVariables false
set_option linter.unusedSectionVars false
set_option maxHeartbeats 4000000
variable [Tab]
def GI.takes (i : GI) : Int := if i.op == 3 || i.op == 5 || i.op == 6 then 1 else if i.op == 4 then 2 else 0
def GI.gives (i : GI) : Int := if i.op == 1 || i.op == 2 || i.op == 4 || i.op == 5 then 1 else 0
def GI.goes (i : GI) : Bool := i.op == 6 || i.op == 7 || i.op == 8
def GI.follows (i : GI) : Bool := i.op != 7 && i.op != 8
def GI.noA (i : GI) : Bool := i.a.kind == 0 && i.a.at' == 0
def GI.ok (i : GI) (k many : Int) : Bool :=
  if i.op == 1 then isNum i.n && i.noA
  else if i.op == 2 then i.n == 0 && i.a.ok
  else if i.op == 3 then i.n == 0 && (i.a.ok && i.a.kind != 1)
  else if i.op == 4 then isTwo i.n && i.noA
  else if i.op == 5 then i.n == 0 && i.noA
  else if i.op == 6 || i.op == 7 then decide (i.n > k) && decide (i.n ≤ many) && i.noA
  else if i.op == 8 then decide (i.n ≥ 0) && decide (i.n < k) && i.noA
  else false
theorem takes_ok (i : GI) : PureF Tryz.prog 67 [.agg i.cs] [.int .i64 i.takes] := by
  refine pureF_of Tryz.func67 rfl Tryz.ntmps67 (by simp) T_ ?_
  intro f0 B Q hQ
  refine g_ [1] ?_
  refine g_ [4] ?_
  refine g_ [4,5] ?_
  refine c_ (fun hc0 => ?_) fun hc0 => ?_
  ·
    refine c_ (fun hc1 => ?_) fun hc1 => ?_
    ·
      refine g_ [2] ?_
      refine e_ Tryz.results67 ?_
      first
      | exact True.intro
      | first
        | (simp only [GI.takes, *, ↓reduceIte, Bool.false_eq_true, Bool.or_self, Bool.or_true, Bool.true_or]; done)
        | (exfalso; simp_all; done)
    refine g_ [9] ?_
    refine c_ (fun hc2 => ?_) fun hc2 => ?_
    ·
      refine g_ [2] ?_
      refine e_ Tryz.results67 ?_
      first
      | exact True.intro
      | first
        | (simp only [GI.takes, *, ↓reduceIte, Bool.false_eq_true, Bool.or_self, Bool.or_true, Bool.true_or]; done)
        | (exfalso; simp_all; done)
    refine g_ [2] ?_
    refine e_ Tryz.results67 ?_
    first
    | exact True.intro
    | first
      | (simp only [GI.takes, *, ↓reduceIte, Bool.false_eq_true, Bool.or_self, Bool.or_true, Bool.true_or]; done)
      | (exfalso; simp_all; done)
  refine g_ [4,5] ?_
  refine c_ (fun hc3 => ?_) fun hc3 => ?_
  ·
    refine c_ (fun hc4 => ?_) fun hc4 => ?_
    ·
      refine g_ [2] ?_
      refine e_ Tryz.results67 ?_
      first
      | exact True.intro
      | first
        | (simp only [GI.takes, *, ↓reduceIte, Bool.false_eq_true, Bool.or_self, Bool.or_true, Bool.true_or]; done)
        | (exfalso; simp_all; done)
    refine g_ [9] ?_
    refine c_ (fun hc5 => ?_) fun hc5 => ?_
    ·
      refine g_ [2] ?_
      refine e_ Tryz.results67 ?_
      first
      | exact True.intro
      | first
        | (simp only [GI.takes, *, ↓reduceIte, Bool.false_eq_true, Bool.or_self, Bool.or_true, Bool.true_or]; done)
        | (exfalso; simp_all; done)
    refine g_ [2] ?_
    refine e_ Tryz.results67 ?_
    first
    | exact True.intro
    | first
      | (simp only [GI.takes, *, ↓reduceIte, Bool.false_eq_true, Bool.or_self, Bool.or_true, Bool.true_or]; done)
      | (exfalso; simp_all; done)
  refine g_ [4,5] ?_
  refine c_ (fun hc6 => ?_) fun hc6 => ?_
  ·
    refine g_ [2] ?_
    refine e_ Tryz.results67 ?_
    first
    | exact True.intro
    | first
      | (simp only [GI.takes, *, ↓reduceIte, Bool.false_eq_true, Bool.or_self, Bool.or_true, Bool.true_or]; done)
      | (exfalso; simp_all; done)
  refine g_ [9] ?_
  refine c_ (fun hc7 => ?_) fun hc7 => ?_
  ·
    refine g_ [2] ?_
    refine e_ Tryz.results67 ?_
    first
    | exact True.intro
    | first
      | (simp only [GI.takes, *, ↓reduceIte, Bool.false_eq_true, Bool.or_self, Bool.or_true, Bool.true_or]; done)
      | (exfalso; simp_all; done)
  refine g_ [2] ?_
  refine e_ Tryz.results67 ?_
  first
  | exact True.intro
  | first
    | (simp only [GI.takes, *, ↓reduceIte, Bool.false_eq_true, Bool.or_self, Bool.or_true, Bool.true_or]; done)
    | (exfalso; simp_all; done)
theorem gives_ok (i : GI) : PureF Tryz.prog 68 [.agg i.cs] [.int .i64 i.gives] := by
  refine pureF_of Tryz.func68 rfl Tryz.ntmps68 (by simp) T_ ?_
  intro f0 B Q hQ
  refine g_ [1] ?_
  refine g_ [4] ?_
  refine g_ [4,5] ?_
  refine c_ (fun hc0 => ?_) fun hc0 => ?_
  ·
    refine c_ (fun hc1 => ?_) fun hc1 => ?_
    ·
      refine g_ [2] ?_
      refine e_ Tryz.results68 ?_
      first
      | exact True.intro
      | first
        | (simp only [GI.gives, *, ↓reduceIte, Bool.false_eq_true, Bool.or_self, Bool.or_true, Bool.true_or]; done)
        | (exfalso; simp_all; done)
    refine g_ [2] ?_
    refine e_ Tryz.results68 ?_
    first
    | exact True.intro
    | first
      | (simp only [GI.gives, *, ↓reduceIte, Bool.false_eq_true, Bool.or_self, Bool.or_true, Bool.true_or]; done)
      | (exfalso; simp_all; done)
  refine g_ [4,5] ?_
  refine c_ (fun hc2 => ?_) fun hc2 => ?_
  ·
    refine c_ (fun hc3 => ?_) fun hc3 => ?_
    ·
      refine g_ [2] ?_
      refine e_ Tryz.results68 ?_
      first
      | exact True.intro
      | first
        | (simp only [GI.gives, *, ↓reduceIte, Bool.false_eq_true, Bool.or_self, Bool.or_true, Bool.true_or]; done)
        | (exfalso; simp_all; done)
    refine g_ [2] ?_
    refine e_ Tryz.results68 ?_
    first
    | exact True.intro
    | first
      | (simp only [GI.gives, *, ↓reduceIte, Bool.false_eq_true, Bool.or_self, Bool.or_true, Bool.true_or]; done)
      | (exfalso; simp_all; done)
  refine g_ [4,5] ?_
  refine c_ (fun hc4 => ?_) fun hc4 => ?_
  ·
    refine c_ (fun hc5 => ?_) fun hc5 => ?_
    ·
      refine g_ [2] ?_
      refine e_ Tryz.results68 ?_
      first
      | exact True.intro
      | first
        | (simp only [GI.gives, *, ↓reduceIte, Bool.false_eq_true, Bool.or_self, Bool.or_true, Bool.true_or]; done)
        | (exfalso; simp_all; done)
    refine g_ [2] ?_
    refine e_ Tryz.results68 ?_
    first
    | exact True.intro
    | first
      | (simp only [GI.gives, *, ↓reduceIte, Bool.false_eq_true, Bool.or_self, Bool.or_true, Bool.true_or]; done)
      | (exfalso; simp_all; done)
  refine g_ [5] ?_
  refine c_ (fun hc6 => ?_) fun hc6 => ?_
  ·
    refine g_ [2] ?_
    refine e_ Tryz.results68 ?_
    first
    | exact True.intro
    | first
      | (simp only [GI.gives, *, ↓reduceIte, Bool.false_eq_true, Bool.or_self, Bool.or_true, Bool.true_or]; done)
      | (exfalso; simp_all; done)
  refine g_ [2] ?_
  refine e_ Tryz.results68 ?_
  first
  | exact True.intro
  | first
    | (simp only [GI.gives, *, ↓reduceIte, Bool.false_eq_true, Bool.or_self, Bool.or_true, Bool.true_or]; done)
    | (exfalso; simp_all; done)
theorem goes_ok (i : GI) : PureF Tryz.prog 69 [.agg i.cs] [.bool i.goes] := by
  refine pureF_of Tryz.func69 rfl Tryz.ntmps69 (by simp) T_ ?_
  intro f0 B Q hQ
  refine g_ [1] ?_
  refine gD_ [2] ?_
  refine e_ Tryz.results69 ?_
  first
  | exact True.intro
  | rfl
theorem follows_ok (i : GI) : PureF Tryz.prog 70 [.agg i.cs] [.bool i.follows] := by
  refine pureF_of Tryz.func70 rfl Tryz.ntmps70 (by simp) T_ ?_
  intro f0 B Q hQ
  refine g_ [1] ?_
  refine gD_ [2] ?_
  refine e_ Tryz.results70 ?_
  first
  | exact True.intro
  | rfl
theorem insOk_ok (i : GI) (k many : Int) : PureF Tryz.prog 66 [.agg i.cs, .int .i64 k, .int .i64 many] [.bool (i.ok k many)] := by
  refine pureF_of Tryz.func66 rfl Tryz.ntmps66 (by simp) T_ ?_
  intro f0 B Q hQ
  refine g_ [1,2,3] ?_
  refine g_ [1,2,3,8] ?_
  refine g_ [1,2,3,8,9] ?_
  refine c_ (fun hc0 => ?_) fun hc0 => ?_
  ·
    refine n_ ?_
    refine wpM_regionK [6] rfl fun Q1 hQ1 => ?_
    refine SD_ ?_
    refine cpD_ (isNum_ok i.n) Tryz.call61 ?_
    refine hQ1 _ _ (S_ ?_);clear hQ1 Q1
    refine e_ Tryz.results66 ?_
    first
    | exact True.intro
    | first
      | (simp only [GI.ok, GI.noA, *, ↓reduceIte, Bool.false_eq_true, Bool.or_self, Bool.or_true, Bool.true_or, Bool.true_and, Bool.and_assoc]; done)
      | (exfalso; simp_all; done)
  refine g_ [1,2,3,8,20] ?_
  refine c_ (fun hc1 => ?_) fun hc1 => ?_
  ·
    refine n_ ?_
    refine wpM_regionK [6] rfl fun Q1 hQ1 => ?_
    refine SD_ ?_
    first | refine cg_ (fun hb => iaddrOk_ok i.a) Tryz.call96 ?_ | refine cpD_ (iaddrOk_ok i.a) Tryz.call96 ?_
    refine hQ1 _ _ (S_ ?_);clear hQ1 Q1
    refine e_ Tryz.results66 ?_
    first
    | exact True.intro
    | first
      | (simp only [GI.ok, GI.noA, *, ↓reduceIte, Bool.false_eq_true, Bool.or_self, Bool.or_true, Bool.true_or, Bool.true_and, Bool.and_assoc]; done)
      | (exfalso; simp_all; done)
  refine g_ [1,2,3,8,30] ?_
  refine c_ (fun hc2 => ?_) fun hc2 => ?_
  ·
    refine n_ ?_
    refine wpM_regionK [6] rfl fun Q1 hQ1 => ?_
    refine SD_ ?_
    first | refine cg_ (fun hb => puts_ok i.a) Tryz.call97 ?_ | refine cpD_ (puts_ok i.a) Tryz.call97 ?_
    refine hQ1 _ _ (S_ ?_);clear hQ1 Q1
    refine e_ Tryz.results66 ?_
    first
    | exact True.intro
    | first
      | (simp only [GI.ok, GI.noA, *, ↓reduceIte, Bool.false_eq_true, Bool.or_self, Bool.or_true, Bool.true_or, Bool.true_and, Bool.and_assoc]; done)
      | (exfalso; simp_all; done)
  refine g_ [1,2,3,8,40] ?_
  refine c_ (fun hc3 => ?_) fun hc3 => ?_
  ·
    refine n_ ?_
    refine wpM_regionK [6] rfl fun Q1 hQ1 => ?_
    refine SD_ ?_
    refine cpD_ (isTwo_ok i.n) Tryz.call58 ?_
    refine hQ1 _ _ (S_ ?_);clear hQ1 Q1
    refine e_ Tryz.results66 ?_
    first
    | exact True.intro
    | first
      | (simp only [GI.ok, GI.noA, *, ↓reduceIte, Bool.false_eq_true, Bool.or_self, Bool.or_true, Bool.true_or, Bool.true_and, Bool.and_assoc]; done)
      | (exfalso; simp_all; done)
  refine g_ [1,2,3,8,51] ?_
  refine c_ (fun hc4 => ?_) fun hc4 => ?_
  ·
    refine g_ [6] ?_
    refine e_ Tryz.results66 ?_
    first
    | exact True.intro
    | first
      | (simp only [GI.ok, GI.noA, *, ↓reduceIte, Bool.false_eq_true, Bool.or_self, Bool.or_true, Bool.true_or, Bool.true_and, Bool.and_assoc]; done)
      | (exfalso; simp_all; done)
  refine g_ [1,2,3,8,56] ?_
  refine c_ (fun hc5 => ?_) fun hc5 => ?_
  ·
    refine c_ (fun hc6 => ?_) fun hc6 => ?_
    ·
      refine gD_ [6] ?_
      refine e_ Tryz.results66 ?_
      first
      | exact True.intro
      | first
        | (simp only [GI.ok, GI.noA, *, ↓reduceIte, Bool.false_eq_true, Bool.or_self, Bool.or_true, Bool.true_or, Bool.true_and, Bool.and_assoc]; done)
        | (exfalso; simp_all; done)
    refine g_ [1,3,75] ?_
    refine c_ (fun hc7 => ?_) fun hc7 => ?_
    ·
      refine gD_ [6] ?_
      refine e_ Tryz.results66 ?_
      first
      | exact True.intro
      | first
        | (simp only [GI.ok, GI.noA, *, ↓reduceIte, Bool.false_eq_true, Bool.or_self, Bool.or_true, Bool.true_or, Bool.true_and, Bool.and_assoc]; done)
        | (exfalso; simp_all; done)
    refine g_ [6] ?_
    refine e_ Tryz.results66 ?_
    first
    | exact True.intro
    | first
      | (simp only [GI.ok, GI.noA, *, ↓reduceIte, Bool.false_eq_true, Bool.or_self, Bool.or_true, Bool.true_or, Bool.true_and, Bool.and_assoc]; done)
      | (exfalso; simp_all; done)
  refine g_ [1,2,3,8,56] ?_
  refine c_ (fun hc8 => ?_) fun hc8 => ?_
  ·
    refine gD_ [6] ?_
    refine e_ Tryz.results66 ?_
    first
    | exact True.intro
    | first
      | (simp only [GI.ok, GI.noA, *, ↓reduceIte, Bool.false_eq_true, Bool.or_self, Bool.or_true, Bool.true_or, Bool.true_and, Bool.and_assoc]; done)
      | (exfalso; simp_all; done)
  refine g_ [1,3,75] ?_
  refine c_ (fun hc9 => ?_) fun hc9 => ?_
  ·
    refine gD_ [6] ?_
    refine e_ Tryz.results66 ?_
    first
    | exact True.intro
    | first
      | (simp only [GI.ok, GI.noA, *, ↓reduceIte, Bool.false_eq_true, Bool.or_self, Bool.or_true, Bool.true_or, Bool.true_and, Bool.and_assoc]; done)
      | (exfalso; simp_all; done)
  refine g_ [6] ?_
  refine e_ Tryz.results66 ?_
  first
  | exact True.intro
  | first
    | (simp only [GI.ok, GI.noA, *, ↓reduceIte, Bool.false_eq_true, Bool.or_self, Bool.or_true, Bool.true_or, Bool.true_and, Bool.and_assoc]; done)
    | (exfalso; simp_all; done)
end Go.Proofs.YtmicbfojofcigaaGreat
namespace Go.Proofs.YtmicbfojofcigaaGreat
open Go Sg
set_option maxRecDepth 100000
set_option linter.unusedSimpArgs false
set_option linter.unusedVariables false
set_option linter.unusedSectionVars false
set_option maxHeartbeats 4000000
variable [Tab]
theorem u64wrap (n : Int) (h : 0 ≤ n) (h1 : n < 18446744073709551616) : IntKind.u64.wrap n = n := by
  show n % 18446744073709551616 = n
  omega
@[go_sem high] theorem and32 (t : TypeId) (x y : Operand) (n : Int) (h : 0 ≤ n) (h1 : n < 4294967296) : binOpA Tryz.prog .and t x y (.int .u64 n) (.int .u64 4294967295) = some (.int .u64 n) := by
  rw [bin_and]
  have : (BitVec.ofInt IntKind.u64.bits n &&& BitVec.ofInt IntKind.u64.bits 4294967295).toNat = n.toNat := by
    show (BitVec.ofInt 64 n &&& BitVec.ofInt 64 4294967295).toNat = n.toNat
    have e : BitVec.ofInt 64 4294967295 = BitVec.ofNat 64 (2 ^ 32 - 1) := by decide
    rw [e, BitVec.toNat_and, BitVec.toNat_ofNat, BitVec.toNat_ofInt]
    have e2 : (2 ^ 32 - 1) % 2 ^ 64 = 2 ^ 32 - 1 := by decide
    rw [e2, Nat.and_two_pow_sub_one_eq_mod]
    omega
  rw [this, u64wrap _ (by omega) (by omega)]
  congr 2; omega
@[go_sem high] theorem shr32 (t : TypeId) (x y : Operand) (n : Int) (h : 0 ≤ n) (h1 : n < 4294967296) : binOpA Tryz.prog .shr t x y (.int .u64 n) (.int .u64 32) = some (.int .u64 0) := by
  rw [bin_shr]
  simp only [shiftA]
  rw [if_neg (by omega)]
  have : n.fdiv (2 ^ (min (32 : Int).toNat IntKind.u64.bits)) = 0 := by
    show n.fdiv (2 ^ 32) = 0
    rw [Int.fdiv_eq_ediv_of_nonneg _ (by decide)]
    omega
  rw [this]
theorem mul64_ok (n : Int) (h : 0 ≤ n) (h1 : n < 4294967296) : PureF Tryz.prog 111 [.int .u64 1, .int .u64 n] [.int .u64 0, .int .u64 n] := by
  refine pureF_of Tryz.func111 rfl Tryz.ntmps111 (by simp) T_ ?_
  intro f0 B Q hQ
  refine g_ [0,1] ?_
  refine n_ ?_
  refine wpM_regionK [0,1,6] rfl fun Q1 hQ1 => ?_
  simp -implicitDefEqProofs (disch := omega) only [go_sem, and32]
  refine hQ1 _ _ (S_ ?_);clear hQ1 Q1
  refine n_ ?_
  refine wpM_regionK [0,1,6,7] rfl fun Q1 hQ1 => ?_
  simp -implicitDefEqProofs (disch := omega) only [go_sem, shr32]
  refine hQ1 _ _ (S_ ?_);clear hQ1 Q1
  refine n_ ?_
  refine wpM_regionK [0,1,6,7,8] rfl fun Q1 hQ1 => ?_
  simp -implicitDefEqProofs (disch := omega) only [go_sem, and32]
  refine hQ1 _ _ (S_ ?_);clear hQ1 Q1
  refine n_ ?_
  refine wpM_regionK [0,1,6,7,8,9] rfl fun Q1 hQ1 => ?_
  simp -implicitDefEqProofs (disch := omega) only [go_sem, shr32]
  refine hQ1 _ _ (S_ ?_);clear hQ1 Q1
  refine n_ ?_
  refine wpM_regionK [0,1,6,7,8,9,10] rfl fun Q1 hQ1 => ?_
  simp -implicitDefEqProofs (disch := omega) only [go_sem, u64wrap, Int.one_mul]
  refine hQ1 _ _ (S_ ?_);clear hQ1 Q1
  refine n_ ?_
  refine wpM_regionK [0,1,6,7,9,11] rfl fun Q1 hQ1 => ?_
  simp -implicitDefEqProofs (disch := omega) only [go_sem, u64wrap, Int.zero_mul, shr32]
  refine hQ1 _ _ (S_ ?_);clear hQ1 Q1
  refine n_ ?_
  refine wpM_regionK [0,1,6,7,9,11,12] rfl fun Q1 hQ1 => ?_
  simp -implicitDefEqProofs (disch := omega) only [go_sem, and32]
  refine hQ1 _ _ (S_ ?_);clear hQ1 Q1
  refine n_ ?_
  refine wpM_regionK [0,1,6,7,9,12,13] rfl fun Q1 hQ1 => ?_
  simp -implicitDefEqProofs (disch := omega) only [go_sem, shr32]
  refine hQ1 _ _ (S_ ?_);clear hQ1 Q1
  refine n_ ?_
  refine wpM_regionK [0,1,7,9,12,13] rfl fun Q1 hQ1 => ?_
  simp -implicitDefEqProofs (disch := omega) only [go_sem, u64wrap, Int.mul_zero]
  refine hQ1 _ _ (S_ ?_);clear hQ1 Q1
  refine n_ ?_
  refine wpM_regionK [0,1,4] rfl fun Q1 hQ1 => ?_
  simp -implicitDefEqProofs (disch := omega) only [go_sem, u64wrap, Int.mul_zero, shr32]
  refine hQ1 _ _ (S_ ?_);clear hQ1 Q1
  refine n_ ?_
  refine wpM_regionK [4,5] rfl fun Q1 hQ1 => ?_
  simp -implicitDefEqProofs (disch := omega) only [go_sem, u64wrap, Int.one_mul]
  refine hQ1 _ _ (S_ ?_);clear hQ1 Q1
  exact e_ Tryz.results111 True.intro
theorem bmul_ok (n : Int) (h : 0 ≤ n) (h1 : n < 4294967296) : PureF Tryz.prog 95 [.int .u64 1, .int .u64 n] [.int .u64 0, .int .u64 n] := by
  refine pureF_of Tryz.func95 rfl Tryz.ntmps95 (by simp) T_ ?_
  intro f0 B Q hQ
  refine g_ [0,1] ?_
  refine c1_ ?_
  refine n_ ?_
  refine wpM_regionK [8,9] rfl fun Q1 hQ1 => ?_
  refine S_ ?_
  refine cp_ (mul64_ok n h h1) Tryz.call111 ?_
  refine hQ1 _ _ (S_ ?_);clear hQ1 Q1
  refine g_ [4,5] ?_
  exact e_ Tryz.results95 True.intro
def repL (L : List Int) (i k : Nat) : List Int := L.take i ++ L.take k ++ L.drop (i + k)
theorem repL_splice (L : List Int) (i k : Nat) (h : k ≤ L.length) : splice (ints L) i (List.take k (ints L)) = ints (repL L i k) := by
  have : (List.take k (ints L)).length = k := by simp [ints]; omega
  rw [splice, this]
  simp only [repL, ints, List.map_append, List.map_take, List.map_drop]
theorem repL_len (L : List Int) (i k : Nat) (h1 : k ≤ i) (h2 : i + k ≤ L.length) : (repL L i k).length = L.length := by simp [repL]; omega
theorem repL_take (L : List Int) (i k : Nat) (v : Int) (h1 : k ≤ i) (h2 : i + k ≤ L.length) (h : L.take i = List.replicate i v) : (repL L i k).take (i + k) = List.replicate (i + k) v := by
  have hk : L.take k = List.replicate k v := by
    have : L.take k = (L.take i).take k := by rw [List.take_take, Nat.min_eq_left h1]
    rw [this, h, List.take_replicate, Nat.min_eq_left h1]
  rw [repL, h, hk]
  rw [List.take_append_of_le_length (by simp)]
  rw [List.take_of_length_le (by simp), List.replicate_append_replicate]
theorem repeat_ok (id : Nat) (v : Int) (n : Nat) (h0 : 0 < n) (h1 : n ≤ 1000000) : CallF Tryz.prog 64 [.sl 3 id 0 1, .int .i64 (n : Nat)] [(id, .cells 3 [.int .i64 v])] 1 (fun ns o => ∃ z, ns = [z] ∧ o = { rs := [.sl 3 z 0 n], nw := [(z, .cells 3 (ints (List.replicate n v)))] }) := by
  refine callF_of' Tryz.func64 rfl Tryz.ntmps64 (by simp) ?_
  intro f0 B ns Q hB hns hQ
  have hid : id < B := hB id (by simp [hasKey, lk])
  obtain ⟨z, rfl⟩ : ∃ z, ns = [z] := by
    match ns, hns with
    | [x], _ => exact ⟨x, rfl⟩
  have hmin : min 1 n = 1 := by omega
  refine g_ [0,1] ?_
  refine g_ [0,1,10] ?_
  refine c_ (fun hc0 => ?_) fun hc0 => ?_
  · exfalso; omega
  refine n_ ?_
  refine wpM_regionK [0,5,6] rfl fun Q1 hQ1 => ?_
  simp -implicitDefEqProofs (disch := omega) only [go_sem, u64wrap]
  refine call_p (bmul_ok (n : Int) (by omega) (by omega)) Tryz.call95 rfl rfl rfl (by first | rfl | (simp -implicitDefEqProofs (disch := omega) only [go_sem] <;> rfl)) ?_
  simp -implicitDefEqProofs (disch := omega) only [go_sem, u64wrap]
  refine hQ1 _ _ (S_ ?_);clear hQ1 Q1
  refine gD_ [0,6,26] ?_
  refine c_ (fun hc1 => ?_) fun hc1 => ?_
  · exfalso; simp at hc1; omega
  refine n_ ?_
  refine wpM_regionK [0,7] rfl fun Q1 hQ1 => ?_
  simp -implicitDefEqProofs (disch := omega) only [go_sem, u64wrap]
  refine hQ1 _ _ (S_ ?_);clear hQ1 Q1
  refine n_ ?_
  refine wpM_regionK [7,8] rfl fun Q1 hQ1 => ?_
  simp -implicitDefEqProofs (disch := omega) only [go_sem, hmin, List.length_replicate]
  refine hQ1 _ _ (S_ ?_);clear hQ1 Q1
  rw [splice_ints _ _ _ (by simp; omega)]
  refine n_ ?_
  refine wpM_loopS (fun q k s' => ∃ (i : Nat) (L : List Int), k + i = n ∧ 0 < i ∧ L.length = n ∧ L.take i = List.replicate i v ∧ s' = { q with env := setE 8 (.int .i64 (i : Nat)) q.env, l := setl B (.cells 3 (ints L)) q.l }) (n - 1) ?_ ?_
  ·
    refine .of' _ _ ⟨1, (List.replicate n 0).set 0 v, by omega, by omega, by simp, ?_, rfl⟩ ?_ ?_ ?_
    · obtain ⟨n, rfl⟩ : ∃ k, n = k + 1 := ⟨n - 1, by omega⟩
      simp [List.replicate_succ]
    all_goals exact L_
  rintro k s' ⟨i, L, hk, hi, hL, ht, rfl⟩
  try refine S_ ?_
  refine g_ [7,8,37] ?_
  refine c_ (fun hc2 => ?_) fun hc2 => ?_
  ·
    refine n_ ?_
    refine dr_ mixed [7,8] 0 1 [B] [⟨[8],[],[],[],false⟩,⟨[7],[],[],[],false⟩,⟨[8],[],[],[],false⟩,⟨[39,40],[],[],[],false⟩,⟨[7],[],[],[],false⟩,⟨[8],[],[],[],false⟩,⟨[42,43],[],[],[],false⟩,⟨[41,44],[0],[0],[],false⟩,⟨[38,45],[],[],[],false⟩,⟨[46],[],[],[],false⟩] [0,1,2,3,4,5,6,7,8,9] [[],[],[],[1,2],[],[],[4,5],[1,2,3,4,5,6],[0,1,2,3,4,5,6,7],[0,1,2,3,4,5,6,7,8]] 1 ?_
    intro O A K hO hA hK;simp only [atL_cons,atL_nil,Nat.reduceAdd,Nat.zero_add] at hO hA
    refine SO_ ?_
    refine hK _ (S_ ?_);clear hK K hO hA O A
    obtain ⟨m, hm⟩ : ∃ m, m = min i (n - i) := ⟨_, rfl⟩
    rw [← hm]
    have hlt : i < n := by omega
    rw [repL_splice L i m (by omega)]
    refine .of' _ _ ⟨n - (i + m), by omega, i + m, repL L i m, by omega, by omega, by rw [repL_len L i m (by omega) (by omega), hL], repL_take L i m v (by omega) (by omega) ht, rfl⟩ ?_ ?_ ?_
    all_goals exact L_
  refine g_ [4] ?_
  refine wpM_ret ?_
  try refine S_ ?_
  have hin : i = n := by omega
  have hL2 : L = List.replicate n v := by rw [← hin, ← ht, hin, ← hL, List.take_length]
  rw [hL2]
  refine hQ _ _ (retK [B] [] [(z, .cells 3 (ints (List.replicate n v)))] rfl rfl rfl (by rw [Tryz.results64] <;> simp (maxSteps := 1000000) -implicitDefEqProofs (disch := omega) only [go_sem] <;> rfl) ?_ ⟨z, rfl, rfl⟩ ?_ ?_ ?_ ?_ ?_ ?_)
  all_goals (first | (simp -implicitDefEqProofs (disch := omega) only [go_sem, List.nodup_cons, List.nodup_nil, true_or, or_true, List.mem_cons, List.not_mem_nil, if_true, List.length_append]; done) | (simp -implicitDefEqProofs (disch := omega) only [go_sem, List.nodup_cons, List.nodup_nil, true_or, or_true, List.mem_cons, List.not_mem_nil, List.length_append]; first | rfl | omega))
end Go.Proofs.YtmicbfojofcigaaGreat
namespace Go.Proofs.YtmicbfojofcigaaGreat
open Go Sg
set_option maxRecDepth 100000
set_option linter.unusedSimpArgs false
set_option linter.unusedVariables false
set_option linter.unusedSectionVars false
set_option maxHeartbeats 4000000
variable [Tab]
def tellL (L : List Int) (k : Nat) (n : Int) : List Int := if L.getD k 0 == -1 then L.set k n else L
def tellB (L : List Int) (k : Nat) (n : Int) : Bool := (tellL L k n).getD k 0 == n
theorem tellL_len (L : List Int) (k : Nat) (n : Int) : (tellL L k n).length = L.length := by
  unfold tellL; split <;> simp
def hfoot (h y : Nat) (L : List Int) : List (Nat × AObj) := [(h, .cells 32 [.sl 3 y 0 L.length]), (y, .cells 3 (ints L))]
@[go_sem] theorem hfoot_eq (h y : Nat) (L : List Int) : hfoot h y L = [(h, .cells 32 [.sl 3 y 0 L.length]), (y, .cells 3 (ints L))] := rfl
theorem tell_ok (h y : Nat) (hhy : h ≠ y) (L : List Int) (k : Nat) (hk : k < L.length) (n : Int) : CallF Tryz.prog 65 ([.int .i64 (k : Nat), .int .i64 n] ++ [.ptr h 0]) (hfoot h y L) 0 (fun _ o => o = { rs := [.bool (tellB L k n)], u := [(y, some (.cells 3 (ints (tellL L k n))))] }) := by
  refine callF_of' Tryz.func65 rfl Tryz.ntmps65 (by simp) ?_
  intro f0 B ns Q hB hns hQ
  have hh : h < B := hB h (by simp [hasKey, lk, hfoot])
  have hy : y < B := hB y (by simp [hasKey, lk, hfoot, hhy])
  obtain rfl : ns = [] := List.eq_nil_of_length_eq_zero hns
  refine g_ [0,1,2] ?_
  refine g_ [0,1,2,10] ?_
  refine c_ (fun hc0 => ?_) fun hc0 => ?_
  ·
    have hT : tellL L k n = L.set k n := by rw [tellL, if_pos hc0]
    have hk2 : k < (L.set k n).length := by simp; exact hk
    refine g_ [0,1,2] ?_
    refine g_ [5] ?_
    refine wpM_ret ?_
    try refine S_ ?_
    unfold tellB at hQ
    rw [hT] at hQ
    refine hQ _ _ (ret0 [(y, some (.cells 3 (ints _)))] rfl rfl rfl (by rw [Tryz.results65] <;> simp (maxSteps := 1000000) -implicitDefEqProofs (disch := omega) only [go_sem] <;> rfl) rfl ?_ ?_ ?_ ?_)
    all_goals simp -implicitDefEqProofs (disch := omega) only [go_sem, true_or, or_true]
  have hT : tellL L k n = L := by rw [tellL, if_neg (by rw [hc0]; simp)]
  refine g_ [5] ?_
  refine wpM_ret ?_
  try refine S_ ?_
  unfold tellB at hQ
  rw [hT] at hQ
  refine hQ _ _ (ret0 [(y, some (.cells 3 (ints _)))] rfl rfl rfl (by rw [Tryz.results65] <;> simp (maxSteps := 1000000) -implicitDefEqProofs (disch := omega) only [go_sem] <;> rfl) rfl ?_ ?_ ?_ ?_)
  all_goals simp -implicitDefEqProofs (disch := omega) only [go_sem, true_or, or_true]
def tD (i : GI) (L : List Int) (k : Nat) : Int := L.getD k 0 - i.takes + i.gives
def L1D (i : GI) (L : List Int) (t : Int) : List Int := if !decide (t > 12) && i.goes then tellL L i.n.toNat t else L
def bad1D (i : GI) (L : List Int) (t : Int) : Bool := decide (t > 12) || i.goes && !tellB L i.n.toNat t
def L2D (i : GI) (L : List Int) (k : Nat) (t : Int) : List Int := if !bad1D i L t && i.follows then tellL (L1D i L t) (k + 1) t else L1D i L t
def bad0D (i : GI) (n : Int) (L : List Int) (k : Nat) : Bool := !i.ok k n || L.getD k 0 == -1 || decide (L.getD k 0 < i.takes)
def bad2D (i : GI) (L : List Int) (k : Nat) (t : Int) : Bool := bad1D i L t || i.follows && !tellB (L1D i L t) (k + 1) t
def stepI (i : GI) (n : Int) (L : List Int) (k : Nat) : Option (List Int) := if bad0D i n L k then none else if bad2D i L k (tD i L k) then none else some (L2D i L k (tD i L k))
def stepD (p : List GI) (L : List Int) (k : Nat) : Option (List Int) := stepI (p.getD k default) p.length L k
def runD' (p : List GI) : Nat → Option (List Int)
  | 0 => some ((List.replicate (p.length + 1) (-1)).set 0 0)
  | k + 1 => match runD' p k with
    | some L => stepD p L k
    | none => none
def depthsF (p : List GI) : Option (List Int) := if (p.length : Int) > 400 then none else runD' p p.length
theorem runD_none {p : List GI} {k : Nat} (h : runD' p k = none) : ∀ n, runD' p (k + n) = none
  | 0 => h
  | n + 1 => by rw [← Nat.add_assoc, runD', runD_none h n]
def depV (p : List GI) : List Int × Bool := match depthsF p with
  | some L => (L, L.getD p.length 0 == 0)
  | none => ([], false)
theorem goes_in {i : GI} {k n : Nat} (hk : k < n) (h : i.ok k n = true) (hg : i.goes = true) : 0 ≤ i.n ∧ i.n.toNat < n + 1 := by
  unfold GI.goes at hg
  unfold GI.ok at h
  simp only [Bool.or_eq_true, beq_iff_eq] at hg
  rcases hg with (hg | hg) | hg <;> rw [hg] at h <;> simp at h <;> omega
theorem L1D_len (i : GI) (L : List Int) (t : Int) : (L1D i L t).length = L.length := by
  unfold L1D; split <;> simp [tellL_len]
theorem L2D_len (i : GI) (L : List Int) (k : Nat) (t : Int) : (L2D i L k t).length = L.length := by
  unfold L2D; split <;> simp [tellL_len, L1D_len]
theorem stepD_len {p : List GI} {L L' : List Int} {k : Nat} (h : stepD p L k = some L') : L'.length = L.length := by
  unfold stepD stepI at h
  split at h
  · cases h
  · split at h
    · cases h
    · injection h with h; subst h
      exact L2D_len _ _ _ _
def Bnd (L : List Int) : Prop := ∀ j, -1 ≤ L.getD j 0 ∧ L.getD j 0 ≤ 12
theorem Bnd.set {L : List Int} (h : Bnd L) (k : Nat) (v : Int) (h0 : -1 ≤ v) (h1 : v ≤ 12) : Bnd (L.set k v) := by
  intro j
  simp only [List.getD, List.getElem?_set]
  split
  · split
    · exact ⟨h0, h1⟩
    · simp
  · exact h j
theorem Bnd.tell {L : List Int} (h : Bnd L) (k : Nat) (v : Int) (h0 : -1 ≤ v) (h1 : v ≤ 12) : Bnd (tellL L k v) := by
  unfold tellL; split
  · exact h.set k v h0 h1
  · exact h
theorem Bnd.l2 {i : GI} {L : List Int} (h : Bnd L) {k : Nat} {t : Int} (h0 : -1 ≤ t) (h1 : t ≤ 12) : Bnd (L2D i L k t) := by
  have hl : Bnd (L1D i L t) := by
    unfold L1D; split
    · exact h.tell _ _ h0 h1
    · exact h
  unfold L2D; split
  · exact hl.tell _ _ h0 h1
  · exact hl
theorem Bnd.first (n : Nat) : Bnd ((List.replicate n (-1 : Int)).set 0 0) := by
  refine Bnd.set (fun j => ?_) 0 0 (by omega) (by omega)
  simp only [List.getD, List.getElem?_replicate]
  split <;> simp
theorem takes_in (i : GI) : 0 ≤ i.takes ∧ i.takes ≤ 2 := by unfold GI.takes; split <;> (try split) <;> omega
theorem gives_in (i : GI) : 0 ≤ i.gives ∧ i.gives ≤ 1 := by unfold GI.gives; split <;> omega
def repI (n : Nat) (v : Int) : List Int := List.replicate n v
theorem repI_len (n : Nat) (v : Int) : (repI n v).length = n := List.length_replicate
theorem repeat_ok' (id : Nat) (v : Int) (n : Nat) (h0 : 0 < n) (h1 : n ≤ 1000000) : CallF Tryz.prog 64 [.sl 3 id 0 1, .int .i64 (n : Nat)] [(id, .cells 3 [.int .i64 v])] 1 (fun ns o => ∃ z, ns = [z] ∧ o = { rs := [.sl 3 z 0 n], nw := [(z, .cells 3 (ints (repI n v)))] }) := repeat_ok id v n h0 h1
theorem depths_ok (p : List GI) (hp : p.length ≤ 1099511627776) : PureF Tryz.prog 36 [.rows 110 (insR p)] [.rows 3 (rowsI (depV p).1), .bool (depV p).2] := by
  refine pureF_of Tryz.func36 rfl Tryz.ntmps36 (by simp) T_ ?_
  intro f0 B Q hQ
  refine g_ [0] ?_
  refine g_ [0,11] ?_
  refine c_ (fun hc0 => ?_) fun hc0 => ?_
  ·
    refine g_ [2,3] ?_
    have hcs : depV p = ([], false) := by rw [depV, depthsF, if_pos hc0]
    refine wpM_le [(2, .rows 3 []), (3, .bool false)] [] T_ T_ T_ ?_
    refine e_ Tryz.results36 ?_
    first
    | exact True.intro
    | rw [hcs]
      exact ⟨rfl, rfl⟩
  refine n_ ?_
  refine wpM_regionK [0,4] rfl fun Q1 hQ1 => ?_
  refine S_ ?_
  refine call_fn (l := [(B, .cells 3 [.int .i64 (-1)])]) (first := []) (cap := []) (ps := [.sl 3 B 0 1, .int .i64 ((p.length + 1 : Nat) : Int)]) (repeat_ok' B (-1) (p.length + 1) (by omega) (by omega)) Tryz.call64 rfl rfl rfl G_ T_ ?_
  rintro out ⟨z', ⟨⟩, rfl⟩
  refine S_ ?_
  refine hQ1 _ _ (S_ ?_);clear hQ1 Q1
  refine n_ ?_
  have hD : depthsF p = runD' p p.length := by rw [depthsF, if_neg hc0]
  have hr0 : (repI (p.length + 1) (-1 : Int)).length = p.length + 1 := repI_len _ _
  have hr1 : runD' p 0 = some ((repI (p.length + 1) (-1)).set 0 0) := rfl
  have hr3 : Bnd ((repI (p.length + 1) (-1)).set 0 0) := Bnd.first _
  generalize hR : repI (p.length + 1) (-1 : Int) = R at *
  clear hR
  refine g_ [0,4] ?_
  refine g_ [0,4,5] ?_
  refine g_ [0,4,5,20,21,22] ?_
  refine n_ ?_
  refine wpM_loopS (fun q n s' => ∃ (i M : Nat) (L : List Int), i + n = p.length ∧ B + 3 ≤ M ∧ runD' p i = some L ∧ L.length = p.length + 1 ∧ Bnd L ∧ s' = { q with env := setE 22 (.int .i64 (i : Nat)) q.env, l := hfoot (B + 2) (B + 1) L, M := M }) (p.length) ?_ ?_
  ·
    have hr2 : (R.set 0 0).length = p.length + 1 := by rw [List.length_set, hr0]
    refine .of' _ _ ⟨0, _, R.set 0 0, by omega, Nat.le_refl _, hr1, hr2, hr3, rfl⟩ ?_ ?_ ?_
    all_goals (try simp only [hfoot_eq, hr2])
    all_goals exact L_
  rintro n s' ⟨i, M, L, hi, hM, hrun, hL, hbn, rfl⟩
  try refine S_ ?_
  refine g_ [0,4,5,20,21,22,23] ?_
  refine c_ (fun hc1 => ?_) fun hc1 => ?_
  ·
    have hi2 : i < p.length := by omega
    have hst : runD' p (i + 1) = stepI (p.getD i default) p.length L i := by rw [runD', hrun]; rfl
    refine g_ [0,4,5,6,7,20,21,22] ?_
    generalize hI : p.getD i default = I at *
    refine n_ ?_
    refine dr_ mixed [0,4,5,6,7,20,21,22,48] 0 3 [B + 2, B + 1, M] [⟨[7],[2],[],[],false⟩,⟨[6],[],[],[],false⟩,⟨[0],[],[],[],false⟩,⟨[29],[],[],[],false⟩,⟨[27,28,30],[],[],[],true⟩,⟨[31],[],[],[],false⟩,⟨[32],[],[],[],false⟩,⟨[4,33],[0],[],[],false⟩,⟨[6,33],[],[],[],false⟩,⟨[33,34,35],[],[],[],false⟩,⟨[33,36],[1],[],[],false⟩,⟨[33,37],[],[],[],false⟩,⟨[33,38],[],[],[],false⟩,⟨[39],[],[],[],false⟩,⟨[4,40],[0],[],[],false⟩,⟨[6,40],[],[],[],false⟩,⟨[40,41,42],[],[],[],false⟩,⟨[40,43],[1],[],[],false⟩,⟨[7,40],[2],[],[],false⟩,⟨[40,45],[],[],[],true⟩,⟨[40,44,46],[],[],[],false⟩,⟨[40,47],[],[],[],false⟩] [0,1,2,3,4,5,6,7,8,9,10,11,12,13,14,15,16,17,18,19,20,21] [[],[],[],[2],[0,1,2,3],[0,1,2,3,4],[0,1,2,3,4,5],[0,1,2,3,4,5,6],[0,1,2,3,4,5,6],[0,1,2,3,4,5,6,7,8],[0,1,2,3,4,5,6,7,8,9],[0,1,2,3,4,5,6,7,8,9,10],[0,1,2,3,4,5,6,7,8,9,10,11],[0,1,2,3,4,5,6,7,8,9,10,11,12],[0,1,2,3,4,5,6,7,8,9,10,11,12,13],[0,1,2,3,4,5,6,7,8,9,10,11,12,13],[0,1,2,3,4,5,6,7,8,9,10,11,12,13,14,15],[0,1,2,3,4,5,6,7,8,9,10,11,12,13,14,15,16],[0,1,2,3,4,5,6,7,8,9,10,11,12,13],[0,1,2,3,4,5,6,7,8,9,10,11,12,13,18],[0,1,2,3,4,5,6,7,8,9,10,11,12,13,14,15,16,17,18,19],[0,1,2,3,4,5,6,7,8,9,10,11,12,13,14,15,16,17,18,19,20]] 3 (htbl := by simp; omega) (hnm := by simp) ?_
    intro O A K hO hA hK;simp only [atL_cons,atL_nil,Nat.reduceAdd,Nat.zero_add] at hO hA
    refine SE_ ?_
    refine lpE_ (insOk_ok I (i : Nat) (p.length : Nat)) Tryz.call66 ?_
    first | refine lg_ (fun hb => takes_ok I) Tryz.call67 ?_ | refine lpE_ (takes_ok I) Tryz.call67 ?_
    refine hK _ (S_ ?_);clear hK K hO hA O A
    refine c_ (fun hc2 => ?_) fun hc2 => ?_
    ·
      refine g_ [2,3] ?_
      have hcs : depV p = ([], false) := by
        have hn : runD' p (i + 1) = none := by rw [hst, stepI, if_pos (show bad0D I p.length L i = true from hc2)]
        have := runD_none hn (p.length - (i + 1))
        rw [show i + 1 + (p.length - (i + 1)) = p.length by omega] at this
        rw [depV, hD, this]
      refine wpM_le [(2, .rows 3 []), (3, .bool false)] [] T_ T_ T_ ?_
      refine e_ Tryz.results36 ?_
      first
      | exact True.intro
      | rw [hcs]
        exact ⟨rfl, rfl⟩
    have hb0 : bad0D I p.length L i = false := hc2
    have hbi := hbn i
    have htk := takes_in I
    have hgv := gives_in I
    have hb1 := hb0
    simp only [bad0D, Bool.or_eq_false_iff, Bool.not_eq_false', beq_eq_false_iff_ne, decide_eq_false_iff_not] at hb1
    obtain ⟨⟨hiok, hne⟩, hge⟩ := hb1
    have hgo : I.goes = true → 0 ≤ I.n ∧ I.n.toNat < L.length := fun h => by
      have := goes_in (n := p.length) hi2 hiok h
      omega
    refine n_ ?_
    refine dr_ mixed [0,4,5,6,7,8,20,21,22] 0 3 [B + 2, B + 1, M] [⟨[4],[0],[],[],false⟩,⟨[6],[],[],[],false⟩,⟨[49,50],[],[],[],false⟩,⟨[51],[1],[],[],false⟩,⟨[7],[2],[],[],false⟩,⟨[53],[],[],[],true⟩,⟨[52,54],[],[],[],false⟩,⟨[7],[2],[],[],false⟩,⟨[56],[],[],[],true⟩,⟨[55,57],[],[],[],false⟩,⟨[58],[],[],[],false⟩] [0,1,2,3,4,7,5,6,8,9,10] [[],[],[0,1],[0,1,2],[],[4],[0,1,2,3,4,5],[],[4,5,7],[0,1,2,3,4,5,6,7,8],[0,1,2,3,4,5,6,7,8,9]] 3 (htbl := by simp; omega) (hnm := by simp) ?_
    intro O A K hO hA hK;simp only [atL_cons,atL_nil,Nat.reduceAdd,Nat.zero_add] at hO hA
    refine SO_ ?_
    refine lp_ (takes_ok I) Tryz.call67 ?_
    refine lp_ (gives_ok I) Tryz.call68 ?_
    refine hK _ (S_ ?_);clear hK K hO hA O A
    have ht : L.getD i 0 - I.takes + I.gives = tD I L i := rfl
    rw [ht]
    refine n_ ?_
    refine wpM_regionK [0,4,5,20,21,22,84] rfl fun Q1 hQ1 => ?_
    refine SD_ ?_
    first | refine cg_ (fun hb => goes_ok I) Tryz.call69 ?_ | refine cpD_ (goes_ok I) Tryz.call69 ?_
    refine callG_u (B + 1) 3 (ints L) (ints (tellL L I.n.toNat (tD I L i))) (ints (L1D I L (tD I L i))) (cap := [.ptr (B + 2) 0]) (args := [.int .i64 ((I.n.toNat : Nat) : Int), .int .i64 (tD I L i)]) (lf := hfoot (B + 2) (B + 1) L) (fun hb => tell_ok (B + 2) (B + 1) (by omega) L I.n.toNat (hgo (Bool.and_eq_true_iff.1 hb).2).2 (tD I L i)) Tryz.call65 (fun hb => by rw [L1D, if_pos hb]) (fun hb => by rw [L1D, if_neg (by rw [hb]; simp)]) T_ (fun hb => by simp -implicitDefEqProofs (disch := omega) only [go_sem]) rfl rfl (fun hb => by simp -implicitDefEqProofs (disch := omega) only [go_sem, hb, gd_of hb]) (fun hb => ?_) ?_
    · have hn0 := (hgo (Bool.and_eq_true_iff.1 hb).2).1
      have hn1 : ((I.n.toNat : Nat) : Int) = I.n := by omega
      simp -implicitDefEqProofs (disch := omega) only [go_sem, hb, gd_of hb, hn1]
    refine SD_ ?_
    first | refine cg_ (fun hb => follows_ok I) Tryz.call70 ?_ | refine cpD_ (follows_ok I) Tryz.call70 ?_
    have hl1 := L1D_len I L (tD I L i)
    refine callG_u (B + 1) 3 (ints (L1D I L (tD I L i))) (ints (tellL (L1D I L (tD I L i)) (i + 1) (tD I L i))) (ints (L2D I L i (tD I L i))) (cap := [.ptr (B + 2) 0]) (args := [.int .i64 ((i + 1 : Nat) : Int), .int .i64 (tD I L i)]) (lf := hfoot (B + 2) (B + 1) (L1D I L (tD I L i))) (fun hb => tell_ok (B + 2) (B + 1) (by omega) (L1D I L (tD I L i)) (i + 1) (by omega) (tD I L i)) Tryz.call65 (fun hb => by rw [L2D, if_pos (show (!bad1D I L (tD I L i) && I.follows) = true from hb)]) (fun hb => by rw [L2D, if_neg (by rw [show (!bad1D I L (tD I L i) && I.follows) = false from hb]; simp)]) T_ (fun hb => by simp -implicitDefEqProofs (disch := omega) only [go_sem, hl1]) rfl rfl (fun hb => by simp -implicitDefEqProofs (disch := omega) only [go_sem, hb, gd_of hb]) (fun hb => by simp -implicitDefEqProofs (disch := omega) only [go_sem, hb, gd_of hb] <;> rfl) ?_
    refine SD_ ?_
    refine hQ1 _ _ (S_ ?_);clear hQ1 Q1
    refine c_ (fun hc3 => ?_) fun hc3 => ?_
    ·
      refine g_ [2,3] ?_
      have hcs : depV p = ([], false) := by
        have hn : runD' p (i + 1) = none := by rw [hst, stepI, if_neg (by rw [hb0]; simp), if_pos (show bad2D I L i (tD I L i) = true from hc3)]
        have := runD_none hn (p.length - (i + 1))
        rw [show i + 1 + (p.length - (i + 1)) = p.length by omega] at this
        rw [depV, hD, this]
      refine wpM_le [(2, .rows 3 []), (3, .bool false)] [] T_ T_ T_ ?_
      refine e_ Tryz.results36 ?_
      first
      | exact True.intro
      | rw [hcs]
        exact ⟨rfl, rfl⟩
    refine g_ [0,4,5,20,21,22] ?_
    have hb2 : bad2D I L i (tD I L i) = false := hc3
    have hrun2 : runD' p (i + 1) = some (L2D I L i (tD I L i)) := by rw [hst, stepI, if_neg (by rw [hb0]; simp), if_neg (by rw [hb2]; simp)]
    have hl2 := L2D_len I L i (tD I L i)
    have ht12 : tD I L i ≤ 12 := by
      simp only [bad2D, bad1D, Bool.or_eq_false_iff, decide_eq_false_iff_not] at hb2
      omega
    have ht0 : -1 ≤ tD I L i := by unfold tD; omega
    refine .of' _ _ ⟨n - 1, by omega, i + 1, _, L2D I L i (tD I L i), by omega, M_, hrun2, by omega, hbn.l2 ht0 ht12, rfl⟩ ?_ ?_ ?_
    all_goals (try simp only [hfoot_eq, hl2])
    all_goals exact L_
  refine n_ ?_
  obtain rfl : i = p.length := by omega
  refine dr_ mixed [2,3] 0 2 [B + 2, B + 1] [⟨[4],[0],[],[],false⟩,⟨[4],[0],[],[],false⟩,⟨[0],[],[],[],false⟩,⟨[88],[],[],[],false⟩,⟨[87,89],[],[],[],false⟩,⟨[90],[1],[],[],false⟩,⟨[91],[],[],[],false⟩,⟨[86],[],[],[],false⟩,⟨[92],[],[],[],false⟩] [0,1,2,3,4,5,6,7,8] [[],[],[],[2],[1,2,3],[1,2,3,4],[1,2,3,4,5],[0],[0,1,2,3,4,5,6,7]] 2 ?_
  intro O A K hO hA hK;simp only [atL_cons,atL_nil,Nat.reduceAdd,Nat.zero_add] at hO hA
  refine SO_ ?_
  refine hK _ (S_ ?_);clear hK K hO hA O A
  have hcs : depV p = (L, L.getD p.length 0 == 0) := by rw [depV, hD, hrun]
  refine wpM_frz [B + 1] [(3, B + 1, 0, L.length, rowsI L)] (by intro q hq; simp at hq; subst hq; simp -implicitDefEqProofs (disch := omega) only [go_sem]) (by intro q hq; simp only [List.mem_cons, List.not_mem_nil, or_false] at hq; subst hq; exact ⟨by simp, rowsOf_ints' (T := 3) T_ rfl⟩) ?_
  refine S_ ?_
  refine e_ Tryz.results36 ?_
  first
  | exact True.intro
  | rw [hcs]
    exact ⟨rfl, rfl⟩
def okC (p : List GI) : Bool := (depV p).2
end Go.Proofs.YtmicbfojofcigaaGreat
namespace Go.Proofs.YtmicbfojofcigaaGreat
open Go Sg
set_option maxRecDepth 100000
set_option linter.unusedSimpArgs false
set_option linter.unusedVariables false
set_option linter.unusedSectionVars false
set_option maxHeartbeats 4000000
variable [Tab]
end Go.Proofs.YtmicbfojofcigaaGreat
namespace Go.Proofs.YtmicbfojofcigaaGreat
open Go Sg
set_option maxRecDepth 100000
set_option linter.unusedSimpArgs false
set_option linter.unusedVariables false
set_option linter.unusedSectionVars false
set_option maxHeartbeats 4000000
variable [Tab]
structure PS where
  H : List Int
  n : Int
  k : Int
  F : Int
  m : MM
def pcs (id : Nat) (S : PS) : List PV := .ptr id 0 :: ints (S.H ++ [S.n, S.k, S.F])
structure PS.Ok (S : PS) : Prop where
  H : S.H.length = 12
  m : S.m.Six
section
variable (id : Nat) (S : PS) (h : S.H.length = 12)
include h
end
@[go_sem] theorem pcs_0 (id : Nat) (S : PS) : (pcs id S)[0]? = some (.ptr id 0) := rfl
def PS.push (S : PS) (v : Int) : PS := { S with H := S.H.set S.n.toNat v, n := S.n + 1 }
def PS.pop (S : PS) : PS := { S with n := S.n - 1 }
def PS.top (S : PS) : Int := S.H.getD (S.n - 1).toNat 0
end Go.Proofs.YtmicbfojofcigaaGreat
namespace Go.Proofs.YtmicbfojofcigaaGreat
open Go Sg
set_option maxRecDepth 100000
set_option linter.unusedSimpArgs false
set_option linter.unusedVariables false
set_option linter.unusedSectionVars false
set_option maxHeartbeats 4000000
variable [Tab]
theorem PS.Ok.push {S : PS} (h : S.Ok) (v : Int) : (S.push v).Ok := ⟨by simp [PS.push, h.H], h.m⟩
theorem PS.Ok.pop {S : PS} (h : S.Ok) : S.pop.Ok := ⟨h.H, h.m⟩
@[go_sem] theorem pop_m (S : PS) : S.pop.m = S.m := rfl
@[go_sem] theorem push_m (S : PS) (v : Int) : (S.push v).m = S.m := rfl
end Go.Proofs.YtmicbfojofcigaaGreat
namespace Go.Proofs.YtmicbfojofcigaaGreat
open Go Sg
set_option maxRecDepth 100000
set_option linter.unusedSimpArgs false
set_option linter.unusedVariables false
set_option linter.unusedSectionVars false
set_option maxHeartbeats 4000000
variable [Tab]
def KeepD (L L' : List Int) : Prop := ∀ j, L.getD j 0 ≠ -1 → L'.getD j 0 = L.getD j 0
theorem KeepD.trans {L L' L'' : List Int} (h : KeepD L L') (h' : KeepD L' L'') : KeepD L L'' := fun j hj => by
  have e := h j hj
  rw [h' j (by rw [e]; exact hj), e]
theorem keepD_tell (L : List Int) (k : Nat) (v : Int) : KeepD L (tellL L k v) := by
  intro j hj
  unfold tellL
  split
  · rename_i hk
    have hk' := eq_of_beq hk
    have hjk : j ≠ k := by rintro rfl; exact hj hk'
    simp only [List.getD, List.getElem?_set]
    rw [if_neg (Ne.symm hjk)]
  · rfl
structure DAt (p : List GI) (D : List Int) (k : Nat) : Prop where
  ok : (p.getD k default).ok k p.length = true
  tk : (p.getD k default).takes ≤ D.getD k 0
  hi : tD (p.getD k default) D k ≤ 12
  go : (p.getD k default).goes = true → D.getD (p.getD k default).n.toNat 0 = tD (p.getD k default) D k
  fo : (p.getD k default).follows = true → D.getD (k + 1) 0 = tD (p.getD k default) D k
theorem DAt.keep {p : List GI} {D D' : List Int} {k : Nat} (h : DAt p D k) (hk : KeepD D D') : DAt p D' k := by
  have ht := takes_in (p.getD k default)
  have hg := gives_in (p.getD k default)
  have h1 := h.tk
  have e : D'.getD k 0 = D.getD k 0 := hk k (by omega)
  have et : tD (p.getD k default) D' k = tD (p.getD k default) D k := by unfold tD; rw [e]
  have t0 : 0 ≤ tD (p.getD k default) D k := by unfold tD; omega
  refine ⟨h.ok, by rw [e]; exact h1, by rw [et]; exact h.hi, fun hgo => ?_, fun hfo => ?_⟩
  · have := h.go hgo
    rw [hk _ (by rw [this]; omega), this, et]
  · have := h.fo hfo
    rw [hk _ (by rw [this]; omega), this, et]
theorem stepD_at {p : List GI} {L L' : List Int} {k : Nat} (h : stepD p L k = some L') : KeepD L L' ∧ DAt p L' k := by
  unfold stepD stepI at h
  generalize hI : p.getD k default = i at *
  split at h
  · cases h
  · rename_i hb0
    split at h
    · cases h
    · rename_i hb2
      injection h with h
      subst h
      simp only [bad0D, Bool.or_eq_true, Bool.not_eq_true', beq_iff_eq, decide_eq_true_eq, not_or, Bool.not_eq_false] at hb0
      obtain ⟨⟨hok, hne⟩, htk⟩ := hb0
      have hb2' : bad2D i L k (tD i L k) = false := by simpa using hb2
      simp only [bad2D, Bool.or_eq_false_iff] at hb2'
      obtain ⟨hb1, hf⟩ := hb2'
      have hb1' := hb1
      simp only [bad1D, Bool.or_eq_false_iff, decide_eq_false_iff_not] at hb1
      obtain ⟨h12, hg⟩ := hb1
      have k1 : KeepD L (L1D i L (tD i L k)) := by
        unfold L1D; split
        · exact keepD_tell _ _ _
        · exact fun _ _ => rfl
      have k2 : KeepD (L1D i L (tD i L k)) (L2D i L k (tD i L k)) := by
        unfold L2D; split
        · exact keepD_tell _ _ _
        · exact fun _ _ => rfl
      have kk := k1.trans k2
      have e := kk k hne
      have htk0 := takes_in i
      have hgv := gives_in i
      have t0 : 0 ≤ tD i L k := by unfold tD; omega
      have et : tD i (L2D i L k (tD i L k)) k = tD i L k := by
        show (L2D i L k (tD i L k)).getD k 0 - i.takes + i.gives = _
        rw [e]; rfl
      refine ⟨kk, ?_, ?_, ?_, ?_, ?_⟩
      · rw [hI]; exact hok
      · rw [hI, e]; omega
      · rw [hI, et]; omega
      · rw [hI, et]
        intro hgo
        rw [hgo] at hg
        have hg' : tellB L i.n.toNat (tD i L k) = true := by simpa using hg
        have h1 : L1D i L (tD i L k) = tellL L i.n.toNat (tD i L k) := by
          rw [L1D, if_pos]; simp [hgo]; omega
        have h2 : (L1D i L (tD i L k)).getD i.n.toNat 0 = tD i L k := by rw [h1]; exact eq_of_beq hg'
        rw [k2 _ (by rw [h2]; omega), h2]
      · rw [hI, et]
        intro hfo
        rw [hfo] at hf
        have hf' : tellB (L1D i L (tD i L k)) (k + 1) (tD i L k) = true := by simpa using hf
        have h1 : L2D i L k (tD i L k) = tellL (L1D i L (tD i L k)) (k + 1) (tD i L k) := by
          rw [L2D, if_pos]; rw [hb1', hfo]; rfl
        rw [h1]; exact eq_of_beq hf'
theorem runD_at {p : List GI} : ∀ (k : Nat) (L : List Int), runD' p k = some L → L.length = p.length + 1 ∧ L.getD 0 0 = 0 ∧ ∀ j < k, DAt p L j
  | 0, L, h => by
    injection h with h
    subst h
    refine ⟨by simp, by simp [List.getD], fun j hj => absurd hj (by omega)⟩
  | k + 1, L, h => by
    unfold runD' at h
    split at h
    · rename_i L0 h0
      obtain ⟨a, b, c⟩ := runD_at k L0 h0
      obtain ⟨kk, d⟩ := stepD_at h
      refine ⟨by rw [stepD_len h, a], by rw [kk 0 (by rw [b]; omega), b], fun j hj => ?_⟩
      by_cases hjk : j = k
      · subst hjk; exact d
      · exact (c j (by omega)).keep kk
    · cases h
structure DOk (p : List GI) (D : List Int) : Prop where
  z : D.getD 0 0 = 0
  e : D.getD p.length 0 = 0
  len : p.length ≤ 400
  at' : ∀ k < p.length, DAt p D k
def PS.act (S : PS) (i : GI) : PS × Bool :=
  if i.op == 1 then (S.push i.n, true)
  else if i.op == 2 then (S.push (S.m.get i.a), true)
  else if i.op == 3 then ({ S.pop with m := S.m.put i.a S.top }, true)
  else if i.op == 4 then (S.pop.pop.push (two i.n S.pop.top S.top), true)
  else if i.op == 5 then (S.pop.push (numIs (!(S.top != 0))), true)
  else if i.op == 6 then (if !(S.top != 0) then { S.pop with k := i.n } else S.pop, true)
  else if i.op == 7 then ({ S with k := i.n }, true)
  else (if S.F == 0 then S else { S with F := S.F - 1, k := i.n }, S.F != 0)
def PS.nx (S : PS) : PS := { S with k := S.k + 1 }
def mex (p : List GI) : Nat → PS → PS × Bool
  | 0, S => (S, false)
  | g + 1, S => if S.k < p.length then (if (S.nx.act (p.getD S.k.toNat default)).2 then mex p g (S.nx.act (p.getD S.k.toNat default)).1 else ((S.nx.act (p.getD S.k.toNat default)).1, true)) else (S, false)
structure PS.In (p : List GI) (D : List Int) (S : PS) : Prop where
  ok : S.Ok
  k0 : 0 ≤ S.k
  k1 : S.k ≤ p.length
  n : D.getD S.k.toNat 0 = S.n
  n0 : 0 ≤ S.n
  n1 : S.n ≤ 12
  F0 : 0 ≤ S.F
  F1 : S.F ≤ 100
end Go.Proofs.YtmicbfojofcigaaGreat
namespace Go.Proofs.YtmicbfojofcigaaGreat
open Go Sg
set_option maxRecDepth 100000
set_option linter.unusedSimpArgs false
set_option linter.unusedVariables false
set_option linter.unusedSectionVars false
set_option maxHeartbeats 4000000
variable [Tab]
def PS.start (m : MM) (F : Int) : PS := ⟨List.replicate 12 0, 0, 0, F, m⟩
theorem start_pcs (id : Nat) (m : MM) (F : Int) : pcs id (PS.start m F) = [.ptr id 0, .int .i64 0, .int .i64 0, .int .i64 0, .int .i64 0, .int .i64 0, .int .i64 0, .int .i64 0, .int .i64 0, .int .i64 0, .int .i64 0, .int .i64 0, .int .i64 0, .int .i64 0, .int .i64 0, .int .i64 F] := rfl
end Go.Proofs.YtmicbfojofcigaaGreat
namespace Go.Proofs.YtmicbfojofcigaaGreat
open Go Sg
set_option maxRecDepth 100000
set_option linter.unusedSimpArgs false
set_option linter.unusedVariables false
set_option linter.unusedSectionVars false
set_option maxHeartbeats 4000000
variable [Tab]
def At (p : List GI) (k : Nat) (c : List GI) : Prop := ∃ a b, p = a ++ c ++ b ∧ a.length = k
theorem At.fst {p c d : List GI} {k : Nat} (h : At p k (c ++ d)) : At p k c := by
  obtain ⟨a, b, rfl, rfl⟩ := h
  exact ⟨a, d ++ b, by simp, rfl⟩
theorem At.snd {p c d : List GI} {k : Nat} (h : At p k (c ++ d)) : At p (k + c.length) d := by
  obtain ⟨a, b, rfl, rfl⟩ := h
  exact ⟨a ++ c, b, by simp, by simp⟩
theorem At.one {p : List GI} {i : GI} {k : Nat} (h : At p k [i]) : k < p.length ∧ p.getD k default = i := by
  obtain ⟨a, b, rfl, rfl⟩ := h
  refine ⟨by simp, by simp [List.getD]⟩
theorem At.len {p c : List GI} {k : Nat} (h : At p k c) : k + c.length ≤ p.length := by
  obtain ⟨a, b, rfl, rfl⟩ := h
  simp
theorem tellB_of {L : List Int} {k : Nat} {v : Int} (hk : k < L.length) (h : L.getD k 0 = -1 ∨ L.getD k 0 = v) : tellB L k v = true := by
  unfold tellB tellL
  rcases h with h | h
  · rw [if_pos (by rw [h]; rfl)]
    simp [List.getD, hk]
  · split
    · simp [List.getD, hk]
    · rw [h]; simp
theorem tellL_at {L : List Int} {k : Nat} {v : Int} (hk : k < L.length) (h : L.getD k 0 = -1 ∨ L.getD k 0 = v) : (tellL L k v).getD k 0 = v := eq_of_beq (tellB_of hk h)
theorem tellL_ne {L : List Int} {k j : Nat} {v : Int} (h : j ≠ k) : (tellL L k v).getD j 0 = L.getD j 0 := by
  unfold tellL
  split
  · simp only [List.getD, List.getElem?_set]; rw [if_neg (Ne.symm h)]
  · rfl
theorem stepI_ok {i : GI} {N k : Nat} {L : List Int} (hok : i.ok k N = true) (hk : k < N) (hl : L.length = N + 1) (hL : 0 ≤ L.getD k 0) (ht : i.takes ≤ L.getD k 0) (hi : tD i L k ≤ 12)
    (hg : i.goes = true → L.getD i.n.toNat 0 = -1 ∨ L.getD i.n.toNat 0 = tD i L k) (hf : i.follows = true → L.getD (k + 1) 0 = -1 ∨ L.getD (k + 1) 0 = tD i L k) :
    ∃ L', stepI i N L k = some L' ∧ L'.length = N + 1 ∧ (i.goes = true → L'.getD i.n.toNat 0 = tD i L k) ∧ (i.follows = true → L'.getD (k + 1) 0 = tD i L k) ∧ ∀ j, (i.goes = true → j ≠ i.n.toNat) → (i.follows = true → j ≠ k + 1) → L'.getD j 0 = L.getD j 0 := by
  have hb0 : bad0D i N L k = false := by
    simp only [bad0D, hok, Bool.not_true, Bool.false_or, Bool.or_eq_false_iff, decide_eq_false_iff_not, beq_eq_false_iff_ne]
    omega
  have gi := fun hg => goes_in (i := i) (k := k) (n := N) hk hok hg
  have hb1 : bad1D i L (tD i L k) = false := by
    simp only [bad1D, Bool.or_eq_false_iff, decide_eq_false_iff_not]
    refine ⟨by omega, ?_⟩
    cases hgo : i.goes with
    | false => rfl
    | true => rw [tellB_of (by rw [hl]; exact (gi hgo).2) (hg hgo)]; rfl
  have hL1 : L1D i L (tD i L k) = if i.goes then tellL L i.n.toNat (tD i L k) else L := by
    unfold L1D; rw [show decide (tD i L k > 12) = false by simp; omega]; simp
  have hf1 : i.follows = true → (L1D i L (tD i L k)).getD (k + 1) 0 = -1 ∨ (L1D i L (tD i L k)).getD (k + 1) 0 = tD i L k := by
    intro h
    rw [hL1]
    split
    · rename_i hgo
      by_cases e : k + 1 = i.n.toNat
      · right; rw [e]; exact tellL_at (by rw [hl]; exact (gi hgo).2) (hg hgo)
      · rw [tellL_ne e]; exact hf h
    · exact hf h
  have hlen1 : (L1D i L (tD i L k)).length = N + 1 := by rw [L1D_len, hl]
  have hb2 : bad2D i L k (tD i L k) = false := by
    simp only [bad2D, hb1, Bool.false_or]
    cases hfo : i.follows with
    | false => rfl
    | true => rw [tellB_of (by rw [hlen1]; omega) (hf1 hfo)]; rfl
  have hL2 : L2D i L k (tD i L k) = if i.follows then tellL (L1D i L (tD i L k)) (k + 1) (tD i L k) else L1D i L (tD i L k) := by
    unfold L2D; rw [hb1]; simp
  refine ⟨L2D i L k (tD i L k), by rw [stepI, if_neg (by rw [hb0]; simp), if_neg (by rw [hb2]; simp)], by rw [L2D_len, hl], fun h => ?_, fun h => ?_, fun j h1 h2 => ?_⟩
  · have e1 : (L1D i L (tD i L k)).getD i.n.toNat 0 = tD i L k := by rw [hL1, if_pos h]; exact tellL_at (by rw [hl]; exact (gi h).2) (hg h)
    rw [hL2]
    split
    · rename_i hfo
      by_cases e : i.n.toNat = k + 1
      · rw [e]; exact tellL_at (by rw [hlen1]; omega) (hf1 hfo)
      · rw [tellL_ne e]; exact e1
    · exact e1
  · rw [hL2, if_pos h]; exact tellL_at (by rw [hlen1]; omega) (hf1 h)
  · have e1 : (L1D i L (tD i L k)).getD j 0 = L.getD j 0 := by
      rw [hL1]; split
      · rename_i hgo; exact tellL_ne (h1 hgo)
      · rfl
    rw [hL2]; split
    · rename_i hfo; rw [tellL_ne (h2 hfo), e1]
    · exact e1
theorem run_one {p : List GI} {i : GI} {k : Nat} {L : List Int} (hp : At p k [i]) (hr : runD' p k = some L) (hl : L.length = p.length + 1) (hok : i.ok k p.length = true) (hL : 0 ≤ L.getD k 0) (ht : i.takes ≤ L.getD k 0) (hi : tD i L k ≤ 12)
    (hg : i.goes = true → L.getD i.n.toNat 0 = -1 ∨ L.getD i.n.toNat 0 = tD i L k) (hf : i.follows = true → L.getD (k + 1) 0 = -1 ∨ L.getD (k + 1) 0 = tD i L k) :
    ∃ L', runD' p (k + 1) = some L' ∧ L'.length = p.length + 1 ∧ (i.goes = true → L'.getD i.n.toNat 0 = tD i L k) ∧ (i.follows = true → L'.getD (k + 1) 0 = tD i L k) ∧ ∀ j, (i.goes = true → j ≠ i.n.toNat) → (i.follows = true → j ≠ k + 1) → L'.getD j 0 = L.getD j 0 := by
  obtain ⟨h1, h2⟩ := hp.one
  obtain ⟨L', a, b⟩ := stepI_ok (i := i) (N := p.length) (k := k) (L := L) hok h1 hl hL ht hi hg hf
  refine ⟨L', ?_, b⟩
  rw [runD', hr]
  show stepD p L k = _
  rw [stepD, h2]
  exact a
theorem form_inv2 {d : Nat} {e : Ex} (h : formD (d + 1) e = true) (k : Nat) (n : Int) : (lastI e).ok k n = true ∧ (lastI e).goes = false ∧ (lastI e).follows = true ∧ (lastI e).takes = e.kids.length ∧ (lastI e).gives = 1 ∧ e.kids.length ≤ 2 ∧ ∀ x ∈ e.kids, formD d x = true := by
  simp only [formD] at h
  split at h
  · cases h
  · rename_i h1
    split at h
    · cases h
    · rename_i h2
      split at h
      · cases h
      · rename_i h3
        have h1' : kidsN e.kind = (e.kids.length : Int) := by simpa using h1
        have hall := List.all_eq_true.1 h
        simp only [Bool.or_eq_true, Bool.and_eq_true, not_or, not_and, beq_iff_eq, bne_iff_ne, ne_eq, Bool.not_eq_true', Bool.not_eq_false, Decidable.not_not] at h2 h3
        by_cases q1 : e.kind = 1
        · have hk : e.kids.length = 0 := by have := h1'; rw [q1] at this; simp [kidsN] at this; omega
          refine ⟨?_, ?_, ?_, ?_, ?_, by omega, hall⟩
          · have := h2.1 q1
            simp [lastI, q1, GI.ok, isNum_cut, GI.noA, A0, this]
          all_goals simp [lastI, q1, GI.goes, GI.follows, GI.takes, GI.gives, hk]
        by_cases q2 : e.kind = 2
        · have hk : e.kids.length = 0 := by have := h1'; rw [q2] at this; simp [kidsN] at this; omega
          refine ⟨?_, ?_, ?_, ?_, ?_, by omega, hall⟩
          · have := h3.1 q2
            simp [lastI, q2, GI.ok, this]
          all_goals simp [lastI, q2, GI.goes, GI.follows, GI.takes, GI.gives, hk]
        by_cases q10 : e.kind = 10
        · have hk : e.kids.length = 1 := by have := h1'; rw [q10] at this; simp [kidsN] at this; omega
          refine ⟨?_, ?_, ?_, ?_, ?_, by omega, hall⟩
          · simp [lastI, q10, GI.ok, GI.noA, A0]
          all_goals simp [lastI, q10, GI.goes, GI.follows, GI.takes, GI.gives, hk]
        · have hr : 3 ≤ e.kind ∧ e.kind ≤ 9 := by
            unfold kidsN at h1'
            simp only [q1, q2, q10, beq_iff_eq, Bool.or_eq_true, or_self, if_false, Bool.and_eq_true, decide_eq_true_eq] at h1'
            split at h1'
            · omega
            · omega
          have hk : e.kids.length = 2 := by
            unfold kidsN at h1'
            simp only [q1, q2, q10, beq_iff_eq, Bool.or_eq_true, or_self, if_false, Bool.and_eq_true, decide_eq_true_eq] at h1'
            rw [if_pos (by omega)] at h1'
            omega
          refine ⟨?_, ?_, ?_, ?_, ?_, by omega, hall⟩
          · simp [lastI, q1, q2, q10, GI.ok, isTwo, GI.noA, A0]; omega
          all_goals simp [lastI, q1, q2, q10, GI.goes, GI.follows, GI.takes, GI.gives, hk]
theorem ex_run (p : List GI) : ∀ d : Nat, (∀ e : Ex, formD d e = true → ∀ (k : Nat) (n : Int) (L : List Int), At p k e.cd → runD' p k = some L → L.length = p.length + 1 → L.getD k 0 = n → 0 ≤ n → n + d ≤ 12 → (∀ j, k < j → j ≤ k + e.cd.length → L.getD j 0 = -1) →
      ∃ L', runD' p (k + e.cd.length) = some L' ∧ L'.length = p.length + 1 ∧ L'.getD (k + e.cd.length) 0 = n + 1 ∧ ∀ j, j ≤ k ∨ k + e.cd.length < j → L'.getD j 0 = L.getD j 0) ∧
    (∀ l : List Ex, (∀ x ∈ l, formD d x = true) → ∀ (k : Nat) (n : Int) (L : List Int), At p k (Ex.cdL l) → runD' p k = some L → L.length = p.length + 1 → L.getD k 0 = n → 0 ≤ n → n + l.length + d ≤ 13 → (∀ j, k < j → j ≤ k + (Ex.cdL l).length → L.getD j 0 = -1) →
      ∃ L', runD' p (k + (Ex.cdL l).length) = some L' ∧ L'.length = p.length + 1 ∧ L'.getD (k + (Ex.cdL l).length) 0 = n + l.length ∧ ∀ j, j ≤ k ∨ k + (Ex.cdL l).length < j → L'.getD j 0 = L.getD j 0) := by
  intro d
  have lst : ∀ d, (∀ e : Ex, formD d e = true → ∀ (k : Nat) (n : Int) (L : List Int), At p k e.cd → runD' p k = some L → L.length = p.length + 1 → L.getD k 0 = n → 0 ≤ n → n + d ≤ 12 → (∀ j, k < j → j ≤ k + e.cd.length → L.getD j 0 = -1) →
      ∃ L', runD' p (k + e.cd.length) = some L' ∧ L'.length = p.length + 1 ∧ L'.getD (k + e.cd.length) 0 = n + 1 ∧ ∀ j, j ≤ k ∨ k + e.cd.length < j → L'.getD j 0 = L.getD j 0) →
    (∀ l : List Ex, (∀ x ∈ l, formD d x = true) → ∀ (k : Nat) (n : Int) (L : List Int), At p k (Ex.cdL l) → runD' p k = some L → L.length = p.length + 1 → L.getD k 0 = n → 0 ≤ n → n + l.length + d ≤ 13 → (∀ j, k < j → j ≤ k + (Ex.cdL l).length → L.getD j 0 = -1) →
      ∃ L', runD' p (k + (Ex.cdL l).length) = some L' ∧ L'.length = p.length + 1 ∧ L'.getD (k + (Ex.cdL l).length) 0 = n + l.length ∧ ∀ j, j ≤ k ∨ k + (Ex.cdL l).length < j → L'.getD j 0 = L.getD j 0) := by
    intro d he l
    induction l with
    | nil =>
      intro _ k n L hp hr hl hn h0 h1 hj
      exact ⟨L, hr, hl, by simpa [Ex.cdL] using hn, fun _ _ => rfl⟩
    | cons e l ih =>
      intro hf k n L hp hr hl hn h0 h1 hj
      simp only [Ex.cdL, List.length_append, List.length_cons] at hp hj h1 ⊢
      obtain ⟨L1, a1, a2, a3, a4⟩ := he e (hf e (by simp)) k n L hp.fst hr hl hn h0 (by omega) (fun j g1 g2 => hj j g1 (by omega))
      obtain ⟨L2, b1, b2, b3, b4⟩ := ih (fun x hx => hf x (by simp [hx])) (k + e.cd.length) (n + 1) L1 hp.snd a1 a2 a3 (by omega) (by omega) (fun j g1 g2 => by rw [a4 j (.inr g1)]; exact hj j (by omega) (by omega))
      refine ⟨L2, by rw [← Nat.add_assoc]; exact b1, b2, by rw [← Nat.add_assoc, b3]; omega, fun j g => ?_⟩
      rw [b4 j (by omega), a4 j (by omega)]
  refine ⟨?_, lst d ?_⟩
  all_goals
    induction d with
    | zero => intro e h; simp [formD] at h
    | succ d ih =>
      intro e hf k n L hp hr hl hn h0 h1 hj
      obtain ⟨f1, f2, f3, f4, f5, f6, f7⟩ := form_inv2 hf (k + (Ex.cdL e.kids).length) p.length
      rw [Ex.cd_eq] at hp hj ⊢
      simp only [List.length_append, List.length_cons, List.length_nil] at hj ⊢
      obtain ⟨L1, a1, a2, a3, a4⟩ := lst d ih e.kids f7 k n L hp.fst hr hl hn h0 (by omega) (fun j g1 g2 => hj j g1 (by omega))
      have ht : tD (lastI e) L1 (k + (Ex.cdL e.kids).length) = n + 1 := by unfold tD; rw [a3, f4, f5]; omega
      obtain ⟨L2, b1, b2, b3, b4, b5⟩ := run_one hp.snd a1 a2 f1 (by rw [a3]; omega) (by rw [a3, f4]; omega) (by rw [ht]; omega) (fun h => by rw [f2] at h; cases h) (fun _ => .inl (by
        rw [a4 _ (.inr (by omega))]; exact hj _ (by omega) (by omega)))
      refine ⟨L2, by rw [← Nat.add_assoc]; exact b1, b2, ?_, fun j g => ?_⟩
      · have := b4 f3
        rw [ht] at this
        rw [← Nat.add_assoc, Nat.zero_add]; exact this
      · rw [b5 j (fun h => by rw [f2] at h; cases h) (fun _ => by omega), a4 j (by omega)]
def StR (p c : List GI) (k : Nat) : Prop := ∀ L, runD' p k = some L → L.length = p.length + 1 → L.getD k 0 = 0 → (∀ j, k < j → j < k + c.length → L.getD j 0 = -1) → (L.getD (k + c.length) 0 = -1 ∨ L.getD (k + c.length) 0 = 0) →
  ∃ L', runD' p (k + c.length) = some L' ∧ L'.length = p.length + 1 ∧ L'.getD (k + c.length) 0 = 0 ∧ ∀ j, j < k ∨ k + c.length < j ∨ j = k → L'.getD j 0 = L.getD j 0
theorem stR_list (p : List GI) (l : List Sm) (h : ∀ s ∈ l, ∀ k, At p k (s.cd k) → StR p (s.cd k) k) : ∀ k, At p k (Sm.cdL l k) → StR p (Sm.cdL l k) k := by
  induction l with
  | nil =>
    intro k _ L hr hl hz _ _
    exact ⟨L, hr, hl, by simpa [Sm.cdL] using hz, fun _ _ => rfl⟩
  | cons s l ih =>
    intro k hp L hr hl hz hj he
    simp only [Sm.cdL, List.length_append] at hp hj he ⊢
    generalize hc : (s.cd k) = c at *
    generalize hd : Sm.cdL l (k + c.length) = d at *
    have hs : StR p c k := hc ▸ h s (by simp) k (by rw [hc]; exact hp.fst)
    have ih' : StR p d (k + c.length) := hd ▸ ih (fun s hs => h s (by simp [hs])) (k + c.length) (by rw [hd]; exact hp.snd)
    have hend : L.getD (k + c.length) 0 = -1 ∨ L.getD (k + c.length) 0 = 0 := by
      by_cases h0 : d.length = 0
      · rw [h0, Nat.add_zero] at he; exact he
      · by_cases hc0 : c.length = 0
        · right; rw [hc0, Nat.add_zero]; exact hz
        · left; exact hj _ (by omega) (by omega)
    obtain ⟨L1, a1, a2, a3, a4⟩ := hs L hr hl hz (fun j g1 g2 => hj j g1 (by omega)) hend
    obtain ⟨L2, b1, b2, b3, b4⟩ := ih' L1 a1 a2 a3 (fun j g1 g2 => by rw [a4 j (by omega)]; exact hj j (by omega) (by omega)) (by
      by_cases h0 : d.length = 0
      · right; rw [h0, Nat.add_zero]; exact a3
      · rw [a4 _ (by omega), Nat.add_assoc]; exact he)
    refine ⟨L2, by rw [← Nat.add_assoc]; exact b1, b2, by rw [← Nat.add_assoc]; exact b3, fun j g => ?_⟩
    by_cases hjk : j = k + c.length
    · subst hjk
      rw [b4 _ (by omega)]
      by_cases hc0 : c.length = 0
      · rw [a4 _ (by omega)]
      · omega
    · rw [b4 j (by omega), a4 j (by omega)]
theorem ex_run' {p : List GI} {e : Ex} (he : e.ok = true) {k : Nat} {L : List Int} (hp : At p k e.cd) (hr : runD' p k = some L) (hl : L.length = p.length + 1) (hn : L.getD k 0 = 0) (hj : ∀ j, k < j → j ≤ k + e.cd.length → L.getD j 0 = -1) :
    ∃ L', runD' p (k + e.cd.length) = some L' ∧ L'.length = p.length + 1 ∧ L'.getD (k + e.cd.length) 0 = 1 ∧ ∀ j, j ≤ k ∨ k + e.cd.length < j → L'.getD j 0 = L.getD j 0 := by
  simp only [Ex.ok, Bool.and_eq_true] at he
  have := (ex_run p 6).1 e he.1 k 0 L hp hr hl hn (by omega) (by omega) hj
  simpa using this
theorem cd_pos (e : Ex) : 0 < e.cd.length := by rw [Ex.cd_len]; exact e.sz_pos
theorem sm_run (p : List GI) : ∀ (d : Nat) (l : List Sm), formS d l = true → ∀ k, At p k (Sm.cdL l k) → StR p (Sm.cdL l k) k := by
  intro d
  induction d with
  | zero =>
    intro l hf k hp
    simp only [formS, beq_iff_eq] at hf
    have : l = [] := List.eq_nil_of_length_eq_zero hf
    subst this
    exact stR_list p [] (fun s hs => by simp at hs) k hp
  | succ d ih =>
    intro l hf
    refine stR_list p l fun s hs k hp => ?_
    have hf := List.all_eq_true.1 hf s hs
    simp only [Bool.and_eq_true] at hf
    obtain ⟨⟨⟨hpl, hok⟩, hth⟩, hel⟩ := hf
    have hA := ih s.th hth
    have hB := ih s.el hel
    have hE := cd_pos s.e
    intro L hr hl hz hj he
    rw [Sm.cd_eq] at hp hj he ⊢
    unfold Sm.plain at hpl
    split
    ·
      rename_i q1
      rw [if_pos q1] at hp hj he
      simp only [q1, if_true, Bool.and_eq_true, bne_iff_ne, ne_eq] at hpl
      simp only [List.length_append, List.length_cons, List.length_nil, Nat.zero_add] at hj he ⊢
      obtain ⟨L1, a1, a2, a3, a4⟩ := ex_run' hok hp.fst hr hl hz (fun j g1 g2 => hj j g1 (by omega))
      have ht : tD ⟨3, 0, s.to'⟩ L1 (k + s.e.cd.length) = 0 := by unfold tD; rw [a3]; simp [GI.takes, GI.gives]
      obtain ⟨L2, b1, b2, b3, b4, b5⟩ := run_one hp.snd a1 a2 (by simp [GI.ok, hpl.1.1.1]; exact hpl.1.1.2) (by omega) (by rw [a3]; simp [GI.takes]) (by rw [ht]; omega) (fun h => by simp [GI.goes] at h) (fun _ => by rw [ht, a4 _ (.inr (by omega))]; exact he)
      refine ⟨L2, by rw [← Nat.add_assoc]; exact b1, b2, ?_, fun j g => ?_⟩
      · have := b4 rfl
        rw [ht] at this
        rw [← Nat.add_assoc]; exact this
      · rw [b5 j (fun h => by simp [GI.goes] at h) (fun _ => by omega), a4 j (by omega)]
    rename_i q1
    rw [if_neg q1] at hp hj he
    split
    ·
      rename_i q2
      rw [if_pos q2] at hp hj he
      generalize hAe : Sm.cdL s.th (k + s.e.cd.length + 1) = A at *
      generalize hBe : Sm.cdL s.el (k + s.e.cd.length + 1 + A.length + 1) = C at *
      have h6 := hp.fst.fst.fst.snd
      have hAp := hp.fst.fst.snd
      have h7 := hp.fst.snd
      have hBp := hp.snd
      have hEp := hp.fst.fst.fst.fst
      have hplen := hp.len
      simp only [List.length_append, List.length_cons, List.length_nil, Nat.zero_add, ← Nat.add_assoc] at h6 hAp h7 hBp hj he hplen ⊢
      generalize hEl : s.e.cd.length = e at *
      have hA' := hA (k + e + 1) (by rw [hAe]; exact hAp)
      have hB' := hB (k + e + 1 + A.length + 1) (by rw [hBe]; exact hBp)
      rw [hAe] at hA'
      rw [hBe] at hB'
      obtain ⟨L1, a1, a2, a3, a4⟩ := ex_run' hok hEp hr hl hz (fun j g1 g2 => hj j g1 (by omega))
      rw [hEl] at a1 a3 a4
      have ht : tD ⟨6, (k + e + 1 + A.length + 1 : Nat), A0⟩ L1 (k + e) = 0 := by unfold tD; rw [a3]; simp [GI.takes, GI.gives]
      have hnn : ((((k + e + 1 + A.length + 1 : Nat) : Int)).toNat) = k + e + 1 + A.length + 1 := by omega
      have e1 : ∀ j, k < j → j < k + e + 1 + A.length + 1 + C.length → k + e < j → L1.getD j 0 = -1 := fun j g1 g2 g3 => by rw [a4 _ (.inr g3)]; exact hj j g1 g2
      obtain ⟨L2, b1, b2, b3, b4, b5⟩ := run_one h6 a1 a2 (by simp [GI.ok, GI.noA, A0]; omega) (by omega) (by rw [a3]; simp [GI.takes]) (by rw [ht]; omega) (fun _ => by
          rw [ht]
          show L1.getD (((k + e + 1 + A.length + 1 : Nat) : Int)).toNat 0 = -1 ∨ _
          rw [hnn]
          by_cases h0 : C.length = 0
          · rw [a4 _ (.inr (by omega))]; rw [h0, Nat.add_zero] at he; exact he
          · left; exact e1 _ (by omega) (by omega) (by omega)) (fun _ => by
          left; exact e1 _ (by omega) (by omega) (by omega))
      have b3 := b3 rfl
      have b4 := b4 rfl
      rw [ht] at b3 b4
      change L2.getD (((k + e + 1 + A.length + 1 : Nat) : Int)).toNat 0 = 0 at b3
      have b5 : ∀ j, j ≠ k + e + 1 + A.length + 1 → j ≠ k + e + 1 → L2.getD j 0 = L1.getD j 0 := fun j g1 g2 => b5 j (fun _ => by show j ≠ (((k + e + 1 + A.length + 1 : Nat) : Int)).toNat; rw [hnn]; exact g1) (fun _ => g2)
      rw [hnn] at b3
      obtain ⟨L3, c1, c2, c3, c4⟩ := hA' L2 b1 b2 b4 (fun j g1 g2 => by rw [b5 j (by omega) (by omega)]; exact e1 j (by omega) (by omega) (by omega)) (by
        by_cases h0 : A.length = 0
        · right; rw [h0, Nat.add_zero]; exact b4
        · left; rw [b5 _ (by omega) (by omega)]; exact e1 _ (by omega) (by omega) (by omega))
      have hn3 : ((((k + e + 1 + A.length + 1 + C.length : Nat) : Int)).toNat) = k + e + 1 + A.length + 1 + C.length := by omega
      have ht3 : tD ⟨7, (k + e + 1 + A.length + 1 + C.length : Nat), A0⟩ L3 (k + e + 1 + A.length) = 0 := by unfold tD; rw [c3]; simp [GI.takes, GI.gives]
      have hend : L3.getD (k + e + 1 + A.length + 1 + C.length) 0 = -1 ∨ L3.getD (k + e + 1 + A.length + 1 + C.length) 0 = 0 := by
        rw [c4 _ (by omega)]
        by_cases h0 : C.length = 0
        · right; rw [h0, Nat.add_zero]; exact b3
        · rw [b5 _ (by omega) (by omega), a4 _ (.inr (by omega))]; exact he
      obtain ⟨L4, d1, d2, d3, d4, d5⟩ := run_one h7 c1 c2 (by simp [GI.ok, GI.noA, A0]; omega) (by omega) (by rw [c3]; simp [GI.takes]) (by rw [ht3]; omega) (fun _ => by
          rw [ht3]
          show L3.getD (((k + e + 1 + A.length + 1 + C.length : Nat) : Int)).toNat 0 = -1 ∨ _
          rw [hn3]; exact hend) (fun h => by simp [GI.follows] at h)
      have d3 := d3 rfl
      rw [ht3] at d3
      change L4.getD (((k + e + 1 + A.length + 1 + C.length : Nat) : Int)).toNat 0 = 0 at d3
      have d5 : ∀ j, j ≠ k + e + 1 + A.length + 1 + C.length → L4.getD j 0 = L3.getD j 0 := fun j g1 => d5 j (fun _ => by show j ≠ (((k + e + 1 + A.length + 1 + C.length : Nat) : Int)).toNat; rw [hn3]; exact g1) (fun h => by simp [GI.follows] at h)
      rw [hn3] at d3
      obtain ⟨L5, f1, f2, f3, f4⟩ := hB' L4 d1 d2 (by
          by_cases h0 : C.length = 0
          · rw [h0, Nat.add_zero] at d3; exact d3
          · rw [d5 _ (by omega), c4 _ (by omega)]; exact b3) (fun j g1 g2 => by rw [d5 j (by omega), c4 j (by omega), b5 j (by omega) (by omega)]; exact e1 j (by omega) (by omega) (by omega)) (.inr d3)
      refine ⟨L5, f1, f2, f3, fun j g => ?_⟩
      rw [f4 j (by omega), d5 j (by omega), c4 j (by omega), b5 j (by omega) (by omega), a4 j (by omega)]
    rename_i q2
    rw [if_neg q2] at hp hj he
    split
    ·
      rename_i q3
      rw [if_pos q3] at hp hj he
      generalize hAe : Sm.cdL s.th (k + s.e.cd.length + 1) = A at *
      have h6 := hp.fst.fst.snd
      have hAp := hp.fst.snd
      have h8 := hp.snd
      have hEp := hp.fst.fst.fst
      have hplen := hp.len
      simp only [List.length_append, List.length_cons, List.length_nil, Nat.zero_add, ← Nat.add_assoc] at h6 hAp h8 hj he hplen ⊢
      generalize hEl : s.e.cd.length = e at *
      have hA' := hA (k + e + 1) (by rw [hAe]; exact hAp)
      rw [hAe] at hA'
      obtain ⟨L1, a1, a2, a3, a4⟩ := ex_run' hok hEp hr hl hz (fun j g1 g2 => hj j g1 (by omega))
      rw [hEl] at a1 a3 a4
      have ht : tD ⟨6, (k + e + 1 + A.length + 1 : Nat), A0⟩ L1 (k + e) = 0 := by unfold tD; rw [a3]; simp [GI.takes, GI.gives]
      have hnn : ((((k + e + 1 + A.length + 1 : Nat) : Int)).toNat) = k + e + 1 + A.length + 1 := by omega
      have e1 : ∀ j, k + e < j → j < k + e + 1 + A.length + 1 → L1.getD j 0 = -1 := fun j g1 g2 => by rw [a4 _ (.inr g1)]; exact hj j (by omega) g2
      obtain ⟨L2, b1, b2, b3, b4, b5⟩ := run_one h6 a1 a2 (by simp [GI.ok, GI.noA, A0]; omega) (by omega) (by rw [a3]; simp [GI.takes]) (by rw [ht]; omega) (fun _ => by
          rw [ht]
          show L1.getD (((k + e + 1 + A.length + 1 : Nat) : Int)).toNat 0 = -1 ∨ _
          rw [hnn, a4 _ (.inr (by omega))]; exact he) (fun _ => by
          left; exact e1 _ (by omega) (by omega))
      have b3 := b3 rfl
      have b4 := b4 rfl
      rw [ht] at b3 b4
      change L2.getD (((k + e + 1 + A.length + 1 : Nat) : Int)).toNat 0 = 0 at b3
      have b5 : ∀ j, j ≠ k + e + 1 + A.length + 1 → j ≠ k + e + 1 → L2.getD j 0 = L1.getD j 0 := fun j g1 g2 => b5 j (fun _ => by show j ≠ (((k + e + 1 + A.length + 1 : Nat) : Int)).toNat; rw [hnn]; exact g1) (fun _ => g2)
      rw [hnn] at b3
      obtain ⟨L3, c1, c2, c3, c4⟩ := hA' L2 b1 b2 b4 (fun j g1 g2 => by rw [b5 j (by omega) (by omega)]; exact e1 j (by omega) (by omega)) (by
        by_cases h0 : A.length = 0
        · right; rw [h0, Nat.add_zero]; exact b4
        · left; rw [b5 _ (by omega) (by omega)]; exact e1 _ (by omega) (by omega))
      have hn3 : (((k : Nat) : Int)).toNat = k := by omega
      have ht3 : tD ⟨8, (k : Nat), A0⟩ L3 (k + e + 1 + A.length) = 0 := by unfold tD; rw [c3]; simp [GI.takes, GI.gives]
      have hk0 : L3.getD k 0 = 0 := by rw [c4 _ (by omega), b5 _ (by omega) (by omega), a4 _ (by omega)]; exact hz
      obtain ⟨L4, d1, d2, d3, d4, d5⟩ := run_one h8 c1 c2 (by simp [GI.ok, GI.noA, A0]; omega) (by omega) (by rw [c3]; simp [GI.takes]) (by rw [ht3]; omega) (fun _ => by
          rw [ht3]
          show L3.getD (((k : Nat) : Int)).toNat 0 = -1 ∨ _
          rw [hn3]; exact .inr hk0) (fun h => by simp [GI.follows] at h)
      have d3 := d3 rfl
      rw [ht3] at d3
      change L4.getD (((k : Nat) : Int)).toNat 0 = 0 at d3
      rw [hn3] at d3
      have d5 : ∀ j, j ≠ k → L4.getD j 0 = L3.getD j 0 := fun j g1 => d5 j (fun _ => by show j ≠ (((k : Nat) : Int)).toNat; rw [hn3]; exact g1) (fun h => by simp [GI.follows] at h)
      refine ⟨L4, d1, d2, ?_, fun j g => ?_⟩
      · rw [d5 _ (by omega), c4 _ (by omega)]; exact b3
      · by_cases hjk : j = k
        · subst hjk; rw [d3, hz]
        · rw [d5 j hjk, c4 j (by omega), b5 j (by omega) (by omega), a4 j (by omega)]
    · rename_i q3
      simp only [q1, q2, q3] at hpl
      simp at hpl
theorem okC_codeOf {l : List Sm} (h : okS l = true) (hn : (codeOf l).length ≤ 400) : okC (codeOf l) = true := by
  have hc : codeOf l = Sm.cdL l 0 := by rw [codeOf, if_pos h]
  have hf : formS 4 l = true := by simp only [okS, Bool.and_eq_true] at h; exact h.2
  rw [hc] at hn ⊢
  generalize hp : Sm.cdL l 0 = p at *
  have hat : At p 0 (Sm.cdL l 0) := ⟨[], [], by simp [hp], rfl⟩
  have hst := sm_run p 4 l hf 0 hat
  rw [hp] at hst
  have g1 : ∀ j, 0 < j → ((List.replicate (p.length + 1) (-1 : Int)).set 0 0).getD j 0 = if j < p.length + 1 then -1 else 0 := by
    intro j hj
    obtain ⟨j, rfl⟩ : ∃ i, j = i + 1 := ⟨j - 1, by omega⟩
    simp only [List.getD, List.getElem?_set, List.getElem?_replicate]
    rw [if_neg (by omega)]
    split <;> rfl
  obtain ⟨L, a1, a2, a3, a4⟩ := hst ((List.replicate (p.length + 1) (-1)).set 0 0) rfl (by simp) (by simp [List.getD]) (fun j g2 g3 => by rw [g1 j g2, if_pos (by omega)]) (by
    by_cases h0 : p.length = 0
    · right; rw [h0]; simp [List.getD]
    · left; rw [g1 _ (by omega), if_pos (by omega)])
  rw [Nat.zero_add] at a1 a3
  have hd : depthsF p = some L := by rw [depthsF, if_neg (by omega)]; exact a1
  rw [okC, depV, hd]
  simp only [a3, beq_self_eq_true]
end Go.Proofs.YtmicbfojofcigaaGreat
namespace Go.Proofs.YtmicbfojofcigaaGreat
open Go Sg
set_option maxRecDepth 100000
set_option linter.unusedSimpArgs false
set_option linter.unusedVariables false
set_option linter.unusedSectionVars false
set_option maxHeartbeats 4000000
variable [Tab]
def Steps (p : List GI) (n : Nat) (S S' : PS) : Prop := ∀ g, mex p (g + n) S = mex p g S'
theorem Steps.refl (p : List GI) (S : PS) : Steps p 0 S S := fun g => rfl
theorem Steps.trans {p : List GI} {n n' : Nat} {S S' S'' : PS} (h : Steps p n S S') (h' : Steps p n' S' S'') : Steps p (n' + n) S S'' := fun g => by
  rw [← Nat.add_assoc, h, h']
theorem Steps.one {p : List GI} {i : GI} {k : Nat} {S : PS} (hp : At p k [i]) (hk : S.k = k) (h : (S.nx.act i).2 = true) : Steps p 1 S (S.nx.act i).1 := fun g => by
  obtain ⟨h1, h2⟩ := hp.one
  have e : p.getD S.k.toNat default = i := by rw [hk]; exact h2
  show mex p (g + 1) S = _
  rw [mex, if_pos (by omega), e, if_pos h]
structure Ev (p : List GI) (k' : Nat) (S : PS) (vs : List Int) (S' : PS) : Prop where
  ok : S'.Ok
  k : S'.k = k'
  n : S'.n = S.n + vs.length
  F : S'.F = S.F
  m : S'.m = S.m
  lo : ∀ j < S.n.toNat, S'.H.getD j 0 = S.H.getD j 0
  hi : ∀ i < vs.length, S'.H.getD (S.n.toNat + i) 0 = vs.getD i 0
def Res (p : List GI) (k' : Nat) (S : PS) (R : MM × Nat × Bool) : Prop :=
  (R.2.2 = false → ∃ n S', Steps p n S S' ∧ S'.Ok ∧ S'.k = k' ∧ S'.n = 0 ∧ S'.F = R.2.1 ∧ S'.m = R.1) ∧ (R.2.2 = true → ∃ n S', (∀ g, mex p (g + n) S = (S', true)) ∧ S'.m = R.1)
theorem Res.pre {p : List GI} {k' n : Nat} {S S1 : PS} {R : MM × Nat × Bool} (h : Steps p n S S1) (hr : Res p k' S1 R) : Res p k' S R := by
  refine ⟨fun hb => ?_, fun hb => ?_⟩
  · obtain ⟨n2, S', a, b⟩ := hr.1 hb
    exact ⟨_, S', h.trans a, b⟩
  · obtain ⟨n2, S', a, b⟩ := hr.2 hb
    exact ⟨n2 + n, S', fun g => by rw [← Nat.add_assoc, h, a], b⟩
theorem Res.post {p : List GI} {k' k2 : Nat} {S : PS} {R : MM × Nat × Bool} (hr : Res p k' S R) (h : R.2.2 = false → ∀ S' : PS, S'.Ok → S'.k = k' → S'.n = 0 → S'.F = R.2.1 → S'.m = R.1 → Res p k2 S' R) : Res p k2 S R := by
  refine ⟨fun hb => ?_, hr.2⟩
  obtain ⟨n, S', a, b1, b2, b3, b4, b5⟩ := hr.1 hb
  exact ((h hb S' b1 b2 b3 b4 b5).pre a).1 hb
end Go.Proofs.YtmicbfojofcigaaGreat
namespace Go.Proofs.YtmicbfojofcigaaGreat
open Go Sg
set_option linter.unusedSectionVars false
variable [Glob]
set_option maxRecDepth 100000
set_option linter.unusedSimpArgs false
set_option linter.unusedVariables false
set_option maxHeartbeats 4000000
@[go_sem] theorem repd2 (z : List PV) : rep 2 z = z ++ z := by simp [rep, List.replicate_succ]
@[go_sem] theorem repd3 (z : List PV) : rep 3 z = z ++ (z ++ (z)) := by simp [rep, List.replicate_succ]
@[go_sem] theorem repd4 (z : List PV) : rep 4 z = z ++ (z ++ (z ++ (z))) := by simp [rep, List.replicate_succ]
@[go_sem] theorem repd7 (z : List PV) : rep 7 z = z ++ (z ++ (z ++ (z ++ (z ++ (z ++ (z)))))) := by simp [rep, List.replicate_succ]
@[go_sem] theorem repd10 (z : List PV) : rep 10 z = z ++ (z ++ (z ++ (z ++ (z ++ (z ++ (z ++ (z ++ (z ++ (z))))))))) := by simp [rep, List.replicate_succ]
def RdF (f : Nat) (args : List PV) (id : Nat) (bs : List Nat) (q K : Int) (R : PV → Prop) : Prop :=
  CallF Tryz.prog f (.ptr id 0 :: args) [(id, rdObj bs q)] 0 (fun _ o => ∃ v q', R v ∧ q ≤ q' ∧ q' ≤ q + K ∧ o = { rs := [v], u := [(id, some (rdObj bs q'))] })
theorem l2Addr_ok (id : Nat) (bs : List Nat) (q : Int) (hbs : Bs bs) (hq0 : 0 ≤ q) (hq : q + 2 ≤ 1000000000000) : RdF 88 [] id bs q 2 (fun v => ∃ a : AD, a.ok = true ∧ v = .agg a.cs) := by
  refine callF_of' Tryz.func88 rfl Tryz.ntmps88 (by simp) ?_
  intro f0 B ns Q hB hns hQ
  have hid : id < B := hB id (by simp [hasKey, lk])
  obtain rfl : ns = [] := List.eq_nil_of_length_eq_zero hns
  refine g_ [0,2] ?_
  refine n_ ?_
  refine wpM_regionK [2] rfl fun Q1 hQ1 => ?_
  refine S_ ?_
  refine call_fn (l := [(id, rdObj bs q)]) (first := []) (cap := []) (ps := [.ptr id 0, .int .i64 3]) (pick_ok id bs q 3 hbs (by omega) (by omega) (by omega)) Tryz.call44 rfl rfl rfl G_ T_ ?_
  rintro out ⟨k1, rfl, h1, h2, h3⟩
  refine S_ ?_
  refine call_fn (l := [(id, rdObj bs (q + 1))]) (first := []) (cap := []) (ps := [.ptr id 0, .int .i64 3]) (pick_ok id bs (q + 1) 3 hbs (by omega) (by omega) (by omega)) Tryz.call44 rfl rfl rfl G_ T_ ?_
  rintro out ⟨k2, rfl, h4, h5, h6⟩
  refine S_ ?_
  refine hQ1 _ _ (S_ ?_);clear hQ1 Q1
  refine wpM_ret ?_
  try refine S_ ?_
  refine hQ _ _ (ret0 [(id, some (rdObj bs (q + 1 + 1)))] rfl rfl rfl (by rw [Tryz.results88] <;> simp (maxSteps := 1000000) -implicitDefEqProofs (disch := omega) only [go_sem] <;> rfl) ⟨_, q + 1 + 1, ⟨⟨1 + k1, k2⟩, by (have := h2 (by omega)); (have := h5 (by omega)); simp only [AD.ok, Bool.and_eq_true, decide_eq_true_eq]; omega, rfl⟩, by omega, by omega, rfl⟩ ?_ ?_ ?_ ?_)
  all_goals simp -implicitDefEqProofs (disch := omega) only [go_sem, rdObj, true_or, or_true]
theorem l2AddrBent_ok (id : Nat) (bs : List Nat) (q : Int) (hbs : Bs bs) (hq0 : 0 ≤ q) (hq : q + 4 ≤ 1000000000000) : RdF 54 [] id bs q 4 (fun v => ∃ a : AD, v = .agg a.cs) := by
  refine callF_of' Tryz.func54 rfl Tryz.ntmps54 (by simp) ?_
  intro f0 B ns Q hB hns hQ
  have hid : id < B := hB id (by simp [hasKey, lk])
  obtain rfl : ns = [] := List.eq_nil_of_length_eq_zero hns
  refine g_ [0,2] ?_
  refine n_ ?_
  refine wpM_regionK [0,2,3] rfl fun Q1 hQ1 => ?_
  refine S_ ?_
  refine call_fn (l := [(id, rdObj bs q)]) (first := []) (cap := []) (ps := [.ptr id 0]) (l2Addr_ok id bs q hbs hq0 (by omega)) Tryz.call88 rfl rfl rfl G_ T_ ?_
  rintro out ⟨_, q', ⟨a, hao, rfl⟩, hqa, hqb, rfl⟩
  refine S_ ?_
  refine hQ1 _ _ (S_ ?_);clear hQ1 Q1
  refine n_ ?_
  refine wpM_regionK [0,2,3,7] rfl fun Q1 hQ1 => ?_
  refine S_ ?_
  refine call_fn (l := [(id, rdObj bs q')]) (first := []) (cap := []) (ps := [.ptr id 0, .int .i64 16]) (pick_ok id bs q' 16 hbs (by omega) (by omega) (by omega)) Tryz.call44 rfl rfl rfl G_ T_ ?_
  rintro out ⟨k1, rfl, h1, h2, h3⟩
  refine S_ ?_
  refine hQ1 _ _ (S_ ?_);clear hQ1 Q1
  refine g_ [0,2,3,7,8] ?_
  refine c_ (fun hc0 => ?_) fun hc0 => ?_
  ·
    refine wpM_regionK [2,3] rfl fun Q1 hQ1 => ?_
    refine S_ ?_
    refine call_fn (l := [(id, rdObj bs (q' + 1)), (B + 2, .cells 3 (ints [0, 4, -1]))]) (first := []) (cap := []) (ps := [.ptr id 0, .sl 3 (B + 2) 0 3]) (num_ok id (B + 2) bs (q' + 1) [0, 4, -1] 3 rfl (by omega) (by omega) (by omega) hbs (by omega) (by omega)) Tryz.call46 rfl rfl rfl G_ (by simp -implicitDefEqProofs (disch := omega) only [go_sem, ints, List.map_cons, List.map_nil]) ?_
    rintro out ⟨k2, rfl, h4⟩
    refine S_ ?_
    refine hQ1 _ _ (S_ ?_);clear hQ1 Q1
    refine g_ [2] ?_
    refine wpM_ret ?_
    try refine S_ ?_
    first
    | refine hQ _ _ (ret0 [(id, some (rdObj bs (q' + 1 + 1)))] rfl rfl rfl (by rw [Tryz.results54] <;> simp (maxSteps := 1000000) -implicitDefEqProofs (disch := omega) only [go_sem] <;> rfl) ⟨_, q' + 1 + 1, ⟨⟨_, _⟩, rfl⟩, by omega, by omega, rfl⟩ ?_ ?_ ?_ ?_) <;> (simp -implicitDefEqProofs (disch := omega) only [go_sem, rdObj, true_or, or_true]; done)
    | refine hQ _ _ (ret0 [(id, some (rdObj bs (q' + 1)))] rfl rfl rfl (by rw [Tryz.results54] <;> simp (maxSteps := 1000000) -implicitDefEqProofs (disch := omega) only [go_sem] <;> rfl) ⟨_, q' + 1, ⟨⟨_, _⟩, rfl⟩, by omega, by omega, rfl⟩ ?_ ?_ ?_ ?_) <;> (simp -implicitDefEqProofs (disch := omega) only [go_sem, rdObj, true_or, or_true]; done)
  refine g_ [0,2,3,14] ?_
  refine c_ (fun hc1 => ?_) fun hc1 => ?_
  ·
    refine wpM_regionK [2,3] rfl fun Q1 hQ1 => ?_
    refine S_ ?_
    refine call_fn (l := [(id, rdObj bs (q' + 1)), (B + 2, .cells 3 (ints [-1, 6, 5]))]) (first := []) (cap := []) (ps := [.ptr id 0, .sl 3 (B + 2) 0 3]) (num_ok id (B + 2) bs (q' + 1) [-1, 6, 5] 3 rfl (by omega) (by omega) (by omega) hbs (by omega) (by omega)) Tryz.call46 rfl rfl rfl G_ (by simp -implicitDefEqProofs (disch := omega) only [go_sem, ints, List.map_cons, List.map_nil]) ?_
    rintro out ⟨k2, rfl, h4⟩
    refine S_ ?_
    refine hQ1 _ _ (S_ ?_);clear hQ1 Q1
    refine g_ [2] ?_
    refine wpM_ret ?_
    try refine S_ ?_
    first
    | refine hQ _ _ (ret0 [(id, some (rdObj bs (q' + 1 + 1)))] rfl rfl rfl (by rw [Tryz.results54] <;> simp (maxSteps := 1000000) -implicitDefEqProofs (disch := omega) only [go_sem] <;> rfl) ⟨_, q' + 1 + 1, ⟨⟨_, _⟩, rfl⟩, by omega, by omega, rfl⟩ ?_ ?_ ?_ ?_) <;> (simp -implicitDefEqProofs (disch := omega) only [go_sem, rdObj, true_or, or_true]; done)
    | refine hQ _ _ (ret0 [(id, some (rdObj bs (q' + 1)))] rfl rfl rfl (by rw [Tryz.results54] <;> simp (maxSteps := 1000000) -implicitDefEqProofs (disch := omega) only [go_sem] <;> rfl) ⟨_, q' + 1, ⟨⟨_, _⟩, rfl⟩, by omega, by omega, rfl⟩ ?_ ?_ ?_ ?_) <;> (simp -implicitDefEqProofs (disch := omega) only [go_sem, rdObj, true_or, or_true]; done)
  refine g_ [2] ?_
  refine wpM_ret ?_
  try refine S_ ?_
  first
  | refine hQ _ _ (ret0 [(id, some (rdObj bs (q' + 1 + 1)))] rfl rfl rfl (by rw [Tryz.results54] <;> simp (maxSteps := 1000000) -implicitDefEqProofs (disch := omega) only [go_sem] <;> rfl) ⟨_, q' + 1 + 1, ⟨⟨_, _⟩, rfl⟩, by omega, by omega, rfl⟩ ?_ ?_ ?_ ?_) <;> (simp -implicitDefEqProofs (disch := omega) only [go_sem, rdObj, true_or, or_true]; done)
  | refine hQ _ _ (ret0 [(id, some (rdObj bs (q' + 1)))] rfl rfl rfl (by rw [Tryz.results54] <;> simp (maxSteps := 1000000) -implicitDefEqProofs (disch := omega) only [go_sem] <;> rfl) ⟨_, q' + 1, ⟨⟨_, _⟩, rfl⟩, by omega, by omega, rfl⟩ ?_ ?_ ?_ ?_) <;> (simp -implicitDefEqProofs (disch := omega) only [go_sem, rdObj, true_or, or_true]; done)
end Go.Proofs.YtmicbfojofcigaaGreat
namespace Go.Proofs.YtmicbfojofcigaaGreat
open Go Sg
set_option linter.unusedSectionVars false
variable [Glob]
set_option maxRecDepth 100000
set_option linter.unusedSimpArgs false
set_option linter.unusedVariables false
set_option maxHeartbeats 4000000
def exc (l : List Ex) : List PV := (Ex.csL l).flatten
@[go_sem] theorem exc_len (l : List Ex) : (exc l).length = l.length * 5 := by
  induction l with
  | nil => rfl
  | cons e l ih => simp only [exc, Ex.csL, List.flatten_cons, List.length_append, Ex.cs_eq, List.length_cons, List.length_nil] at ih ⊢; omega
theorem exc_app (l : List Ex) (e : Ex) : exc l ++ e.cs = exc (l ++ [e]) := by
  simp [exc, Ex.csL_map]
theorem exc_one (e : Ex) : e.cs = exc [e] := by simp [exc, Ex.csL]
theorem idsL_app (p : Nat → Prop) (a b : List PV) : PV.idsL p (a ++ b) = (PV.idsL p a ∧ PV.idsL p b) := by
  induction a with
  | nil => simp [PV.idsL]
  | cons x a ih => simp only [List.cons_append, PV.idsL, ih, and_assoc]
theorem renL_app (p : Nat → Nat) (a b : List PV) : PV.renL p (a ++ b) = PV.renL p a ++ PV.renL p b := by
  induction a with
  | nil => simp [PV.renL]
  | cons x a ih => simp only [List.cons_append, PV.renL, ih]
theorem subL_app (θ : TypeId → Nat → Nat → Nat → Option PV) (a b : List PV) : PV.subL θ (a ++ b) = PV.subL θ a ++ PV.subL θ b := by
  induction a with
  | nil => simp [PV.subL]
  | cons x a ih => simp only [List.cons_append, PV.subL, ih]
theorem rowsOf_exc {f : Nat → Option AObj} {id : Nat} {T : TypeId} {l : List Ex} (h : f id = some (.cells T (exc l))) : RowsOf Tryz.prog f 27 id 0 l.length (Ex.csL l) := by
  refine ⟨by rw [cellsOf27]; omega, by rw [Ex.csL_len], ?_, T, _, h, ?_, ?_⟩
  · intro c hc
    rw [Ex.csL_map, List.mem_map] at hc
    obtain ⟨x, _, rfl⟩ := hc
    rw [cellsOf27, Ex.cs_eq]; exact ⟨rfl, rfl⟩
  · rw [cellsOf27, exc_len]; omega
  · rw [cellsOf27, List.drop_zero, List.take_of_length_le (by rw [exc_len]; omega)]; rfl
theorem Ex.szL_app (l : List Ex) (e : Ex) : Ex.szL (l ++ [e]) = Ex.szL l + e.sz := by
  induction l with
  | nil => simp [Ex.szL]
  | cons x l ih => simp only [List.cons_append, Ex.szL, ih]; omega
@[go_sem] theorem Ex.mk_kind (k n : Int) (a : AD) (l : List Ex) : (Ex.mk k n a l).kind = k := rfl
@[go_sem] theorem Ex.mk_n (k n : Int) (a : AD) (l : List Ex) : (Ex.mk k n a l).n = n := rfl
@[go_sem] theorem Ex.mk_a (k n : Int) (a : AD) (l : List Ex) : (Ex.mk k n a l).a = a := rfl
@[go_sem] theorem Ex.mk_kids (k n : Int) (a : AD) (l : List Ex) : (Ex.mk k n a l).kids = l := rfl
@[go_sem] theorem Ex.csL_nil : Ex.csL [] = [] := rfl
def eb : Nat → Int
  | 0 => 4
  | d + 1 => 4 + 2 * eb d
def es : Nat → Nat
  | 0 => 1
  | d + 1 => 1 + 2 * es d
theorem eb_pos : ∀ d, 4 ≤ eb d
  | 0 => by simp [eb]
  | d + 1 => by have := eb_pos d; simp only [eb]; omega
theorem es_pos : ∀ d, 1 ≤ es d
  | 0 => by simp [es]
  | d + 1 => by have := es_pos d; simp only [es]; omega
theorem leaf_num {k : Int} (h : k ∈ [0, 1, 2, 3, -1, 5, (1000000 : Int)]) (d : Nat) : formD (d + 1) (Ex.mk 1 k ⟨0, 0⟩ []) = true := by
  have hc : cut k = k := by
    unfold cut
    simp only [List.mem_cons, List.not_mem_nil, or_false] at h
    omega
  simp [formD, kidsN, Ex.mk_kind, Ex.mk_kids, Ex.mk_n, Ex.mk_a, hc]
theorem leaf_at {a : AD} (h : a.ok = true) (d : Nat) : formD (d + 1) (Ex.mk 2 0 a []) = true := by
  simp [formD, kidsN, Ex.mk_kind, Ex.mk_kids, Ex.mk_n, Ex.mk_a, h]
theorem node_in {k : Int} {l : List Ex} {d : Nat} (h : k ∈ [3, 3, 4, 5, 6, 6, 7, 8, 9, (10 : Int)]) (hl : kidsN k = (l.length : Int)) (ha : l.all (formD d) = true) : formD (d + 1) (Ex.mk k 0 ⟨0, 0⟩ l) = true := by
  have hk : k ≠ 1 ∧ k ≠ 2 := by
    simp only [List.mem_cons, List.not_mem_nil, or_false] at h
    omega
  rw [formD]
  simp only [Ex.mk_kind, Ex.mk_kids, Ex.mk_n, Ex.mk_a, hl, bne_self_eq_false, Bool.false_eq_true, if_false, beq_eq_false_iff_ne.2 hk.1, beq_eq_false_iff_ne.2 hk.2, Bool.false_and, Bool.false_or, Bool.and_false, beq_self_eq_true, Bool.and_self, Bool.not_true, ha]
def ExprD (d : Nat) (id : Nat) (bs : List Nat) (q dep : Int) : Prop := RdF 78 [.int .i64 dep] id bs q (eb d) (fun v => ∃ e : Ex, (e.sz ≤ es d ∧ formD (d + 1) e = true) ∧ v = .agg e.cs)
theorem expr_leaf (d : Nat) (id : Nat) (bs : List Nat) (q dep : Int) (hbs : Bs bs) (hq0 : 0 ≤ q) (hq : q + eb d ≤ 1000000000000) (hd : decide (dep ≤ 1) = true) : ExprD d id bs q dep := by
  have hb4 := eb_pos d
  have hs1 := es_pos d
  refine callF_of' Tryz.func78 rfl Tryz.ntmps78 (by simp) ?_
  intro f0 B ns Q hB hns hQ
  have hid : id < B := hB id (by simp [hasKey, lk])
  obtain rfl : ns = [] := List.eq_nil_of_length_eq_zero hns
  refine g_ [0,1,4] ?_
  refine n_ ?_
  refine wpM_regionK [0,1,4,13] rfl fun Q1 hQ1 => ?_
  simp -implicitDefEqProofs (disch := omega) only [go_sem, hd]
  refine hQ1 _ _ (S_ ?_);clear hQ1 Q1
  refine c1_ ?_
  refine n_ ?_
  refine wpM_regionK [0,4,16] rfl fun Q1 hQ1 => ?_
  refine S_ ?_
  refine call_fn (l := [(id, rdObj bs q)]) (first := []) (cap := []) (ps := [.ptr id 0, .int .i64 3]) (pick_ok id bs q 3 hbs (by omega) (by omega) (by omega)) Tryz.call44 rfl rfl rfl G_ T_ ?_
  rintro out ⟨k1, rfl, h1, h2, h3⟩
  refine S_ ?_
  refine hQ1 _ _ (S_ ?_);clear hQ1 Q1
  refine c_ (fun hc1 => ?_) fun hc1 => ?_
  ·
    refine n_ ?_
    refine wpM_regionK [4] rfl fun Q1 hQ1 => ?_
    refine S_ ?_
    refine call_fn (l := [(id, rdObj bs (q + 1)), (B + 1, .cells 3 (ints [0, 1, 2, 3, -1, 5, 1000000]))]) (first := []) (cap := []) (ps := [.ptr id 0, .sl 3 (B + 1) 0 7]) (num_ok id (B + 1) bs (q + 1) [0, 1, 2, 3, -1, 5, 1000000] 7 rfl (by omega) (by omega) (by omega) hbs (by omega) (by omega)) Tryz.call46 rfl rfl rfl G_ (by simp -implicitDefEqProofs (disch := omega) only [go_sem, ints, List.map_cons, List.map_nil]) ?_
    rintro out ⟨k2, rfl, h4⟩
    refine S_ ?_
    refine hQ1 _ _ (S_ ?_);clear hQ1 Q1
    refine wpM_le [(4, .ptr B 0)] [(B, .cells 27 (Ex.mk 1 k2 ⟨0, 0⟩ []).cs), (id, rdObj bs (q + 1 + 1))] T_ T_ T_ ?_
    refine wpM_ret ?_
    try refine S_ ?_
    first
    | refine hQ _ _ (ret0 [(id, some (rdObj bs (q + 1 + 1)))] rfl rfl rfl (by rw [Tryz.results78] <;> simp (maxSteps := 1000000) -implicitDefEqProofs (disch := omega) only [go_sem] <;> rfl) ⟨_, q + 1 + 1, ⟨Ex.mk 1 k2 ⟨0, 0⟩ [], ⟨by simpa [Ex.sz, Ex.szL] using hs1, leaf_num h4 d⟩, rfl⟩, by omega, by omega, rfl⟩ ?_ ?_ ?_ ?_) <;> (simp -implicitDefEqProofs (disch := omega) only [go_sem, rdObj, true_or, or_true]; done)
    | refine hQ _ _ (ret0 [(id, some (rdObj bs q'))] rfl rfl rfl (by rw [Tryz.results78] <;> simp (maxSteps := 1000000) -implicitDefEqProofs (disch := omega) only [go_sem] <;> rfl) ⟨_, q', ⟨Ex.mk 2 0 a [], ⟨by simpa [Ex.sz, Ex.szL] using hs1, leaf_at hao d⟩, rfl⟩, by omega, by omega, rfl⟩ ?_ ?_ ?_ ?_) <;> (simp -implicitDefEqProofs (disch := omega) only [go_sem, rdObj, true_or, or_true]; done)
  refine n_ ?_
  refine wpM_regionK [4] rfl fun Q1 hQ1 => ?_
  refine S_ ?_
  refine call_fn (l := [(id, rdObj bs (q + 1))]) (first := []) (cap := []) (ps := [.ptr id 0]) (l2Addr_ok id bs (q + 1) hbs (by omega) (by omega)) Tryz.call88 rfl rfl rfl G_ T_ ?_
  rintro out ⟨_, q', ⟨a, hao, rfl⟩, hqa, hqb, rfl⟩
  refine S_ ?_
  refine hQ1 _ _ (S_ ?_);clear hQ1 Q1
  refine wpM_le [(4, .ptr B 0)] [(B, .cells 27 (Ex.mk 2 0 a []).cs), (id, rdObj bs q')] T_ T_ T_ ?_
  refine wpM_ret ?_
  try refine S_ ?_
  first
  | refine hQ _ _ (ret0 [(id, some (rdObj bs (q + 1 + 1)))] rfl rfl rfl (by rw [Tryz.results78] <;> simp (maxSteps := 1000000) -implicitDefEqProofs (disch := omega) only [go_sem] <;> rfl) ⟨_, q + 1 + 1, ⟨Ex.mk 1 k2 ⟨0, 0⟩ [], ⟨by simpa [Ex.sz, Ex.szL] using hs1, leaf_num h4 d⟩, rfl⟩, by omega, by omega, rfl⟩ ?_ ?_ ?_ ?_) <;> (simp -implicitDefEqProofs (disch := omega) only [go_sem, rdObj, true_or, or_true]; done)
  | refine hQ _ _ (ret0 [(id, some (rdObj bs q'))] rfl rfl rfl (by rw [Tryz.results78] <;> simp (maxSteps := 1000000) -implicitDefEqProofs (disch := omega) only [go_sem] <;> rfl) ⟨_, q', ⟨Ex.mk 2 0 a [], ⟨by simpa [Ex.sz, Ex.szL] using hs1, leaf_at hao d⟩, rfl⟩, by omega, by omega, rfl⟩ ?_ ?_ ?_ ?_) <;> (simp -implicitDefEqProofs (disch := omega) only [go_sem, rdObj, true_or, or_true]; done)
theorem expr_node (d : Nat) (id : Nat) (bs : List Nat) (q dep : Int) (hbs : Bs bs) (hq0 : 0 ≤ q) (hq : q + eb (d + 1) ≤ 1000000000000) (hd : decide (dep ≤ 1) = false) (hdep : dep ≤ 1000000)
    (ih : ∀ q', 0 ≤ q' → q' + eb d ≤ 1000000000000 → ExprD d id bs q' (dep - 1)) : ExprD (d + 1) id bs q dep := by
  have hb4 := eb_pos d
  have hs1 := es_pos d
  have hb5 : eb (d + 1) = 4 + 2 * eb d := rfl
  have hdep1 : 1 < dep := by simpa using hd
  have hs5 : es (d + 1) = 1 + 2 * es d := rfl
  refine callF_of' Tryz.func78 rfl Tryz.ntmps78 (by simp) ?_
  intro f0 B ns Q hB hns hQ
  have hid : id < B := hB id (by simp [hasKey, lk])
  obtain rfl : ns = [] := List.eq_nil_of_length_eq_zero hns
  refine g_ [0,1,4] ?_
  refine n_ ?_
  refine wpM_regionK [0,1,4,13] rfl fun Q1 hQ1 => ?_
  simp -implicitDefEqProofs (disch := omega) only [go_sem, hd]
  refine call_fn (l := [(id, rdObj bs q)]) (first := []) (cap := []) (ps := [.ptr id 0, .int .i64 4]) (pick_ok id bs q 4 hbs (by omega) (by omega) (by omega)) Tryz.call44 rfl rfl rfl G_ T_ ?_
  rintro out ⟨k0, rfl, h01, h02, h03⟩
  simp -implicitDefEqProofs (disch := omega) only [go_sem, hd]
  refine hQ1 _ _ (S_ ?_);clear hQ1 Q1
  refine c_ (fun hc0 => ?_) fun hc0 => ?_
  ·
    refine n_ ?_
    refine wpM_regionK [0,4,16] rfl fun Q1 hQ1 => ?_
    refine S_ ?_
    refine call_fn (l := [(id, rdObj bs (q + 1))]) (first := []) (cap := []) (ps := [.ptr id 0, .int .i64 3]) (pick_ok id bs (q + 1) 3 hbs (by omega) (by omega) (by omega)) Tryz.call44 rfl rfl rfl G_ T_ ?_
    rintro out ⟨k1, rfl, h1, h2, h3⟩
    refine S_ ?_
    refine hQ1 _ _ (S_ ?_);clear hQ1 Q1
    refine c_ (fun hc1 => ?_) fun hc1 => ?_
    ·
      refine n_ ?_
      refine wpM_regionK [4] rfl fun Q1 hQ1 => ?_
      refine S_ ?_
      refine call_fn (l := [(id, rdObj bs (q + 1 + 1)), (B + 1, .cells 3 (ints [0, 1, 2, 3, -1, 5, 1000000]))]) (first := []) (cap := []) (ps := [.ptr id 0, .sl 3 (B + 1) 0 7]) (num_ok id (B + 1) bs (q + 1 + 1) [0, 1, 2, 3, -1, 5, 1000000] 7 rfl (by omega) (by omega) (by omega) hbs (by omega) (by omega)) Tryz.call46 rfl rfl rfl G_ (by simp -implicitDefEqProofs (disch := omega) only [go_sem, ints, List.map_cons, List.map_nil]) ?_
      rintro out ⟨k2, rfl, h4⟩
      refine S_ ?_
      refine hQ1 _ _ (S_ ?_);clear hQ1 Q1
      refine wpM_le [(4, .ptr B 0)] [(B, .cells 27 (Ex.mk 1 k2 ⟨0, 0⟩ []).cs), (id, rdObj bs (q + 1 + 1 + 1))] T_ T_ T_ ?_
      refine wpM_ret ?_
      try refine S_ ?_
      first
      | refine hQ _ _ (ret0 [(id, some (rdObj bs (q + 1 + 1 + 1)))] rfl rfl rfl (by rw [Tryz.results78] <;> simp (maxSteps := 1000000) -implicitDefEqProofs (disch := omega) only [go_sem] <;> rfl) ⟨_, q + 1 + 1 + 1, ⟨Ex.mk 1 k2 ⟨0, 0⟩ [], ⟨by simp only [Ex.sz, Ex.szL]; omega, leaf_num h4 (d + 1)⟩, rfl⟩, by omega, by omega, rfl⟩ ?_ ?_ ?_ ?_) <;> (simp -implicitDefEqProofs (disch := omega) only [go_sem, rdObj, true_or, or_true]; done)
      | refine hQ _ _ (ret0 [(id, some (rdObj bs q'))] rfl rfl rfl (by rw [Tryz.results78] <;> simp (maxSteps := 1000000) -implicitDefEqProofs (disch := omega) only [go_sem] <;> rfl) ⟨_, q', ⟨Ex.mk 2 0 a [], ⟨by simp only [Ex.sz, Ex.szL]; omega, leaf_at hao (d + 1)⟩, rfl⟩, by omega, by omega, rfl⟩ ?_ ?_ ?_ ?_) <;> (simp -implicitDefEqProofs (disch := omega) only [go_sem, rdObj, true_or, or_true]; done)
      | refine hQ _ _ (ret0 [(id, some (rdObj bs q'))] rfl rfl rfl (by rw [Tryz.results78] <;> simp (maxSteps := 1000000) -implicitDefEqProofs (disch := omega) only [go_sem] <;> rfl) ⟨_, q', ⟨Ex.mk k5 0 ⟨0, 0⟩ l, ⟨by (have : Ex.szL l ≤ 2 * es d := (by rcases hr with h | h <;> rw [h] at hsz <;> omega)); simp only [Ex.sz]; omega, node_in h5 (by omega) hall⟩, rfl⟩, by omega, by omega, rfl⟩ ?_ ?_ ?_ ?_) <;> (simp -implicitDefEqProofs (disch := omega) only [go_sem, rdObj, true_or, or_true]; done)
    refine n_ ?_
    refine wpM_regionK [4] rfl fun Q1 hQ1 => ?_
    refine S_ ?_
    refine call_fn (l := [(id, rdObj bs (q + 1 + 1))]) (first := []) (cap := []) (ps := [.ptr id 0]) (l2Addr_ok id bs (q + 1 + 1) hbs (by omega) (by omega)) Tryz.call88 rfl rfl rfl G_ T_ ?_
    rintro out ⟨_, q', ⟨a, hao, rfl⟩, hqa, hqb, rfl⟩
    refine S_ ?_
    refine hQ1 _ _ (S_ ?_);clear hQ1 Q1
    refine wpM_le [(4, .ptr B 0)] [(B, .cells 27 (Ex.mk 2 0 a []).cs), (id, rdObj bs q')] T_ T_ T_ ?_
    refine wpM_ret ?_
    try refine S_ ?_
    first
    | refine hQ _ _ (ret0 [(id, some (rdObj bs (q + 1 + 1 + 1)))] rfl rfl rfl (by rw [Tryz.results78] <;> simp (maxSteps := 1000000) -implicitDefEqProofs (disch := omega) only [go_sem] <;> rfl) ⟨_, q + 1 + 1 + 1, ⟨Ex.mk 1 k2 ⟨0, 0⟩ [], ⟨by simp only [Ex.sz, Ex.szL]; omega, leaf_num h4 (d + 1)⟩, rfl⟩, by omega, by omega, rfl⟩ ?_ ?_ ?_ ?_) <;> (simp -implicitDefEqProofs (disch := omega) only [go_sem, rdObj, true_or, or_true]; done)
    | refine hQ _ _ (ret0 [(id, some (rdObj bs q'))] rfl rfl rfl (by rw [Tryz.results78] <;> simp (maxSteps := 1000000) -implicitDefEqProofs (disch := omega) only [go_sem] <;> rfl) ⟨_, q', ⟨Ex.mk 2 0 a [], ⟨by simp only [Ex.sz, Ex.szL]; omega, leaf_at hao (d + 1)⟩, rfl⟩, by omega, by omega, rfl⟩ ?_ ?_ ?_ ?_) <;> (simp -implicitDefEqProofs (disch := omega) only [go_sem, rdObj, true_or, or_true]; done)
    | refine hQ _ _ (ret0 [(id, some (rdObj bs q'))] rfl rfl rfl (by rw [Tryz.results78] <;> simp (maxSteps := 1000000) -implicitDefEqProofs (disch := omega) only [go_sem] <;> rfl) ⟨_, q', ⟨Ex.mk k5 0 ⟨0, 0⟩ l, ⟨by (have : Ex.szL l ≤ 2 * es d := (by rcases hr with h | h <;> rw [h] at hsz <;> omega)); simp only [Ex.sz]; omega, node_in h5 (by omega) hall⟩, rfl⟩, by omega, by omega, rfl⟩ ?_ ?_ ?_ ?_) <;> (simp -implicitDefEqProofs (disch := omega) only [go_sem, rdObj, true_or, or_true]; done)
  refine n_ ?_
  refine wpM_regionK [0,1,4,5] rfl fun Q1 hQ1 => ?_
  refine S_ ?_
  refine call_fn (l := [(id, rdObj bs (q + 1)), (B + 1, .cells 3 (ints [3, 3, 4, 5, 6, 6, 7, 8, 9, 10]))]) (first := []) (cap := []) (ps := [.ptr id 0, .sl 3 (B + 1) 0 10]) (num_ok id (B + 1) bs (q + 1) [3, 3, 4, 5, 6, 6, 7, 8, 9, 10] 10 rfl (by omega) (by omega) (by omega) hbs (by omega) (by omega)) Tryz.call46 rfl rfl rfl G_ (by simp -implicitDefEqProofs (disch := omega) only [go_sem, ints, List.map_cons, List.map_nil]) ?_
  rintro out ⟨k5, rfl, h5⟩
  refine S_ ?_
  refine hQ1 _ _ (S_ ?_);clear hQ1 Q1
  refine n_ ?_
  refine wpM_regionK [0,1,4,5,6] rfl fun Q1 hQ1 => ?_
  refine S_ ?_
  refine cp_ (l3Kids_ok k5) Tryz.call51 ?_
  refine hQ1 _ _ (S_ ?_);clear hQ1 Q1
  obtain ⟨n, hkn, hn1, hn2⟩ : ∃ n : Nat, kidsN k5 = (n : Int) ∧ 1 ≤ n ∧ n ≤ 2 := by
    simp only [List.mem_cons, List.not_mem_nil, or_false] at h5
    rcases h5 with rfl | rfl | rfl | rfl | rfl | rfl | rfl | rfl | rfl | rfl <;> first | exact ⟨2, rfl, by omega, by omega⟩ | exact ⟨1, rfl, by omega, by omega⟩
  rw [hkn]
  refine n_ ?_
  refine wpM_loopS (fun s r s' => (r = n ∧ s' = s) ∨ ∃ (M0 y : Nat) (l : List Ex) (q' : Int), 0 < l.length ∧ l.length + r = n ∧ s.M ≤ y ∧ y < M0 ∧ Ex.szL l ≤ l.length * es d ∧ l.all (formD (d + 1)) = true ∧ q + 2 ≤ q' ∧ q' ≤ q + 2 + (l.length : Int) * eb d ∧ s' = { s with env := setE 6 (.int .i64 (r : Nat)) s.env, l := (y, .cells 27 (exc l)) :: setl (B + 2) (.cells 27 [.int .i64 k5, .int .i64 0, .int .i64 0, .int .i64 0, .sl 27 y 0 l.length]) (setl id (rdObj bs q') s.l), M := M0 }) (n) ?_ ?_
  ·
    refine .of' _ _ (.inl ⟨rfl, rfl⟩) ?_ ?_ ?_ <;> exact L_
  rintro r s' (⟨rfl, rfl⟩ | ⟨M0, y, l, q', hl0, hlr, hy, hyM, hsz, hall, hqa, hqb, rfl⟩)
  ·
    try refine S_ ?_
    refine g_ [0,1,4,5,6,32] ?_
    refine c_ (fun hc2 => ?_) fun hc2 => ?_
    ·
      skip
      refine n_ ?_
      refine dr_ mixed [0,1,4,5,6] 2 2 [B + 2, id, B + 3, B + 4] [⟨[5],[],[],[],false⟩,⟨[35],[0],[],[],false⟩,⟨[0],[],[],[],false⟩,⟨[1],[],[],[],false⟩,⟨[38],[],[],[],false⟩,⟨[37,39],[1],[1],[],true⟩,⟨[40],[],[],[2],false⟩,⟨[36,41],[2],[],[3],false⟩,⟨[5],[],[],[],false⟩,⟨[42,43],[0],[0],[],false⟩] [0,1,2,3,4,5,6,7,8,9] [[],[0],[],[],[3],[2,3,4],[2,3,4,5],[0,1,2,3,4,5,6],[0,1,2,3,4,5,6,7],[0,1,2,3,4,5,6,7,8]] 4 (htbl := by simp; omega) (hnm := by simp) ?_
      intro O A K hO hA hK;simp only [atL_cons,atL_nil,Nat.reduceAdd,Nat.zero_add] at hO hA
      refine SO_ ?_
      refine loud_fn (first := []) (cap := []) (ps := [.ptr id 0, .int .i64 (dep - 1)]) (l := [(id, rdObj bs (q + 1 + 1))]) (ih (q + 1 + 1) (by omega) (by omega)) Tryz.call78 rfl rfl F_ (subG_spec T_) rfl ?_
      rintro out ⟨_, q', ⟨e, hes, rfl⟩, hqa, hqb, rfl⟩
      refine ⟨rfl, ?_⟩
      refine SO_ ?_
      refine hK _ (S_ ?_);clear hK K hO hA O A
      refine g_ [0,1,4,5,6] ?_
      have e1 : [PV.int .i64 e.kind, .int .i64 e.n, .int .i64 e.a.kind, .int .i64 e.a.at', .rows 27 (Ex.csL e.kids)] = exc [e] := by rw [← exc_one, Ex.cs_eq]
      rw [e1, show ((r : Int) - 1) = ((r - 1 : Nat) : Int) by omega]
      refine .of' _ _ ⟨r - 1, by omega, .inr ⟨_, B + 4, [e], q', by simp, by simp; omega, ?_, ?_, by simp [Ex.szL]; omega, by simp [hes.2], by omega, by simp; omega, rfl⟩⟩ ?_ ?_ ?_
      · first | omega | (simp -implicitDefEqProofs (disch := omega) only [go_sem]; done) | (simp -implicitDefEqProofs (disch := omega) only [go_sem]; omega)
      · first | omega | (simp -implicitDefEqProofs (disch := omega) only [go_sem]; done) | (simp -implicitDefEqProofs (disch := omega) only [go_sem]; omega)
      all_goals exact L_
    exfalso; omega
  dsimp only at hy
  have hr : l.length = 1 ∨ l.length = 2 := by omega
  have hqb2 : q' ≤ q + 2 + 2 * eb d := by rcases hr with h | h <;> rw [h] at hqb <;> omega
  try refine S_ ?_
  refine g_ [0,1,4,5,6,32] ?_
  refine c_ (fun hc2 => ?_) fun hc2 => ?_
  ·
    have hr1 : l.length = 1 := by omega
    have hqb3 : q' ≤ q + 2 + eb d := by rw [hr1] at hqb; omega
    refine n_ ?_
    refine dr_ mixed [0,1,4,5,6] 2 3 [B + 2, id, y, M0, M0 + 1] [⟨[5],[],[],[],false⟩,⟨[35],[0],[],[],false⟩,⟨[0],[],[],[],false⟩,⟨[1],[],[],[],false⟩,⟨[38],[],[],[],false⟩,⟨[37,39],[1],[1],[],true⟩,⟨[40],[],[],[3],false⟩,⟨[36,41],[2,3],[2],[4],false⟩,⟨[5],[],[],[],false⟩,⟨[42,43],[0],[0],[],false⟩] [0,1,2,3,4,5,6,7,8,9] [[],[0],[],[],[3],[2,3,4],[2,3,4,5],[0,1,2,3,4,5,6],[0,1,2,3,4,5,6,7],[0,1,2,3,4,5,6,7,8]] 5 (htbl := by simp; omega) (hnm := by simp) ?_
    intro O A K hO hA hK;simp only [atL_cons,atL_nil,Nat.reduceAdd,Nat.zero_add] at hO hA
    refine SO_ ?_
    refine loud_fn (first := []) (cap := []) (ps := [.ptr id 0, .int .i64 (dep - 1)]) (l := [(id, rdObj bs q')]) (ih q' (by omega) (by omega)) Tryz.call78 rfl rfl F_ (subG_spec T_) rfl ?_
    rintro out ⟨_, q2, ⟨e, hes, rfl⟩, hqc, hqd, rfl⟩
    refine ⟨rfl, ?_⟩
    refine SO_ ?_
    refine hK _ (S_ ?_);clear hK K hO hA O A
    refine g_ [0,1,4,5,6] ?_
    have e1 : exc l ++ [PV.int .i64 e.kind, .int .i64 e.n, .int .i64 e.a.kind, .int .i64 e.a.at', .rows 27 (Ex.csL e.kids)] = exc (l ++ [e]) := by rw [← exc_app, Ex.cs_eq e]
    rw [e1, show ((r : Int) - 1) = ((r - 1 : Nat) : Int) by omega]
    refine .of' _ _ ⟨r - 1, by omega, .inr ⟨_, M0 + 1, l ++ [e], q2, by simp, by simp; omega, ?_, ?_, by rw [Ex.szL_app, List.length_append, hr1]; rw [hr1] at hsz; simp; omega, by rw [List.all_append, hall]; simp [hes.2], by omega, by rw [List.length_append, hr1]; simp; omega, rfl⟩⟩ ?_ ?_ ?_
    · first | omega | (simp -implicitDefEqProofs (disch := omega) only [go_sem]; done) | (simp -implicitDefEqProofs (disch := omega) only [go_sem]; omega)
    · first | omega | (simp -implicitDefEqProofs (disch := omega) only [go_sem]; done) | (simp -implicitDefEqProofs (disch := omega) only [go_sem]; omega)
    all_goals exact L_
  refine n_ ?_
  have hr0 : r = 0 := by omega
  refine wpM_frz [y] [(27, y, 0, l.length, Ex.csL l)] (by intro q hq; simp at hq; subst hq; simp -implicitDefEqProofs (disch := omega) only [go_sem]) (by intro q hq; simp only [List.mem_cons, List.not_mem_nil, or_false] at hq; subst hq; exact ⟨by simp, rowsOf_exc (T := 27) T_⟩) ?_
  simp -implicitDefEqProofs (disch := omega) only [go_sem, rdObj]
  refine g_ [4] ?_
  refine wpM_ret ?_
  try refine S_ ?_
  first
  | refine hQ _ _ (ret0 [(id, some (rdObj bs (q + 1 + 1 + 1)))] rfl rfl rfl (by rw [Tryz.results78] <;> simp (maxSteps := 1000000) -implicitDefEqProofs (disch := omega) only [go_sem] <;> rfl) ⟨_, q + 1 + 1 + 1, ⟨Ex.mk 1 k2 ⟨0, 0⟩ [], ⟨by simp only [Ex.sz, Ex.szL]; omega, leaf_num h4 (d + 1)⟩, rfl⟩, by omega, by omega, rfl⟩ ?_ ?_ ?_ ?_) <;> (simp -implicitDefEqProofs (disch := omega) only [go_sem, rdObj, true_or, or_true]; done)
  | refine hQ _ _ (ret0 [(id, some (rdObj bs q'))] rfl rfl rfl (by rw [Tryz.results78] <;> simp (maxSteps := 1000000) -implicitDefEqProofs (disch := omega) only [go_sem] <;> rfl) ⟨_, q', ⟨Ex.mk 2 0 a [], ⟨by simp only [Ex.sz, Ex.szL]; omega, leaf_at hao (d + 1)⟩, rfl⟩, by omega, by omega, rfl⟩ ?_ ?_ ?_ ?_) <;> (simp -implicitDefEqProofs (disch := omega) only [go_sem, rdObj, true_or, or_true]; done)
  | refine hQ _ _ (ret0 [(id, some (rdObj bs q'))] rfl rfl rfl (by rw [Tryz.results78] <;> simp (maxSteps := 1000000) -implicitDefEqProofs (disch := omega) only [go_sem] <;> rfl) ⟨_, q', ⟨Ex.mk k5 0 ⟨0, 0⟩ l, ⟨by (have : Ex.szL l ≤ 2 * es d := (by rcases hr with h | h <;> rw [h] at hsz <;> omega)); simp only [Ex.sz]; omega, node_in h5 (by omega) hall⟩, rfl⟩, by omega, by omega, rfl⟩ ?_ ?_ ?_ ?_) <;> (simp -implicitDefEqProofs (disch := omega) only [go_sem, rdObj, true_or, or_true]; done)
theorem l3Expr_ok (id : Nat) (bs : List Nat) (hbs : Bs bs) (d : Nat) : ∀ (q dep : Int), 0 ≤ q → q + eb d ≤ 1000000000000 → dep ≤ (d : Int) + 1 → dep ≤ 1000000 → ExprD d id bs q dep := by
  induction d with
  | zero => intro q dep h1 h2 h3 h4; exact expr_leaf 0 id bs q dep hbs h1 h2 (by simp; omega)
  | succ d ih =>
    intro q dep h1 h2 h3 h4
    by_cases hd : dep ≤ 1
    · exact expr_leaf (d + 1) id bs q dep hbs h1 h2 (by simp [hd])
    · exact expr_node d id bs q dep hbs h1 h2 (by simp [hd]) h4 (fun q' g1 g2 => ih q' (dep - 1) g1 g2 (by omega) (by omega))
end Go.Proofs.YtmicbfojofcigaaGreat
namespace Go.Proofs.YtmicbfojofcigaaGreat
open Go Sg
set_option linter.unusedSectionVars false
variable [Glob]
set_option maxRecDepth 100000
set_option linter.unusedSimpArgs false
set_option linter.unusedVariables false
set_option maxHeartbeats 4000000
theorem l3Copy_ok : ∀ (N : Nat) (e : Ex), e.sz ≤ N → e.sz ≤ 1099511627776 → PureF Tryz.prog 24 [.agg e.cs] [.agg e.cs] := by
  intro N
  induction N with
  | zero => intro e h; have := e.sz_pos; omega
  | succ N ih =>
    intro e hN hs
    have hlen := e.kids_len
    refine pureF_of Tryz.func24 rfl Tryz.ntmps24 (by simp) T_ ?_
    intro f0 B Q hQ
    refine g_ [1,2] ?_
    refine g_ [1,2,3] ?_
    refine g_ [1,2,3,4] ?_
    refine n_ ?_
    refine wpM_loopS (fun s r s' => (r = e.kids.length ∧ s' = s) ∨ ∃ (i0 M0 y : Nat), 0 < i0 ∧ i0 + r = e.kids.length ∧ s.M ≤ y ∧ y < M0 ∧ s' = { s with env := setE 4 (.int .i64 (i0 : Nat)) s.env, l := (y, .cells 27 (exc (e.kids.take i0))) :: setl (B + 2) (.cells 27 [.int .i64 e.kind, .int .i64 e.n, .int .i64 e.a.kind, .int .i64 e.a.at', .sl 27 y 0 i0]) s.l, M := M0 }) (e.kids.length) ?_ ?_
    ·
      refine .of' _ _ (.inl ⟨rfl, rfl⟩) ?_ ?_ ?_ <;> exact L_
    rintro r s' (⟨rfl, rfl⟩ | ⟨i0, M0, y, hi0, hir, hy, hyM, rfl⟩)
    ·
      try refine S_ ?_
      refine g_ [1,2,3,4,16] ?_
      refine c_ (fun hc0 => ?_) fun hc0 => ?_
      ·
        have hks := Ex.kid_sz (e := e) (k := 0) (by omega)
        refine n_ ?_
        refine dr_ mixed [1,2,3,4] 2 2 [B + 2, B, B + 3, B + 4] [⟨[3],[],[],[],false⟩,⟨[19],[0],[],[],false⟩,⟨[1],[],[],[],false⟩,⟨[21],[1],[],[],false⟩,⟨[4],[],[],[],false⟩,⟨[22,23],[],[],[],false⟩,⟨[24],[],[],[],false⟩,⟨[25],[],[],[],true⟩,⟨[26],[],[],[2],false⟩,⟨[20,27],[2],[],[3],false⟩,⟨[3],[],[],[],false⟩,⟨[28,29],[0],[0],[],false⟩] [0,1,2,3,4,5,6,7,8,9,10,11] [[],[0],[],[2],[],[2,3,4],[2,3,4,5],[2,3,4,5,6],[2,3,4,5,6,7],[0,1,2,3,4,5,6,7,8],[0,1,2,3,4,5,6,7,8,9],[0,1,2,3,4,5,6,7,8,9,10]] 4 ?_
        intro O A K hO hA hK;simp only [atL_cons,atL_nil,Nat.reduceAdd,Nat.zero_add] at hO hA
        simp -implicitDefEqProofs (disch := omega) only [go_sem, exc_len, hO, hA]
        refine loud_p (ih (e.kids.getD 0 default) (by omega) (by omega)) Tryz.call24 rfl rfl (by first | rfl | (simp -implicitDefEqProofs (disch := omega) only [go_sem] <;> rfl)) rfl ?_
        simp -implicitDefEqProofs (disch := omega) only [go_sem, exc_len, hO, hA]
        refine hK _ (S_ ?_);clear hK K hO hA O A
        refine g_ [1,2,3,4] ?_
        have e1 : [PV.int .i64 (e.kids.getD 0 default).kind, .int .i64 (e.kids.getD 0 default).n, .int .i64 (e.kids.getD 0 default).a.kind, .int .i64 (e.kids.getD 0 default).a.at', .rows 27 (Ex.csL (e.kids.getD 0 default).kids)] = exc (e.kids.take 1) := by
          have this0 : e.kids.getD 0 default = e.kids[0] := by simp [List.getD, show 0 < e.kids.length by omega]
          rw [List.take_succ_eq_append_getElem (by omega), List.take_zero, List.nil_append, ← exc_one, ← this0, Ex.cs_eq]
        rw [e1]
        refine .of' _ _ ⟨e.kids.length - 1, by omega, .inr ⟨1, _, B + 4, by omega, by omega, ?_, ?_, rfl⟩⟩ ?_ ?_ ?_
        · first | omega | (simp -implicitDefEqProofs (disch := omega) only [go_sem]; done) | (simp -implicitDefEqProofs (disch := omega) only [go_sem]; omega)
        · first | omega | (simp -implicitDefEqProofs (disch := omega) only [go_sem]; done) | (simp -implicitDefEqProofs (disch := omega) only [go_sem]; omega)
        all_goals exact L_
      refine n_ ?_
      have hk0 : e.kids = [] := List.eq_nil_of_length_eq_zero (by omega)
      refine wpM_le [(2, .ptr (B + 1) 0), (3, .ptr (B + 2) 0)] [(B + 2, .cells 27 e.cs), (B + 1, .cells 27 [.int .i64 0, .int .i64 0, .int .i64 0, .int .i64 0, .emp])] (by simp -implicitDefEqProofs (disch := omega) only [go_sem, hk0]) (by simp -implicitDefEqProofs (disch := omega) only [go_sem, hk0]) T_ ?_
      refine g_ [2] ?_
      refine e_ Tryz.results24 ?_
      first
      | exact True.intro
      | rfl
    dsimp only at hy
    try refine S_ ?_
    refine g_ [1,2,3,4,16] ?_
    refine c_ (fun hc0 => ?_) fun hc0 => ?_
    ·
      have hks := Ex.kid_sz (e := e) (k := i0) (by omega)
      have htl : (e.kids.take i0).length = i0 := by simp; omega
      refine n_ ?_
      refine dr_ mixed [1,2,3,4] 2 3 [B + 2, B, y, M0, M0 + 1] [⟨[3],[],[],[],false⟩,⟨[19],[0],[],[],false⟩,⟨[1],[],[],[],false⟩,⟨[21],[1],[],[],false⟩,⟨[4],[],[],[],false⟩,⟨[22,23],[],[],[],false⟩,⟨[24],[],[],[],false⟩,⟨[25],[],[],[],true⟩,⟨[26],[],[],[3],false⟩,⟨[20,27],[2,3],[2],[4],false⟩,⟨[3],[],[],[],false⟩,⟨[28,29],[0],[0],[],false⟩] [0,1,2,3,4,5,6,7,8,9,10,11] [[],[0],[],[2],[],[2,3,4],[2,3,4,5],[2,3,4,5,6],[2,3,4,5,6,7],[0,1,2,3,4,5,6,7,8],[0,1,2,3,4,5,6,7,8,9],[0,1,2,3,4,5,6,7,8,9,10]] 5 (htbl := by simp; omega) (hnm := by simp) ?_
      intro O A K hO hA hK;simp only [atL_cons,atL_nil,Nat.reduceAdd,Nat.zero_add] at hO hA
      simp -implicitDefEqProofs (disch := omega) only [go_sem, htl, hO, hA]
      refine loud_p (ih (e.kids.getD i0 default) (by omega) (by omega)) Tryz.call24 rfl rfl (by first | rfl | (simp -implicitDefEqProofs (disch := omega) only [go_sem] <;> rfl)) rfl ?_
      simp -implicitDefEqProofs (disch := omega) only [go_sem, htl, hO, hA]
      refine hK _ (S_ ?_);clear hK K hO hA O A
      refine g_ [1,2,3,4] ?_
      have e1 : exc (e.kids.take i0) ++ [.int .i64 (e.kids.getD i0 default).kind, .int .i64 (e.kids.getD i0 default).n, .int .i64 (e.kids.getD i0 default).a.kind, .int .i64 (e.kids.getD i0 default).a.at', .rows 27 (Ex.csL (e.kids.getD i0 default).kids)] = exc (e.kids.take (i0 + 1)) := by
        rw [List.take_succ_eq_append_getElem (by omega), ← exc_app, Ex.cs_eq]
        have : e.kids.getD i0 default = e.kids[i0] := by simp [List.getD, show i0 < e.kids.length by omega]
        rw [this]
      rw [e1]
      refine .of' _ _ ⟨r - 1, by omega, .inr ⟨i0 + 1, _, M0 + 1, by omega, by omega, ?_, ?_, rfl⟩⟩ ?_ ?_ ?_
      · first | omega | (simp -implicitDefEqProofs (disch := omega) only [go_sem]; done) | (simp -implicitDefEqProofs (disch := omega) only [go_sem]; omega)
      · first | omega | (simp -implicitDefEqProofs (disch := omega) only [go_sem]; done) | (simp -implicitDefEqProofs (disch := omega) only [go_sem]; omega)
      all_goals exact L_
    refine n_ ?_
    have hie : i0 = e.kids.length := by omega
    have htl : e.kids.take i0 = e.kids := by rw [hie, List.take_of_length_le (Nat.le_refl _)]
    rw [htl]
    refine wpM_frz [y] [(27, y, 0, i0, Ex.csL e.kids)] (by intro q hq; simp at hq; subst hq; simp -implicitDefEqProofs (disch := omega) only [go_sem]) (by intro q hq; simp only [List.mem_cons, List.not_mem_nil, or_false] at hq; subst hq; rw [hie]; exact ⟨by simp, rowsOf_exc (T := 27) T_⟩) ?_
    simp -implicitDefEqProofs (disch := omega) only [go_sem]
    refine g_ [2] ?_
    refine e_ Tryz.results24 ?_
    first
    | exact True.intro
    | rfl
theorem l3Some_ok (id : Nat) (bs : List Nat) (q : Int) (hbs : Bs bs) (hq0 : 0 ≤ q) (hq : q + 153 ≤ 1000000000000) : RdF 43 [] id bs q 153 (fun v => ∃ e : Ex, e.sz ≤ 31 ∧ v = .agg e.cs) := by
  refine callF_of' Tryz.func43 rfl Tryz.ntmps43 (by simp) ?_
  intro f0 B ns Q hB hns hQ
  have hid : id < B := hB id (by simp [hasKey, lk])
  obtain rfl : ns = [] := List.eq_nil_of_length_eq_zero hns
  have b4 : eb 4 = 124 := rfl
  have b2 : eb 2 = 28 := rfl
  have s4 : es 4 = 31 := rfl
  have s2 : es 2 = 7 := rfl
  refine g_ [0,2] ?_
  refine n_ ?_
  refine wpM_regionK [0,2,3] rfl fun Q1 hQ1 => ?_
  refine S_ ?_
  refine call_fn (l := [(id, rdObj bs q)]) (first := []) (cap := []) (ps := [.ptr id 0, .int .i64 4]) (pick_ok id bs q 4 hbs (by omega) (by omega) (by omega)) Tryz.call44 rfl rfl rfl G_ T_ ?_
  rintro out ⟨k1, rfl, h1, h2, h3⟩
  refine S_ ?_
  refine call_fn (l := [(id, rdObj bs (q + 1))]) (first := []) (cap := []) (ps := [.ptr id 0, .int .i64 (1 + k1)]) (l3Expr_ok id bs hbs 4 (q + 1) (1 + k1) (by omega) (by omega) (by omega) (by omega)) Tryz.call78 rfl rfl rfl G_ T_ ?_
  rintro out ⟨_, q', ⟨e, hes, rfl⟩, hqa, hqb, rfl⟩
  refine S_ ?_
  refine hQ1 _ _ (S_ ?_);clear hQ1 Q1
  refine n_ ?_
  refine wpM_regionK [0,2,3,11] rfl fun Q1 hQ1 => ?_
  refine S_ ?_
  refine cp_ (exprOk_ok e (by omega)) Tryz.call9 ?_
  refine hQ1 _ _ (S_ ?_);clear hQ1 Q1
  refine c_ (fun hc0 => ?_) fun hc0 => ?_
  ·
    refine n_ ?_
    refine wpM_regionK [2] rfl fun Q1 hQ1 => ?_
    refine S_ ?_
    refine call_fn (l := [(id, rdObj bs q')]) (first := []) (cap := []) (ps := [.ptr id 0, .int .i64 2]) (l3Expr_ok id bs hbs 2 q' 2 (by omega) (by omega) (by omega) (by omega)) Tryz.call78 rfl rfl rfl G_ T_ ?_
    rintro out ⟨_, q2, ⟨e2, hes2, rfl⟩, hqc, hqd, rfl⟩
    refine S_ ?_
    refine hQ1 _ _ (S_ ?_);clear hQ1 Q1
    refine wpM_ret ?_
    try refine S_ ?_
    first
    | refine hQ _ _ (ret0 [(id, some (rdObj bs q2))] rfl rfl rfl (by rw [Tryz.results43] <;> simp (maxSteps := 1000000) -implicitDefEqProofs (disch := omega) only [go_sem] <;> rfl) ⟨_, q2, ⟨e2, by omega, rfl⟩, by omega, by omega, rfl⟩ ?_ ?_ ?_ ?_) <;> (simp -implicitDefEqProofs (disch := omega) only [go_sem, rdObj, true_or, or_true]; done)
    | refine hQ _ _ (ret0 [(id, some (rdObj bs q'))] rfl rfl rfl (by rw [Tryz.results43] <;> simp (maxSteps := 1000000) -implicitDefEqProofs (disch := omega) only [go_sem] <;> rfl) ⟨_, q', ⟨e, by omega, rfl⟩, by omega, by omega, rfl⟩ ?_ ?_ ?_ ?_) <;> (simp -implicitDefEqProofs (disch := omega) only [go_sem, rdObj, true_or, or_true]; done)
  refine g_ [2] ?_
  refine wpM_ret ?_
  try refine S_ ?_
  first
  | refine hQ _ _ (ret0 [(id, some (rdObj bs q2))] rfl rfl rfl (by rw [Tryz.results43] <;> simp (maxSteps := 1000000) -implicitDefEqProofs (disch := omega) only [go_sem] <;> rfl) ⟨_, q2, ⟨e2, by omega, rfl⟩, by omega, by omega, rfl⟩ ?_ ?_ ?_ ?_) <;> (simp -implicitDefEqProofs (disch := omega) only [go_sem, rdObj, true_or, or_true]; done)
  | refine hQ _ _ (ret0 [(id, some (rdObj bs q'))] rfl rfl rfl (by rw [Tryz.results43] <;> simp (maxSteps := 1000000) -implicitDefEqProofs (disch := omega) only [go_sem] <;> rfl) ⟨_, q', ⟨e, by omega, rfl⟩, by omega, by omega, rfl⟩ ?_ ?_ ?_ ?_) <;> (simp -implicitDefEqProofs (disch := omega) only [go_sem, rdObj, true_or, or_true]; done)
theorem l3Bent_ok (id : Nat) (bs : List Nat) (q : Int) (hbs : Bs bs) (hq0 : 0 ≤ q) (hq : q + 158 ≤ 1000000000000) : RdF 28 [] id bs q 158 (fun v => ∃ e : Ex, e.sz ≤ 1000 ∧ v = .agg e.cs) := by
  refine callF_of' Tryz.func28 rfl Tryz.ntmps28 (by simp) ?_
  intro f0 B ns Q hB hns hQ
  have hid : id < B := hB id (by simp [hasKey, lk])
  obtain rfl : ns = [] := List.eq_nil_of_length_eq_zero hns
  refine g_ [0,2] ?_
  refine n_ ?_
  refine wpM_regionK [0,2,3] rfl fun Q1 hQ1 => ?_
  refine S_ ?_
  refine call_fn (l := [(id, rdObj bs q)]) (first := []) (cap := []) (ps := [.ptr id 0]) (l3Some_ok id bs q hbs (by omega) (by omega)) Tryz.call43 rfl rfl rfl G_ T_ ?_
  rintro out ⟨_, q', ⟨e, hes, rfl⟩, hqa, hqb, rfl⟩
  refine S_ ?_
  refine hQ1 _ _ (S_ ?_);clear hQ1 Q1
  refine n_ ?_
  refine wpM_regionK [0,2,3,9] rfl fun Q1 hQ1 => ?_
  refine S_ ?_
  refine call_fn (l := [(id, rdObj bs q')]) (first := []) (cap := []) (ps := [.ptr id 0, .int .i64 60]) (pick_ok id bs q' 60 hbs (by omega) (by omega) (by omega)) Tryz.call44 rfl rfl rfl G_ T_ ?_
  rintro out ⟨k1, rfl, h1, h2, h3⟩
  refine S_ ?_
  refine hQ1 _ _ (S_ ?_);clear hQ1 Q1
  refine g_ [0,2,3,9,10] ?_
  refine c_ (fun hc0 => ?_) fun hc0 => ?_
  ·
    refine wpM_regionK [2,3] rfl fun Q1 hQ1 => ?_
    refine S_ ?_
    refine call_fn (l := [(id, rdObj bs (q' + 1)), (B + 2, .cells 3 (ints [0, 11, 3, 10]))]) (first := []) (cap := []) (ps := [.ptr id 0, .sl 3 (B + 2) 0 4]) (num_ok id (B + 2) bs (q' + 1) [0, 11, 3, 10] 4 rfl (by omega) (by omega) (by omega) hbs (by omega) (by omega)) Tryz.call46 rfl rfl rfl G_ (by simp -implicitDefEqProofs (disch := omega) only [go_sem, ints, List.map_cons, List.map_nil]) ?_
    rintro out ⟨k2, rfl, h4⟩
    refine S_ ?_
    refine hQ1 _ _ (S_ ?_);clear hQ1 Q1
    refine g_ [2] ?_
    refine wpM_ret ?_
    try refine S_ ?_
    first
    | refine hQ _ _ (ret0 [(id, some (rdObj bs (q' + 1 + 1)))] rfl rfl rfl (by rw [Tryz.results28] <;> simp (maxSteps := 1000000) -implicitDefEqProofs (disch := omega) only [go_sem] <;> rfl) ⟨_, q' + 1 + 1, ⟨Ex.mk k2 e.n e.a e.kids, by rw [Ex.sz_eq] at hes; simp only [Ex.sz]; omega, by first | rfl | (rw [Ex.cs_eq]; done)⟩, by omega, by omega, rfl⟩ ?_ ?_ ?_ ?_) <;> (simp -implicitDefEqProofs (disch := omega) only [go_sem, rdObj, true_or, or_true]; done)
    | refine hQ _ _ (ret0 [(id, some (rdObj bs (q' + 1 + 1)))] rfl rfl rfl (by rw [Tryz.results28] <;> simp (maxSteps := 1000000) -implicitDefEqProofs (disch := omega) only [go_sem] <;> rfl) ⟨_, q' + 1 + 1, ⟨Ex.mk e.kind k3 e.a e.kids, by rw [Ex.sz_eq] at hes; simp only [Ex.sz]; omega, by first | rfl | (rw [Ex.cs_eq]; done)⟩, by omega, by omega, rfl⟩ ?_ ?_ ?_ ?_) <;> (simp -implicitDefEqProofs (disch := omega) only [go_sem, rdObj, true_or, or_true]; done)
    | refine hQ _ _ (ret0 [(id, some (rdObj bs (q2)))] rfl rfl rfl (by rw [Tryz.results28] <;> simp (maxSteps := 1000000) -implicitDefEqProofs (disch := omega) only [go_sem] <;> rfl) ⟨_, q2, ⟨Ex.mk e.kind e.n a e.kids, by rw [Ex.sz_eq] at hes; simp only [Ex.sz]; omega, by first | rfl | (rw [Ex.cs_eq]; done)⟩, by omega, by omega, rfl⟩ ?_ ?_ ?_ ?_) <;> (simp -implicitDefEqProofs (disch := omega) only [go_sem, rdObj, true_or, or_true]; done)
    | refine hQ _ _ (ret0 [(id, some (rdObj bs (q' + 1)))] rfl rfl rfl (by rw [Tryz.results28] <;> simp (maxSteps := 1000000) -implicitDefEqProofs (disch := omega) only [go_sem] <;> rfl) ⟨_, q' + 1, ⟨e0, by omega, by first | rfl | (rw [Ex.cs_eq]; done)⟩, by omega, by omega, rfl⟩ ?_ ?_ ?_ ?_) <;> (simp -implicitDefEqProofs (disch := omega) only [go_sem, rdObj, true_or, or_true]; done)
    | refine hQ _ _ (ret0 [(id, some (rdObj bs (q' + 1)))] rfl rfl rfl (by rw [Tryz.results28] <;> simp (maxSteps := 1000000) -implicitDefEqProofs (disch := omega) only [go_sem] <;> rfl) ⟨_, q' + 1, ⟨e0, by (have h4 : i1 = 4 := by omega); subst h4; omega, by first | rfl | (rw [Ex.cs_eq]; done)⟩, by omega, by omega, rfl⟩ ?_ ?_ ?_ ?_) <;> (simp -implicitDefEqProofs (disch := omega) only [go_sem, rdObj, true_or, or_true]; done)
    | refine hQ _ _ (ret0 [(id, some (rdObj bs (q' + 1)))] rfl rfl rfl (by rw [Tryz.results28] <;> simp (maxSteps := 1000000) -implicitDefEqProofs (disch := omega) only [go_sem] <;> rfl) ⟨_, q' + 1, ⟨e, by omega, by first | rfl | (rw [Ex.cs_eq]; done)⟩, by omega, by omega, rfl⟩ ?_ ?_ ?_ ?_) <;> (simp -implicitDefEqProofs (disch := omega) only [go_sem, rdObj, true_or, or_true]; done)
  refine g_ [0,2,3,9,16] ?_
  refine c_ (fun hc1 => ?_) fun hc1 => ?_
  ·
    refine wpM_regionK [2,3] rfl fun Q1 hQ1 => ?_
    refine S_ ?_
    refine call_fn (l := [(id, rdObj bs (q' + 1)), (B + 2, .cells 3 (ints [1, 1000001]))]) (first := []) (cap := []) (ps := [.ptr id 0, .sl 3 (B + 2) 0 2]) (num_ok id (B + 2) bs (q' + 1) [1, 1000001] 2 rfl (by omega) (by omega) (by omega) hbs (by omega) (by omega)) Tryz.call46 rfl rfl rfl G_ (by simp -implicitDefEqProofs (disch := omega) only [go_sem, ints, List.map_cons, List.map_nil]) ?_
    rintro out ⟨k3, rfl, h4⟩
    refine S_ ?_
    refine hQ1 _ _ (S_ ?_);clear hQ1 Q1
    refine g_ [2] ?_
    refine wpM_ret ?_
    try refine S_ ?_
    first
    | refine hQ _ _ (ret0 [(id, some (rdObj bs (q' + 1 + 1)))] rfl rfl rfl (by rw [Tryz.results28] <;> simp (maxSteps := 1000000) -implicitDefEqProofs (disch := omega) only [go_sem] <;> rfl) ⟨_, q' + 1 + 1, ⟨Ex.mk k2 e.n e.a e.kids, by rw [Ex.sz_eq] at hes; simp only [Ex.sz]; omega, by first | rfl | (rw [Ex.cs_eq]; done)⟩, by omega, by omega, rfl⟩ ?_ ?_ ?_ ?_) <;> (simp -implicitDefEqProofs (disch := omega) only [go_sem, rdObj, true_or, or_true]; done)
    | refine hQ _ _ (ret0 [(id, some (rdObj bs (q' + 1 + 1)))] rfl rfl rfl (by rw [Tryz.results28] <;> simp (maxSteps := 1000000) -implicitDefEqProofs (disch := omega) only [go_sem] <;> rfl) ⟨_, q' + 1 + 1, ⟨Ex.mk e.kind k3 e.a e.kids, by rw [Ex.sz_eq] at hes; simp only [Ex.sz]; omega, by first | rfl | (rw [Ex.cs_eq]; done)⟩, by omega, by omega, rfl⟩ ?_ ?_ ?_ ?_) <;> (simp -implicitDefEqProofs (disch := omega) only [go_sem, rdObj, true_or, or_true]; done)
    | refine hQ _ _ (ret0 [(id, some (rdObj bs (q2)))] rfl rfl rfl (by rw [Tryz.results28] <;> simp (maxSteps := 1000000) -implicitDefEqProofs (disch := omega) only [go_sem] <;> rfl) ⟨_, q2, ⟨Ex.mk e.kind e.n a e.kids, by rw [Ex.sz_eq] at hes; simp only [Ex.sz]; omega, by first | rfl | (rw [Ex.cs_eq]; done)⟩, by omega, by omega, rfl⟩ ?_ ?_ ?_ ?_) <;> (simp -implicitDefEqProofs (disch := omega) only [go_sem, rdObj, true_or, or_true]; done)
    | refine hQ _ _ (ret0 [(id, some (rdObj bs (q' + 1)))] rfl rfl rfl (by rw [Tryz.results28] <;> simp (maxSteps := 1000000) -implicitDefEqProofs (disch := omega) only [go_sem] <;> rfl) ⟨_, q' + 1, ⟨e0, by omega, by first | rfl | (rw [Ex.cs_eq]; done)⟩, by omega, by omega, rfl⟩ ?_ ?_ ?_ ?_) <;> (simp -implicitDefEqProofs (disch := omega) only [go_sem, rdObj, true_or, or_true]; done)
    | refine hQ _ _ (ret0 [(id, some (rdObj bs (q' + 1)))] rfl rfl rfl (by rw [Tryz.results28] <;> simp (maxSteps := 1000000) -implicitDefEqProofs (disch := omega) only [go_sem] <;> rfl) ⟨_, q' + 1, ⟨e0, by (have h4 : i1 = 4 := by omega); subst h4; omega, by first | rfl | (rw [Ex.cs_eq]; done)⟩, by omega, by omega, rfl⟩ ?_ ?_ ?_ ?_) <;> (simp -implicitDefEqProofs (disch := omega) only [go_sem, rdObj, true_or, or_true]; done)
    | refine hQ _ _ (ret0 [(id, some (rdObj bs (q' + 1)))] rfl rfl rfl (by rw [Tryz.results28] <;> simp (maxSteps := 1000000) -implicitDefEqProofs (disch := omega) only [go_sem] <;> rfl) ⟨_, q' + 1, ⟨e, by omega, by first | rfl | (rw [Ex.cs_eq]; done)⟩, by omega, by omega, rfl⟩ ?_ ?_ ?_ ?_) <;> (simp -implicitDefEqProofs (disch := omega) only [go_sem, rdObj, true_or, or_true]; done)
  refine g_ [0,2,3,9,22] ?_
  refine c_ (fun hc2 => ?_) fun hc2 => ?_
  ·
    refine wpM_regionK [2,3] rfl fun Q1 hQ1 => ?_
    refine S_ ?_
    refine call_fn (l := [(id, rdObj bs (q' + 1))]) (first := []) (cap := []) (ps := [.ptr id 0]) (l2AddrBent_ok id bs (q' + 1) hbs (by omega) (by omega)) Tryz.call54 rfl rfl rfl G_ T_ ?_
    rintro out ⟨_, q2, ⟨a, rfl⟩, hqc, hqd, rfl⟩
    refine S_ ?_
    refine hQ1 _ _ (S_ ?_);clear hQ1 Q1
    refine g_ [2] ?_
    refine wpM_ret ?_
    try refine S_ ?_
    first
    | refine hQ _ _ (ret0 [(id, some (rdObj bs (q' + 1 + 1)))] rfl rfl rfl (by rw [Tryz.results28] <;> simp (maxSteps := 1000000) -implicitDefEqProofs (disch := omega) only [go_sem] <;> rfl) ⟨_, q' + 1 + 1, ⟨Ex.mk k2 e.n e.a e.kids, by rw [Ex.sz_eq] at hes; simp only [Ex.sz]; omega, by first | rfl | (rw [Ex.cs_eq]; done)⟩, by omega, by omega, rfl⟩ ?_ ?_ ?_ ?_) <;> (simp -implicitDefEqProofs (disch := omega) only [go_sem, rdObj, true_or, or_true]; done)
    | refine hQ _ _ (ret0 [(id, some (rdObj bs (q' + 1 + 1)))] rfl rfl rfl (by rw [Tryz.results28] <;> simp (maxSteps := 1000000) -implicitDefEqProofs (disch := omega) only [go_sem] <;> rfl) ⟨_, q' + 1 + 1, ⟨Ex.mk e.kind k3 e.a e.kids, by rw [Ex.sz_eq] at hes; simp only [Ex.sz]; omega, by first | rfl | (rw [Ex.cs_eq]; done)⟩, by omega, by omega, rfl⟩ ?_ ?_ ?_ ?_) <;> (simp -implicitDefEqProofs (disch := omega) only [go_sem, rdObj, true_or, or_true]; done)
    | refine hQ _ _ (ret0 [(id, some (rdObj bs (q2)))] rfl rfl rfl (by rw [Tryz.results28] <;> simp (maxSteps := 1000000) -implicitDefEqProofs (disch := omega) only [go_sem] <;> rfl) ⟨_, q2, ⟨Ex.mk e.kind e.n a e.kids, by rw [Ex.sz_eq] at hes; simp only [Ex.sz]; omega, by first | rfl | (rw [Ex.cs_eq]; done)⟩, by omega, by omega, rfl⟩ ?_ ?_ ?_ ?_) <;> (simp -implicitDefEqProofs (disch := omega) only [go_sem, rdObj, true_or, or_true]; done)
    | refine hQ _ _ (ret0 [(id, some (rdObj bs (q' + 1)))] rfl rfl rfl (by rw [Tryz.results28] <;> simp (maxSteps := 1000000) -implicitDefEqProofs (disch := omega) only [go_sem] <;> rfl) ⟨_, q' + 1, ⟨e0, by omega, by first | rfl | (rw [Ex.cs_eq]; done)⟩, by omega, by omega, rfl⟩ ?_ ?_ ?_ ?_) <;> (simp -implicitDefEqProofs (disch := omega) only [go_sem, rdObj, true_or, or_true]; done)
    | refine hQ _ _ (ret0 [(id, some (rdObj bs (q' + 1)))] rfl rfl rfl (by rw [Tryz.results28] <;> simp (maxSteps := 1000000) -implicitDefEqProofs (disch := omega) only [go_sem] <;> rfl) ⟨_, q' + 1, ⟨e0, by (have h4 : i1 = 4 := by omega); subst h4; omega, by first | rfl | (rw [Ex.cs_eq]; done)⟩, by omega, by omega, rfl⟩ ?_ ?_ ?_ ?_) <;> (simp -implicitDefEqProofs (disch := omega) only [go_sem, rdObj, true_or, or_true]; done)
    | refine hQ _ _ (ret0 [(id, some (rdObj bs (q' + 1)))] rfl rfl rfl (by rw [Tryz.results28] <;> simp (maxSteps := 1000000) -implicitDefEqProofs (disch := omega) only [go_sem] <;> rfl) ⟨_, q' + 1, ⟨e, by omega, by first | rfl | (rw [Ex.cs_eq]; done)⟩, by omega, by omega, rfl⟩ ?_ ?_ ?_ ?_) <;> (simp -implicitDefEqProofs (disch := omega) only [go_sem, rdObj, true_or, or_true]; done)
  refine g_ [2,3,9,27] ?_
  refine c_ (fun hc3 => ?_) fun hc3 => ?_
  ·
    refine g_ [2,3,4] ?_
    refine n_ ?_
    refine wpM_loopS (fun s n s' => ∃ (i0 M0 : Nat) (e0 : Ex), i0 + n = 6 ∧ s.M ≤ M0 ∧ (e0.sz ≤ 31 + i0) ∧ s' = { s with env := setE 4 (.int .i64 (i0 : Nat)) s.env, l := setl (B + 1) (.cells 27 e0.cs) s.l, M := M0 }) (6) ?_ ?_
    ·
      refine .of' _ _ ⟨0, _, e, by omega, Nat.le_refl _, by omega, rfl⟩ ?_ ?_ ?_ <;> exact L_
    rintro n0 s' ⟨i0, M0, e0, hi0, hM0, hv0, rfl⟩
    try dsimp only at hM0
    try refine S_ ?_
    refine g_ [2,3,4,30] ?_
    refine c_ (fun hc4 => ?_) fun hc4 => ?_
    ·
      have hl0 : i0 < 6 := by omega
      refine g_ [2,3,4] ?_
      refine wpM_frz [M0] [(27, M0, 0, 1, Ex.csL [e0])] (by intro q hq; simp at hq; subst hq; simp -implicitDefEqProofs (disch := omega) only [go_sem]) (by intro q hq; simp only [List.mem_cons, List.not_mem_nil, or_false] at hq; subst hq; exact ⟨by simp, rowsOf_exc (T := 27) (l := [e0]) (by rw [← exc_one, Ex.cs_eq]; simp -implicitDefEqProofs (disch := omega) only [go_sem])⟩) ?_
      simp -implicitDefEqProofs (disch := omega) only [go_sem, rdObj]
      refine g_ [2,3,4] ?_
      refine .of' _ _ ⟨n0 - 1, by omega, i0 + 1, _, Ex.mk 10 0 ⟨0, 0⟩ [e0], by omega, M_, ?_, rfl⟩ L_ L_ L_
      simp only [Ex.sz, Ex.szL]; omega
    refine g_ [2] ?_
    refine wpM_ret ?_
    try refine S_ ?_
    first
    | refine hQ _ _ (ret0 [(id, some (rdObj bs (q' + 1 + 1)))] rfl rfl rfl (by rw [Tryz.results28] <;> simp (maxSteps := 1000000) -implicitDefEqProofs (disch := omega) only [go_sem] <;> rfl) ⟨_, q' + 1 + 1, ⟨Ex.mk k2 e.n e.a e.kids, by rw [Ex.sz_eq] at hes; simp only [Ex.sz]; omega, by first | rfl | (rw [Ex.cs_eq]; done)⟩, by omega, by omega, rfl⟩ ?_ ?_ ?_ ?_) <;> (simp -implicitDefEqProofs (disch := omega) only [go_sem, rdObj, true_or, or_true]; done)
    | refine hQ _ _ (ret0 [(id, some (rdObj bs (q' + 1 + 1)))] rfl rfl rfl (by rw [Tryz.results28] <;> simp (maxSteps := 1000000) -implicitDefEqProofs (disch := omega) only [go_sem] <;> rfl) ⟨_, q' + 1 + 1, ⟨Ex.mk e.kind k3 e.a e.kids, by rw [Ex.sz_eq] at hes; simp only [Ex.sz]; omega, by first | rfl | (rw [Ex.cs_eq]; done)⟩, by omega, by omega, rfl⟩ ?_ ?_ ?_ ?_) <;> (simp -implicitDefEqProofs (disch := omega) only [go_sem, rdObj, true_or, or_true]; done)
    | refine hQ _ _ (ret0 [(id, some (rdObj bs (q2)))] rfl rfl rfl (by rw [Tryz.results28] <;> simp (maxSteps := 1000000) -implicitDefEqProofs (disch := omega) only [go_sem] <;> rfl) ⟨_, q2, ⟨Ex.mk e.kind e.n a e.kids, by rw [Ex.sz_eq] at hes; simp only [Ex.sz]; omega, by first | rfl | (rw [Ex.cs_eq]; done)⟩, by omega, by omega, rfl⟩ ?_ ?_ ?_ ?_) <;> (simp -implicitDefEqProofs (disch := omega) only [go_sem, rdObj, true_or, or_true]; done)
    | refine hQ _ _ (ret0 [(id, some (rdObj bs (q' + 1)))] rfl rfl rfl (by rw [Tryz.results28] <;> simp (maxSteps := 1000000) -implicitDefEqProofs (disch := omega) only [go_sem] <;> rfl) ⟨_, q' + 1, ⟨e0, by omega, by first | rfl | (rw [Ex.cs_eq]; done)⟩, by omega, by omega, rfl⟩ ?_ ?_ ?_ ?_) <;> (simp -implicitDefEqProofs (disch := omega) only [go_sem, rdObj, true_or, or_true]; done)
    | refine hQ _ _ (ret0 [(id, some (rdObj bs (q' + 1)))] rfl rfl rfl (by rw [Tryz.results28] <;> simp (maxSteps := 1000000) -implicitDefEqProofs (disch := omega) only [go_sem] <;> rfl) ⟨_, q' + 1, ⟨e0, by (have h4 : i1 = 4 := by omega); subst h4; omega, by first | rfl | (rw [Ex.cs_eq]; done)⟩, by omega, by omega, rfl⟩ ?_ ?_ ?_ ?_) <;> (simp -implicitDefEqProofs (disch := omega) only [go_sem, rdObj, true_or, or_true]; done)
    | refine hQ _ _ (ret0 [(id, some (rdObj bs (q' + 1)))] rfl rfl rfl (by rw [Tryz.results28] <;> simp (maxSteps := 1000000) -implicitDefEqProofs (disch := omega) only [go_sem] <;> rfl) ⟨_, q' + 1, ⟨e, by omega, by first | rfl | (rw [Ex.cs_eq]; done)⟩, by omega, by omega, rfl⟩ ?_ ?_ ?_ ?_) <;> (simp -implicitDefEqProofs (disch := omega) only [go_sem, rdObj, true_or, or_true]; done)
  refine g_ [2,3,36] ?_
  refine c_ (fun hc5 => ?_) fun hc5 => ?_
  ·
    refine g_ [2,3,5] ?_
    refine n_ ?_
    refine wpM_loopS (fun s n s' => ∃ (i1 M1 : Nat) (e0 : Ex), i1 + n = 4 ∧ s.M ≤ M1 ∧ (e0.sz + 1 ≤ 32 * 2 ^ i1) ∧ s' = { s with env := setE 5 (.int .i64 (i1 : Nat)) s.env, l := setl (B + 1) (.cells 27 e0.cs) s.l, M := M1 }) (4) ?_ ?_
    ·
      refine .of' _ _ ⟨0, _, e, by omega, Nat.le_refl _, by simp; omega, rfl⟩ ?_ ?_ ?_ <;> exact L_
    rintro n1 s' ⟨i1, M1, e0, hi1, hM1, hv1, rfl⟩
    try dsimp only at hM1
    try refine S_ ?_
    refine g_ [2,3,5,39] ?_
    refine c_ (fun hc6 => ?_) fun hc6 => ?_
    ·
      have hl1 : i1 < 4 := by omega
      have hp2 : 2 ^ i1 ≤ 8 := by
        have : i1 = 0 ∨ i1 = 1 ∨ i1 = 2 ∨ i1 = 3 := by omega
        rcases this with rfl | rfl | rfl | rfl <;> simp
      have hsz : e0.sz ≤ 1000 := by omega
      refine n_ ?_
      refine dr_ mixed [2,3,5] 1 1 [B + 1, M1] [⟨[3],[0],[],[],false⟩,⟨[3],[0],[],[],false⟩,⟨[43],[],[],[],true⟩,⟨[42,44],[],[],[1],false⟩,⟨[45],[],[],[],false⟩,⟨[3,46],[0],[0],[],false⟩] [0,1,2,3,4,5] [[],[],[1],[0,1,2],[0,1,2,3],[0,1,2,3,4]] 2 (htbl := by simp; omega) (hnm := by simp) ?_
      intro O A K hO hA hK;simp only [atL_cons,atL_nil,Nat.reduceAdd,Nat.zero_add] at hO hA
      refine SO_ ?_
      refine lp_ (l3Copy_ok e0.sz e0 (Nat.le_refl _) (by omega)) Tryz.call24 ?_
      refine hK _ (S_ ?_);clear hK K hO hA O A
      refine wpM_frz [M1] [(27, M1, 0, 2, Ex.csL [e0, e0])] (by intro q hq; simp at hq; subst hq; simp -implicitDefEqProofs (disch := omega) only [go_sem]) (by intro q hq; simp only [List.mem_cons, List.not_mem_nil, or_false] at hq; subst hq; exact ⟨by simp, rowsOf_exc (T := 27) (l := [e0, e0]) (by rw [show [e0, e0] = [e0] ++ [e0] from rfl, ← exc_app, ← exc_one, Ex.cs_eq]; simp -implicitDefEqProofs (disch := omega) only [go_sem])⟩) ?_
      simp -implicitDefEqProofs (disch := omega) only [go_sem, rdObj]
      refine g_ [2,3,5] ?_
      refine .of' _ _ ⟨n1 - 1, by omega, i1 + 1, _, Ex.mk 3 0 ⟨0, 0⟩ [e0, e0], by omega, M_, ?_, rfl⟩ L_ L_ L_
      simp only [Ex.sz, Ex.szL, Nat.pow_succ]; omega
    refine g_ [2] ?_
    refine wpM_ret ?_
    try refine S_ ?_
    first
    | refine hQ _ _ (ret0 [(id, some (rdObj bs (q' + 1 + 1)))] rfl rfl rfl (by rw [Tryz.results28] <;> simp (maxSteps := 1000000) -implicitDefEqProofs (disch := omega) only [go_sem] <;> rfl) ⟨_, q' + 1 + 1, ⟨Ex.mk k2 e.n e.a e.kids, by rw [Ex.sz_eq] at hes; simp only [Ex.sz]; omega, by first | rfl | (rw [Ex.cs_eq]; done)⟩, by omega, by omega, rfl⟩ ?_ ?_ ?_ ?_) <;> (simp -implicitDefEqProofs (disch := omega) only [go_sem, rdObj, true_or, or_true]; done)
    | refine hQ _ _ (ret0 [(id, some (rdObj bs (q' + 1 + 1)))] rfl rfl rfl (by rw [Tryz.results28] <;> simp (maxSteps := 1000000) -implicitDefEqProofs (disch := omega) only [go_sem] <;> rfl) ⟨_, q' + 1 + 1, ⟨Ex.mk e.kind k3 e.a e.kids, by rw [Ex.sz_eq] at hes; simp only [Ex.sz]; omega, by first | rfl | (rw [Ex.cs_eq]; done)⟩, by omega, by omega, rfl⟩ ?_ ?_ ?_ ?_) <;> (simp -implicitDefEqProofs (disch := omega) only [go_sem, rdObj, true_or, or_true]; done)
    | refine hQ _ _ (ret0 [(id, some (rdObj bs (q2)))] rfl rfl rfl (by rw [Tryz.results28] <;> simp (maxSteps := 1000000) -implicitDefEqProofs (disch := omega) only [go_sem] <;> rfl) ⟨_, q2, ⟨Ex.mk e.kind e.n a e.kids, by rw [Ex.sz_eq] at hes; simp only [Ex.sz]; omega, by first | rfl | (rw [Ex.cs_eq]; done)⟩, by omega, by omega, rfl⟩ ?_ ?_ ?_ ?_) <;> (simp -implicitDefEqProofs (disch := omega) only [go_sem, rdObj, true_or, or_true]; done)
    | refine hQ _ _ (ret0 [(id, some (rdObj bs (q' + 1)))] rfl rfl rfl (by rw [Tryz.results28] <;> simp (maxSteps := 1000000) -implicitDefEqProofs (disch := omega) only [go_sem] <;> rfl) ⟨_, q' + 1, ⟨e0, by omega, by first | rfl | (rw [Ex.cs_eq]; done)⟩, by omega, by omega, rfl⟩ ?_ ?_ ?_ ?_) <;> (simp -implicitDefEqProofs (disch := omega) only [go_sem, rdObj, true_or, or_true]; done)
    | refine hQ _ _ (ret0 [(id, some (rdObj bs (q' + 1)))] rfl rfl rfl (by rw [Tryz.results28] <;> simp (maxSteps := 1000000) -implicitDefEqProofs (disch := omega) only [go_sem] <;> rfl) ⟨_, q' + 1, ⟨e0, by (have h4 : i1 = 4 := by omega); subst h4; omega, by first | rfl | (rw [Ex.cs_eq]; done)⟩, by omega, by omega, rfl⟩ ?_ ?_ ?_ ?_) <;> (simp -implicitDefEqProofs (disch := omega) only [go_sem, rdObj, true_or, or_true]; done)
    | refine hQ _ _ (ret0 [(id, some (rdObj bs (q' + 1)))] rfl rfl rfl (by rw [Tryz.results28] <;> simp (maxSteps := 1000000) -implicitDefEqProofs (disch := omega) only [go_sem] <;> rfl) ⟨_, q' + 1, ⟨e, by omega, by first | rfl | (rw [Ex.cs_eq]; done)⟩, by omega, by omega, rfl⟩ ?_ ?_ ?_ ?_) <;> (simp -implicitDefEqProofs (disch := omega) only [go_sem, rdObj, true_or, or_true]; done)
  refine g_ [2] ?_
  refine wpM_ret ?_
  try refine S_ ?_
  first
  | refine hQ _ _ (ret0 [(id, some (rdObj bs (q' + 1 + 1)))] rfl rfl rfl (by rw [Tryz.results28] <;> simp (maxSteps := 1000000) -implicitDefEqProofs (disch := omega) only [go_sem] <;> rfl) ⟨_, q' + 1 + 1, ⟨Ex.mk k2 e.n e.a e.kids, by rw [Ex.sz_eq] at hes; simp only [Ex.sz]; omega, by first | rfl | (rw [Ex.cs_eq]; done)⟩, by omega, by omega, rfl⟩ ?_ ?_ ?_ ?_) <;> (simp -implicitDefEqProofs (disch := omega) only [go_sem, rdObj, true_or, or_true]; done)
  | refine hQ _ _ (ret0 [(id, some (rdObj bs (q' + 1 + 1)))] rfl rfl rfl (by rw [Tryz.results28] <;> simp (maxSteps := 1000000) -implicitDefEqProofs (disch := omega) only [go_sem] <;> rfl) ⟨_, q' + 1 + 1, ⟨Ex.mk e.kind k3 e.a e.kids, by rw [Ex.sz_eq] at hes; simp only [Ex.sz]; omega, by first | rfl | (rw [Ex.cs_eq]; done)⟩, by omega, by omega, rfl⟩ ?_ ?_ ?_ ?_) <;> (simp -implicitDefEqProofs (disch := omega) only [go_sem, rdObj, true_or, or_true]; done)
  | refine hQ _ _ (ret0 [(id, some (rdObj bs (q2)))] rfl rfl rfl (by rw [Tryz.results28] <;> simp (maxSteps := 1000000) -implicitDefEqProofs (disch := omega) only [go_sem] <;> rfl) ⟨_, q2, ⟨Ex.mk e.kind e.n a e.kids, by rw [Ex.sz_eq] at hes; simp only [Ex.sz]; omega, by first | rfl | (rw [Ex.cs_eq]; done)⟩, by omega, by omega, rfl⟩ ?_ ?_ ?_ ?_) <;> (simp -implicitDefEqProofs (disch := omega) only [go_sem, rdObj, true_or, or_true]; done)
  | refine hQ _ _ (ret0 [(id, some (rdObj bs (q' + 1)))] rfl rfl rfl (by rw [Tryz.results28] <;> simp (maxSteps := 1000000) -implicitDefEqProofs (disch := omega) only [go_sem] <;> rfl) ⟨_, q' + 1, ⟨e0, by omega, by first | rfl | (rw [Ex.cs_eq]; done)⟩, by omega, by omega, rfl⟩ ?_ ?_ ?_ ?_) <;> (simp -implicitDefEqProofs (disch := omega) only [go_sem, rdObj, true_or, or_true]; done)
  | refine hQ _ _ (ret0 [(id, some (rdObj bs (q' + 1)))] rfl rfl rfl (by rw [Tryz.results28] <;> simp (maxSteps := 1000000) -implicitDefEqProofs (disch := omega) only [go_sem] <;> rfl) ⟨_, q' + 1, ⟨e0, by (have h4 : i1 = 4 := by omega); subst h4; omega, by first | rfl | (rw [Ex.cs_eq]; done)⟩, by omega, by omega, rfl⟩ ?_ ?_ ?_ ?_) <;> (simp -implicitDefEqProofs (disch := omega) only [go_sem, rdObj, true_or, or_true]; done)
  | refine hQ _ _ (ret0 [(id, some (rdObj bs (q' + 1)))] rfl rfl rfl (by rw [Tryz.results28] <;> simp (maxSteps := 1000000) -implicitDefEqProofs (disch := omega) only [go_sem] <;> rfl) ⟨_, q' + 1, ⟨e, by omega, by first | rfl | (rw [Ex.cs_eq]; done)⟩, by omega, by omega, rfl⟩ ?_ ?_ ?_ ?_) <;> (simp -implicitDefEqProofs (disch := omega) only [go_sem, rdObj, true_or, or_true]; done)
end Go.Proofs.YtmicbfojofcigaaGreat
namespace Go.Proofs.YtmicbfojofcigaaGreat
open Go Sg
set_option linter.unusedSectionVars false
variable [Glob]
set_option maxRecDepth 100000
set_option linter.unusedSimpArgs false
set_option linter.unusedVariables false
set_option maxHeartbeats 4000000
def smc (l : List Sm) : List PV := (Sm.csL l).flatten
@[go_sem] theorem smc_len (l : List Sm) : (smc l).length = l.length * 10 := by
  induction l with
  | nil => rfl
  | cons e l ih => simp only [smc, Sm.csL, List.flatten_cons, List.length_append, Sm.cs_eq, List.length_cons, List.length_nil] at ih ⊢; omega
theorem smc_app (l : List Sm) (e : Sm) : smc l ++ e.cs = smc (l ++ [e]) := by
  simp [smc, Sm.csL_map]
theorem smc_one (e : Sm) : e.cs = smc [e] := by simp [smc, Sm.csL]
theorem smcs_idsL (p : Nat → Prop) (e : Sm) : PV.idsL p e.cs = True := by rw [Sm.cs_eq]; simp [PV.idsL, PV.ids]
@[go_sem] theorem smc_ids (p : Nat → Prop) (l : List Sm) : PV.idsL p (smc l) = True := by
  induction l with
  | nil => simp [smc, Sm.csL, PV.idsL]
  | cons e l ih => simp only [smc, Sm.csL, List.flatten_cons] at ih ⊢; rw [idsL_app, ih, smcs_idsL]; simp
@[go_sem] theorem smc_ren (p : Nat → Nat) (l : List Sm) : PV.renL p (smc l) = smc l := by
  induction l with
  | nil => simp [smc, Sm.csL, PV.renL]
  | cons e l ih =>
    simp only [smc, Sm.csL, List.flatten_cons] at ih ⊢; rw [renL_app, ih]
    congr 1; rw [Sm.cs_eq]; simp [PV.renL, PV.ren]
@[go_sem] theorem smc_sub (θ : TypeId → Nat → Nat → Nat → Option PV) (l : List Sm) : PV.subL θ (smc l) = smc l := by
  induction l with
  | nil => simp [smc, Sm.csL, PV.subL]
  | cons e l ih =>
    simp only [smc, Sm.csL, List.flatten_cons] at ih ⊢; rw [subL_app, ih]
    congr 1; rw [Sm.cs_eq]; simp [PV.subL, PV.sub]
theorem rowsOf_smc {f : Nat → Option AObj} {id n : Nat} {T : TypeId} {l : List Sm} (h : f id = some (.cells T (smc l))) (hn : l.length = n) : RowsOf Tryz.prog f 45 id 0 n (Sm.csL l) := by
  subst hn
  refine ⟨by rw [cellsOf45]; omega, by rw [Sm.csL_len], ?_, T, _, h, ?_, ?_⟩
  · intro c hc
    rw [Sm.csL_map, List.mem_map] at hc
    obtain ⟨x, _, rfl⟩ := hc
    rw [cellsOf45, Sm.cs_eq]; exact ⟨rfl, rfl⟩
  · rw [cellsOf45, smc_len]; omega
  · rw [cellsOf45, List.drop_zero, List.take_of_length_le (by rw [smc_len]; omega)]; rfl
theorem Sm.szL_app (l : List Sm) (e : Sm) : Sm.szL (l ++ [e]) = Sm.szL l + e.sz := by
  induction l with
  | nil => simp [Sm.szL]
  | cons x l ih => simp only [List.cons_append, Sm.szL, ih]; omega
@[go_sem] theorem Sm.mk_kind (k : Int) (a : AD) (e : Ex) (th el : List Sm) : (Sm.mk k a e th el).kind = k := rfl
@[go_sem] theorem Sm.mk_to (k : Int) (a : AD) (e : Ex) (th el : List Sm) : (Sm.mk k a e th el).to' = a := rfl
@[go_sem] theorem Sm.mk_e (k : Int) (a : AD) (e : Ex) (th el : List Sm) : (Sm.mk k a e th el).e = e := rfl
@[go_sem] theorem Sm.mk_th (k : Int) (a : AD) (e : Ex) (th el : List Sm) : (Sm.mk k a e th el).th = th := rfl
@[go_sem] theorem Sm.mk_el (k : Int) (a : AD) (e : Ex) (th el : List Sm) : (Sm.mk k a e th el).el = el := rfl
@[go_sem] theorem Sm.csL_nil : Sm.csL [] = [] := rfl
@[go_sem high] theorem repd5 (z : List PV) : rep 5 z = z ++ (z ++ (z ++ (z ++ (z)))) := by simp [rep, List.replicate_succ]
@[go_sem] theorem rdObj_sub (θ : TypeId → Nat → Nat → Nat → Option PV) (bs : List Nat) (q : Int) : subObj θ (rdObj bs q) = rdObj bs q := by simp [rdObj, subObj, PV.subL, PV.sub]
theorem l2To_ok (id : Nat) (bs : List Nat) (q : Int) (hbs : Bs bs) (hq0 : 0 ≤ q) (hq : q + 2 ≤ 1000000000000) : RdF 107 [] id bs q 2 (fun v => ∃ a : AD, (a.ok && a.kind != 1) = true ∧ v = .agg a.cs) := by
  refine callF_of' Tryz.func107 rfl Tryz.ntmps107 (by simp) ?_
  intro f0 B ns Q hB hns hQ
  have hid : id < B := hB id (by simp [hasKey, lk])
  obtain rfl : ns = [] := List.eq_nil_of_length_eq_zero hns
  refine g_ [0,2] ?_
  refine n_ ?_
  refine wpM_regionK [2] rfl fun Q1 hQ1 => ?_
  refine S_ ?_
  refine call_fn (l := [(id, rdObj bs q)]) (first := []) (cap := []) (ps := [.ptr id 0, .int .i64 2]) (pick_ok id bs q 2 hbs (by omega) (by omega) (by omega)) Tryz.call44 rfl rfl rfl G_ T_ ?_
  rintro out ⟨k1, rfl, h1, h2, h3⟩
  refine S_ ?_
  refine call_fn (l := [(id, rdObj bs (q + 1))]) (first := []) (cap := []) (ps := [.ptr id 0, .int .i64 3]) (pick_ok id bs (q + 1) 3 hbs (by omega) (by omega) (by omega)) Tryz.call44 rfl rfl rfl G_ T_ ?_
  rintro out ⟨k2, rfl, h4, h5, h6⟩
  refine S_ ?_
  refine hQ1 _ _ (S_ ?_);clear hQ1 Q1
  refine wpM_ret ?_
  try refine S_ ?_
  refine hQ _ _ (ret0 [(id, some (rdObj bs (q + 1 + 1)))] rfl rfl rfl (by rw [Tryz.results107] <;> simp (maxSteps := 1000000) -implicitDefEqProofs (disch := omega) only [go_sem] <;> rfl) ⟨_, q + 1 + 1, ⟨⟨2 + k1, k2⟩, by (have := h2 (by omega)); (have := h5 (by omega)); simp only [AD.ok, Bool.and_eq_true, decide_eq_true_eq, bne_iff_ne]; omega, rfl⟩, by omega, by omega, rfl⟩ ?_ ?_ ?_ ?_)
  all_goals simp -implicitDefEqProofs (disch := omega) only [go_sem, rdObj, true_or, or_true]
theorem form_lift {d : Nat} : ∀ e : Ex, formD d e = true → formD (d + 1) e = true := by
  induction d with
  | zero => intro e h; cases h
  | succ d ih =>
    intro e h
    rw [formD] at h ⊢
    split at h
    · cases h
    · rename_i h1
      rw [if_neg h1]
      split at h
      · cases h
      · rename_i h2
        rw [if_neg h2]
        split at h
        · cases h
        · rename_i h3
          rw [if_neg h3]
          rw [List.all_eq_true] at h ⊢
          exact fun x hx => ih x (h x hx)
theorem flat_ok3 {e : Ex} (h : formD 3 e = true) (hs : e.sz ≤ 14) : e.ok = true := by
  have h2 := manyD_le 6 e
  simp only [Ex.ok, form_lift e (form_lift e (form_lift e h)), Bool.true_and, decide_eq_true_eq]
  omega
theorem set_plain {a : AD} {e : Ex} (ha : (a.ok && a.kind != 1) = true) : (Sm.mk 1 a e [] []).plain = true := by
  simp only [Bool.and_eq_true] at ha
  simp [Sm.plain, Sm.mk_kind, Sm.mk_to, Sm.mk_th, Sm.mk_el, ha.1, ha.2]
theorem count_okS {k1 k2 k3 : Int} {l : List Sm} (h1 : 0 ≤ k1 ∧ k1 < 6) (h2 : k2 ∈ [1, 3, 5, 9, (200 : Int)]) (h3 : k3 ∈ [1, 1, 2, (0 : Int)]) (hl : ∀ x ∈ l, (x.to'.ok && x.to'.kind != 1) = true ∧ formD 3 x.e = true ∧ x.e.sz ≤ 3 ∧ x = Sm.mk 1 x.to' x.e [] []) (hn : l.length ≤ 1) : okS [Sm.mk 3 ⟨0, 0⟩ (Ex.mk 6 0 ⟨0, 0⟩ [Ex.mk 2 0 ⟨3, k1⟩ [], Ex.mk 1 k2 ⟨0, 0⟩ []]) (Sm.mk 1 ⟨3, k1⟩ (Ex.mk 3 0 ⟨0, 0⟩ [Ex.mk 2 0 ⟨3, k1⟩ [], Ex.mk 1 k3 ⟨0, 0⟩ []]) [] [] :: l) []] = true := by
  have hc2 : cut k2 = k2 := by
    unfold cut; simp only [List.mem_cons, List.not_mem_nil, or_false] at h2; omega
  have hc3 : cut k3 = k3 := by
    unfold cut; simp only [List.mem_cons, List.not_mem_nil, or_false] at h3; omega
  have ha : AD.ok ⟨3, k1⟩ = true := by simp only [AD.ok, Bool.and_eq_true, decide_eq_true_eq]; omega
  have e1 : ∀ k : Int, k = 6 ∨ k = 3 → ∀ n, cut n = n → formD 3 (Ex.mk k 0 ⟨0, 0⟩ [Ex.mk 2 0 ⟨3, k1⟩ [], Ex.mk 1 n ⟨0, 0⟩ []]) = true := by
    rintro k (rfl | rfl) n hn <;> simp [formD, kidsN, Ex.mk_kind, Ex.mk_kids, Ex.mk_n, Ex.mk_a, hn, ha]
  have o1 : (Ex.mk 6 0 ⟨0, 0⟩ [Ex.mk 2 0 ⟨3, k1⟩ [], Ex.mk 1 k2 ⟨0, 0⟩ []]).ok = true := flat_ok3 (e1 6 (.inl rfl) _ hc2) (by simp [Ex.sz, Ex.szL])
  have o2 : (Ex.mk 3 0 ⟨0, 0⟩ [Ex.mk 2 0 ⟨3, k1⟩ [], Ex.mk 1 k3 ⟨0, 0⟩ []]).ok = true := flat_ok3 (e1 3 (.inr rfl) _ hc3) (by simp [Ex.sz, Ex.szL])
  have p1 : (Sm.mk 1 ⟨3, k1⟩ (Ex.mk 3 0 ⟨0, 0⟩ [Ex.mk 2 0 ⟨3, k1⟩ [], Ex.mk 1 k3 ⟨0, 0⟩ []]) [] []).plain = true := set_plain (by rw [ha]; rfl)
  have hL : formS 3 l = true := by
    rw [formS, List.all_eq_true]
    intro x hx
    obtain ⟨a1, a2, a3, a4⟩ := hl x hx
    rw [a4]
    simp only [Sm.mk_e, Sm.mk_th, Sm.mk_el, set_plain a1, flat_ok3 a2 (by omega), formS, List.all_nil, Bool.and_self]
  have hm : manyS 3 l ≤ 1 := by
    match l, hn, hl with
    | [], _, _ => simp [manyS]
    | [x], _, hl =>
      obtain ⟨_, _, _, a4⟩ := hl x (by simp)
      rw [a4]
      simp [manyS, Sm.mk_th, Sm.mk_el]
  have f1 : formS 4 [Sm.mk 3 ⟨0, 0⟩ (Ex.mk 6 0 ⟨0, 0⟩ [Ex.mk 2 0 ⟨3, k1⟩ [], Ex.mk 1 k2 ⟨0, 0⟩ []]) (Sm.mk 1 ⟨3, k1⟩ (Ex.mk 3 0 ⟨0, 0⟩ [Ex.mk 2 0 ⟨3, k1⟩ [], Ex.mk 1 k3 ⟨0, 0⟩ []]) [] [] :: l) []] = true := by
    have hL2 : formS 3 (Sm.mk 1 ⟨3, k1⟩ (Ex.mk 3 0 ⟨0, 0⟩ [Ex.mk 2 0 ⟨3, k1⟩ [], Ex.mk 1 k3 ⟨0, 0⟩ []]) [] [] :: l) = true := by
      have f0 : formS 2 ([] : List Sm) = true := rfl
      rw [formS] at hL
      rw [formS, List.all_cons, hL]
      simp only [Sm.mk_e, Sm.mk_th, Sm.mk_el, p1, o2, f0, Bool.and_self]
    rw [formS, List.all_cons, List.all_nil]
    simp only [Sm.mk_e, Sm.mk_th, Sm.mk_el, o1, hL2, Sm.plain, Sm.mk_kind, Sm.mk_to]
    simp [formS]
  have m1 : manyS 4 [Sm.mk 3 ⟨0, 0⟩ (Ex.mk 6 0 ⟨0, 0⟩ [Ex.mk 2 0 ⟨3, k1⟩ [], Ex.mk 1 k2 ⟨0, 0⟩ []]) (Sm.mk 1 ⟨3, k1⟩ (Ex.mk 3 0 ⟨0, 0⟩ [Ex.mk 2 0 ⟨3, k1⟩ [], Ex.mk 1 k3 ⟨0, 0⟩ []]) [] [] :: l) []] ≤ 16 := by
    simp only [manyS] at hm ⊢
    simp [Sm.mk_th, Sm.mk_el] at hm ⊢
    omega
  simp only [okS, f1, m1, decide_true, Bool.and_self]
theorem l4Count_ok (id : Nat) (bs : List Nat) (q : Int) (hbs : Bs bs) (hq0 : 0 ≤ q) (hq : q + 40 ≤ 1000000000000) : RdF 94 [] id bs q 40 (fun v => ∃ s : Sm, (s.sz ≤ 60 ∧ okS [s] = true) ∧ v = .agg s.cs) := by
  refine callF_of' Tryz.func94 rfl Tryz.ntmps94 (by simp) ?_
  intro f0 B ns Q hB hns hQ
  have hid : id < B := hB id (by simp [hasKey, lk])
  obtain rfl : ns = [] := List.eq_nil_of_length_eq_zero hns
  have b1 : eb 1 = 12 := rfl
  have s1 : es 1 = 3 := rfl
  refine g_ [0,2] ?_
  refine n_ ?_
  refine wpM_regionK [0,2,3] rfl fun Q1 hQ1 => ?_
  refine S_ ?_
  refine call_fn (l := [(id, rdObj bs q)]) (first := []) (cap := []) (ps := [.ptr id 0, .int .i64 3]) (pick_ok id bs q 3 hbs (by omega) (by omega) (by omega)) Tryz.call44 rfl rfl rfl G_ T_ ?_
  rintro out ⟨k1, rfl, h1, h2, h3⟩
  refine S_ ?_
  refine hQ1 _ _ (S_ ?_);clear hQ1 Q1
  refine g_ [0,2,3,4] ?_
  refine wpM_le [(0, .ptr id 0), (2, .ptr B 0), (3, .ptr (B + 1) 0), (4, .ptr (B + 2) 0)] [(B + 2, .cells 27 (Ex.mk 2 0 ⟨3, k1⟩ []).cs), (B + 1, .cells 24 (AD.mk 3 k1).cs), (B, .cells 45 (Sm.mk 0 ⟨0, 0⟩ (Ex.mk 0 0 ⟨0, 0⟩ []) [] []).cs), (id, rdObj bs (q + 1))] T_ T_ T_ ?_
  refine n_ ?_
  refine dr_ mixed [0,2,3,4,5] 3 2 [B + 2, id, B + 3, B + 4, B + 5] [⟨[4],[0],[],[],false⟩,⟨[0],[],[],[],false⟩,⟨[],[],[],[2],false⟩,⟨[14,15],[1,2],[1],[],true⟩,⟨[16],[],[],[],false⟩,⟨[13,17],[],[],[3],false⟩,⟨[18],[],[],[],false⟩,⟨[],[],[],[4],false⟩,⟨[5,19],[4],[4],[],false⟩] [0,1,2,7,3,4,5,6,8] [[],[],[],[1,2],[1,2,3],[0,1,2,3,4],[0,1,2,3,4,5],[],[0,1,2,3,4,5,6,7]] 5 (htbl := by simp; omega) (hnm := by simp) ?_
  intro O A K hO hA hK;simp only [atL_cons,atL_nil,Nat.reduceAdd,Nat.zero_add] at hO hA
  refine SO_ ?_
  refine loud_fn (first := []) (cap := []) (ps := [.ptr id 0, .sl 3 (B + 3) 0 5]) (l := [(id, rdObj bs (q + 1)), (B + 3, .cells 3 (ints [1, 3, 5, 9, 200]))]) (num_ok id (B + 3) bs (q + 1) [1, 3, 5, 9, 200] 5 rfl (by omega) (by omega) (by omega) hbs (by omega) (by omega)) Tryz.call46 rfl rfl F_ (subG_spec (by simp -implicitDefEqProofs (disch := omega) only [go_sem, ints, List.map_cons, List.map_nil])) rfl ?_
  rintro out ⟨k2, rfl, h4⟩
  refine ⟨rfl, ?_⟩
  refine SO_ ?_
  refine hK _ (S_ ?_);clear hK K hO hA O A
  refine wpM_le [(0, .ptr id 0), (2, .ptr B 0), (3, .ptr (B + 1) 0), (4, .ptr (B + 2) 0), (5, .ptr (B + 5) 0)] [(B + 4, .cells 27 (exc [Ex.mk 2 0 ⟨3, k1⟩ [], Ex.mk 1 k2 ⟨0, 0⟩ []])), (B + 5, .cells 27 [.int .i64 6, .int .i64 0, .int .i64 0, .int .i64 0, .sl 27 (B + 4) 0 2]), (B + 2, .cells 27 (Ex.mk 2 0 ⟨3, k1⟩ []).cs), (B + 1, .cells 24 (AD.mk 3 k1).cs), (B, .cells 45 (Sm.mk 0 ⟨0, 0⟩ (Ex.mk 0 0 ⟨0, 0⟩ []) [] []).cs), (id, rdObj bs (q + 1 + 1))] T_ (by simp -implicitDefEqProofs (disch := omega) only [go_sem, exc, Ex.csL, List.flatten_cons, List.flatten_nil, List.cons_append, List.nil_append]) T_ ?_
  refine wpM_frz [B + 4] [(27, B + 4, 0, 2, Ex.csL [Ex.mk 2 0 ⟨3, k1⟩ [], Ex.mk 1 k2 ⟨0, 0⟩ []])] (by intro q hq; simp at hq; subst hq; simp -implicitDefEqProofs (disch := omega) only [go_sem]) (by intro q hq; simp only [List.mem_cons, List.not_mem_nil, or_false] at hq; subst hq; exact ⟨by simp, rowsOf_exc (T := 27) (l := [Ex.mk 2 0 ⟨3, k1⟩ [], Ex.mk 1 k2 ⟨0, 0⟩ []]) T_⟩) ?_
  simp -implicitDefEqProofs (disch := omega) only [go_sem]
  refine n_ ?_
  refine dr_ mixed [0,2,3,5,6] 3 2 [B + 2, id, B + 6, B + 7, B + 8] [⟨[4],[0],[],[],false⟩,⟨[0],[],[],[],false⟩,⟨[],[],[],[2],false⟩,⟨[21,22],[1,2],[1],[],true⟩,⟨[23],[],[],[],false⟩,⟨[20,24],[],[],[3],false⟩,⟨[25],[],[],[],false⟩,⟨[],[],[],[4],false⟩,⟨[6,26],[4],[4],[],false⟩] [0,1,2,7,3,4,5,6,8] [[],[],[],[1,2],[1,2,3],[0,1,2,3,4],[0,1,2,3,4,5],[],[0,1,2,3,4,5,6,7]] 5 (htbl := by simp; omega) (hnm := by simp) ?_
  intro O A K hO hA hK;simp only [atL_cons,atL_nil,Nat.reduceAdd,Nat.zero_add] at hO hA
  refine SO_ ?_
  refine loud_fn (first := []) (cap := []) (ps := [.ptr id 0, .sl 3 (B + 6) 0 4]) (l := [(id, rdObj bs (q + 1 + 1)), (B + 6, .cells 3 (ints [1, 1, 2, 0]))]) (num_ok id (B + 6) bs (q + 1 + 1) [1, 1, 2, 0] 4 rfl (by omega) (by omega) (by omega) hbs (by omega) (by omega)) Tryz.call46 rfl rfl F_ (subG_spec (by simp -implicitDefEqProofs (disch := omega) only [go_sem, ints, List.map_cons, List.map_nil])) rfl ?_
  rintro out ⟨k3, rfl, h5⟩
  refine ⟨rfl, ?_⟩
  refine SO_ ?_
  refine hK _ (S_ ?_);clear hK K hO hA O A
  refine wpM_le [(0, .ptr id 0), (2, .ptr B 0), (3, .ptr (B + 1) 0), (5, .ptr (B + 5) 0), (6, .ptr (B + 8) 0)] [(B + 7, .cells 27 (exc [Ex.mk 2 0 ⟨3, k1⟩ [], Ex.mk 1 k3 ⟨0, 0⟩ []])), (B + 8, .cells 27 [.int .i64 3, .int .i64 0, .int .i64 0, .int .i64 0, .sl 27 (B + 7) 0 2]), (B + 5, .cells 27 (Ex.mk 6 0 ⟨0, 0⟩ [Ex.mk 2 0 ⟨3, k1⟩ [], Ex.mk 1 k2 ⟨0, 0⟩ []]).cs), (B + 1, .cells 24 (AD.mk 3 k1).cs), (B, .cells 45 (Sm.mk 0 ⟨0, 0⟩ (Ex.mk 0 0 ⟨0, 0⟩ []) [] []).cs), (id, rdObj bs (q + 1 + 1 + 1))] T_ (by simp -implicitDefEqProofs (disch := omega) only [go_sem, exc, Ex.csL, List.flatten_cons, List.flatten_nil, List.cons_append, List.nil_append]) T_ ?_
  refine wpM_frz [B + 7] [(27, B + 7, 0, 2, Ex.csL [Ex.mk 2 0 ⟨3, k1⟩ [], Ex.mk 1 k3 ⟨0, 0⟩ []])] (by intro q hq; simp at hq; subst hq; simp -implicitDefEqProofs (disch := omega) only [go_sem]) (by intro q hq; simp only [List.mem_cons, List.not_mem_nil, or_false] at hq; subst hq; exact ⟨by simp, rowsOf_exc (T := 27) (l := [Ex.mk 2 0 ⟨3, k1⟩ [], Ex.mk 1 k3 ⟨0, 0⟩ []]) T_⟩) ?_
  simp -implicitDefEqProofs (disch := omega) only [go_sem]
  refine g_ [0,2,7] ?_
  refine wpM_le [(0, .ptr id 0), (2, .ptr B 0), (7, .ptr (B + 10) 0)] [(B + 9, .cells 45 (smc [(Sm.mk 1 ⟨3, k1⟩ (Ex.mk 3 0 ⟨0, 0⟩ [Ex.mk 2 0 ⟨3, k1⟩ [], Ex.mk 1 k3 ⟨0, 0⟩ []]) [] [])])), (B + 10, .cells 45 [.int .i64 3, .int .i64 0, .int .i64 0, .int .i64 6, .int .i64 0, .int .i64 0, .int .i64 0, .rows 27 (Ex.csL [Ex.mk 2 0 ⟨3, k1⟩ [], Ex.mk 1 k2 ⟨0, 0⟩ []]), .sl 45 (B + 9) 0 1, .rows 45 []]), (B, .cells 45 (Sm.mk 0 ⟨0, 0⟩ (Ex.mk 0 0 ⟨0, 0⟩ []) [] []).cs), (id, rdObj bs (q + 1 + 1 + 1))] T_ (by simp -implicitDefEqProofs (disch := omega) only [go_sem, smc, Sm.csL, List.flatten_cons, List.flatten_nil, List.cons_append, List.nil_append]) T_ ?_
  refine n_ ?_
  refine wpM_regionK [0,2,7,35] rfl fun Q1 hQ1 => ?_
  refine S_ ?_
  refine call_fn (l := [(id, rdObj bs (q + 1 + 1 + 1))]) (first := []) (cap := []) (ps := [.ptr id 0, .int .i64 2]) (pick_ok id bs (q + 1 + 1 + 1) 2 hbs (by omega) (by omega) (by omega)) Tryz.call44 rfl rfl rfl G_ T_ ?_
  rintro out ⟨k4, rfl, h6, h7, h8⟩
  refine S_ ?_
  refine hQ1 _ _ (S_ ?_);clear hQ1 Q1
  refine c_ (fun hc0 => ?_) fun hc0 => ?_
  ·
    refine dr_ mixed [2,7] 2 3 [B + 10, B + 9, id, B + 11, B + 12] [⟨[7],[],[],[],false⟩,⟨[36],[0],[],[],false⟩,⟨[0],[],[],[],false⟩,⟨[38],[2],[2],[],true⟩,⟨[0],[],[],[],false⟩,⟨[40],[2],[2],[],true⟩,⟨[39,41],[],[],[],false⟩,⟨[42],[],[],[3],false⟩,⟨[37,43],[1,3],[1],[4],false⟩,⟨[7],[],[],[],false⟩,⟨[44,45],[0],[0],[],false⟩] [0,1,2,4,3,5,6,7,8,9,10] [[],[0],[],[2],[],[2,3,4],[2,3,4,5],[2,3,4,5,6],[0,1,2,3,4,5,6,7],[0,1,2,3,4,5,6,7,8],[0,1,2,3,4,5,6,7,8,9]] 5 (htbl := by simp; omega) (hnm := by simp) ?_
    intro O A K hO hA hK;simp only [atL_cons,atL_nil,Nat.reduceAdd,Nat.zero_add] at hO hA
    refine SO_ ?_
    refine loud_fn (first := []) (cap := []) (ps := [.ptr id 0]) (l := [(id, rdObj bs (q + 1 + 1 + 1 + 1))]) (l2To_ok id bs (q + 1 + 1 + 1 + 1) hbs (by omega) (by omega)) Tryz.call107 rfl rfl F_ (subG_spec T_) rfl ?_
    rintro out ⟨_, q1, ⟨a, hao, rfl⟩, hqa, hqb, rfl⟩
    refine ⟨rfl, ?_⟩
    refine SO_ ?_
    refine loud_fn (first := []) (cap := []) (ps := [.ptr id 0, .int .i64 2]) (l := [(id, rdObj bs q1)]) (l3Expr_ok id bs hbs 1 q1 2 (by omega) (by omega) (by omega) (by omega)) Tryz.call78 rfl rfl F_ (subG_spec T_) rfl ?_
    rintro out ⟨_, q2, ⟨e, hes, rfl⟩, hqc, hqd, rfl⟩
    refine ⟨rfl, ?_⟩
    refine SO_ ?_
    refine hK _ (S_ ?_);clear hK K hO hA O A
    refine wpM_le [(2, .ptr B 0), (7, .ptr (B + 10) 0)] [(B + 12, .cells 45 (smc [(Sm.mk 1 ⟨3, k1⟩ (Ex.mk 3 0 ⟨0, 0⟩ [Ex.mk 2 0 ⟨3, k1⟩ [], Ex.mk 1 k3 ⟨0, 0⟩ []]) [] []), (Sm.mk 1 a e [] [])])), (B + 10, .cells 45 [.int .i64 3, .int .i64 0, .int .i64 0, .int .i64 6, .int .i64 0, .int .i64 0, .int .i64 0, .rows 27 (Ex.csL [Ex.mk 2 0 ⟨3, k1⟩ [], Ex.mk 1 k2 ⟨0, 0⟩ []]), .sl 45 (B + 12) 0 2, .rows 45 []]), (B, .cells 45 (Sm.mk 0 ⟨0, 0⟩ (Ex.mk 0 0 ⟨0, 0⟩ []) [] []).cs), (id, rdObj bs q2)] T_ (by simp -implicitDefEqProofs (disch := omega) only [go_sem, smc, Sm.csL, List.flatten_cons, List.flatten_nil, List.cons_append, List.nil_append]) T_ ?_
    refine wpM_frz [B + 12] [(45, B + 12, 0, 2, Sm.csL [(Sm.mk 1 ⟨3, k1⟩ (Ex.mk 3 0 ⟨0, 0⟩ [Ex.mk 2 0 ⟨3, k1⟩ [], Ex.mk 1 k3 ⟨0, 0⟩ []]) [] []), (Sm.mk 1 a e [] [])])] (by intro q hq; simp at hq; subst hq; simp -implicitDefEqProofs (disch := omega) only [go_sem]) (by intro q hq; simp only [List.mem_cons, List.not_mem_nil, or_false] at hq; subst hq; exact ⟨by simp, rowsOf_smc (T := 45) (l := [(Sm.mk 1 ⟨3, k1⟩ (Ex.mk 3 0 ⟨0, 0⟩ [Ex.mk 2 0 ⟨3, k1⟩ [], Ex.mk 1 k3 ⟨0, 0⟩ []]) [] []), (Sm.mk 1 a e [] [])]) T_ rfl⟩) ?_
    simp -implicitDefEqProofs (disch := omega) only [go_sem]
    refine g_ [2] ?_
    refine wpM_ret ?_
    try refine S_ ?_
    refine hQ _ _ (ret0 [(id, some (rdObj bs q2))] rfl rfl rfl (by rw [Tryz.results94] <;> simp (maxSteps := 1000000) -implicitDefEqProofs (disch := omega) only [go_sem] <;> rfl) ⟨_, q2, ⟨Sm.mk 3 ⟨0, 0⟩ (Ex.mk 6 0 ⟨0, 0⟩ [Ex.mk 2 0 ⟨3, k1⟩ [], Ex.mk 1 k2 ⟨0, 0⟩ []]) [(Sm.mk 1 ⟨3, k1⟩ (Ex.mk 3 0 ⟨0, 0⟩ [Ex.mk 2 0 ⟨3, k1⟩ [], Ex.mk 1 k3 ⟨0, 0⟩ []]) [] []), (Sm.mk 1 a e [] [])] [], ⟨by simp [Sm.sz, Sm.szL, Ex.sz, Ex.szL]; omega, count_okS (by omega) h4 h5 (fun x hx => by (simp only [List.mem_cons, List.not_mem_nil, or_false] at hx); subst hx; exact ⟨hao, form_lift e hes.2, hes.1, rfl⟩) (by simp)⟩, by first | rfl | (rw [Sm.cs_eq]; rfl)⟩, by omega, by omega, rfl⟩ ?_ ?_ ?_ ?_)
    all_goals simp -implicitDefEqProofs (disch := omega) only [go_sem, rdObj, true_or, or_true]
  refine wpM_frz [B + 9] [(45, B + 9, 0, 1, Sm.csL [(Sm.mk 1 ⟨3, k1⟩ (Ex.mk 3 0 ⟨0, 0⟩ [Ex.mk 2 0 ⟨3, k1⟩ [], Ex.mk 1 k3 ⟨0, 0⟩ []]) [] [])])] (by intro q hq; simp at hq; subst hq; simp -implicitDefEqProofs (disch := omega) only [go_sem]) (by intro q hq; simp only [List.mem_cons, List.not_mem_nil, or_false] at hq; subst hq; exact ⟨by simp, rowsOf_smc (T := 45) (l := [(Sm.mk 1 ⟨3, k1⟩ (Ex.mk 3 0 ⟨0, 0⟩ [Ex.mk 2 0 ⟨3, k1⟩ [], Ex.mk 1 k3 ⟨0, 0⟩ []]) [] [])]) T_ rfl⟩) ?_
  simp -implicitDefEqProofs (disch := omega) only [go_sem]
  refine g_ [2] ?_
  refine wpM_ret ?_
  try refine S_ ?_
  refine hQ _ _ (ret0 [(id, some (rdObj bs (q + 1 + 1 + 1 + 1)))] rfl rfl rfl (by rw [Tryz.results94] <;> simp (maxSteps := 1000000) -implicitDefEqProofs (disch := omega) only [go_sem] <;> rfl) ⟨_, q + 1 + 1 + 1 + 1, ⟨Sm.mk 3 ⟨0, 0⟩ (Ex.mk 6 0 ⟨0, 0⟩ [Ex.mk 2 0 ⟨3, k1⟩ [], Ex.mk 1 k2 ⟨0, 0⟩ []]) [(Sm.mk 1 ⟨3, k1⟩ (Ex.mk 3 0 ⟨0, 0⟩ [Ex.mk 2 0 ⟨3, k1⟩ [], Ex.mk 1 k3 ⟨0, 0⟩ []]) [] [])] [], ⟨by simp [Sm.sz, Sm.szL, Ex.sz, Ex.szL], count_okS (l := []) (by omega) h4 h5 (fun x hx => by simp at hx) (by simp)⟩, by first | rfl | (rw [Sm.cs_eq]; rfl)⟩, by omega, by omega, rfl⟩ ?_ ?_ ?_ ?_)
  all_goals simp -implicitDefEqProofs (disch := omega) only [go_sem, rdObj, true_or, or_true]
end Go.Proofs.YtmicbfojofcigaaGreat
namespace Go.Proofs.YtmicbfojofcigaaGreat
open Go Sg
set_option linter.unusedSectionVars false
variable [Glob]
set_option maxRecDepth 100000
set_option linter.unusedSimpArgs false
set_option linter.unusedVariables false
set_option maxHeartbeats 4000000
theorem leL_app (a b c : List PV) : PV.leL (a ++ b) (a ++ c) = PV.leL b c := by
  induction a with
  | nil => rfl
  | cons x a ih => simp only [List.cons_append, leL_cons, le_same, true_and, ih]
@[go_sem high] theorem leL_smc (l : List Sm) (b : List PV) (s : Sm) : PV.leL (smc l ++ b) (smc (l ++ [s])) = PV.leL b s.cs := by
  rw [← smc_app, leL_app]
@[go_sem] theorem smc_nil : smc [] = [] := rfl
@[go_sem high] theorem sub_smc_app (θ : TypeId → Nat → Nat → Nat → Option PV) (l : List Sm) (b : List PV) : PV.subL θ (smc l ++ b) = smc l ++ PV.subL θ b := by rw [subL_app, smc_sub]
def ListD (N : Nat) (L : Int) (id : Nat) (bs : List Nat) (q dep : Int) : Prop :=
  CallF Tryz.prog 92 [.ptr id 0, .int .i64 dep] [(id, rdObj bs q)] 1 (fun ns o => ∃ z l q', ns = [z] ∧ Sm.szL l ≤ N ∧ q ≤ q' ∧ q' ≤ q + L ∧ o = { rs := [.sl 45 z 0 l.length], u := [(id, some (rdObj bs q'))], nw := [(z, .cells 45 (smc l))] })
theorem list_step (N : Nat) (L : Int) (id : Nat) (bs : List Nat) (q dep : Int) (hbs : Bs bs) (hN : N ≤ 1000000) (hL0 : 0 ≤ L) (hq0 : 0 ≤ q) (hq : q + (1 + 3 * (70 + 2 * L)) ≤ 1000000000000) (hdep : dep ≤ 1000000) (hdep0 : -1000000 ≤ dep)
    (ih : 0 < dep → ∀ q' dep', dep' < dep → dep - 3 < dep' → 0 ≤ q' → q' + L ≤ 1000000000000 → ListD N L id bs q' dep') : ListD (3 * (68 + 2 * N)) (1 + 3 * (70 + 2 * L)) id bs q dep := by
  refine callF_of' Tryz.func92 rfl Tryz.ntmps92 (by simp) ?_
  intro f0 B ns Q hB hns hQ
  have hid : id < B := hB id (by simp [hasKey, lk])
  obtain ⟨z, rfl⟩ : ∃ z, ns = [z] := by
    match ns, hns with
    | [z], _ => exact ⟨z, rfl⟩
  have b2 : eb 2 = 28 := rfl
  have s2 : es 2 = 7 := rfl
  have b1 : eb 1 = 12 := rfl
  have s1 : es 1 = 3 := rfl
  generalize hC : 68 + 2 * N = C at *
  generalize hD : 70 + 2 * L = D at *
  refine g_ [0,1] ?_
  refine g_ [0,1,5] ?_
  refine n_ ?_
  refine wpM_regionK [0,1,5,6] rfl fun Q1 hQ1 => ?_
  refine S_ ?_
  refine call_fn (l := [(id, rdObj bs q)]) (first := []) (cap := []) (ps := [.ptr id 0, .int .i64 4]) (pick_ok id bs q 4 hbs (by omega) (by omega) (by omega)) Tryz.call44 rfl rfl rfl G_ T_ ?_
  rintro out ⟨k0, rfl, h01, h02, h03⟩
  refine S_ ?_
  refine hQ1 _ _ (S_ ?_);clear hQ1 Q1
  obtain ⟨n, rfl, hn⟩ : ∃ n : Nat, k0 = (n : Int) ∧ n ≤ 3 := ⟨k0.toNat, by omega, by omega⟩
  refine n_ ?_
  refine wpM_loopS (fun s r s' => ∃ (l : List Sm) (q' : Int) (M Y : Nat), r ≤ 3 ∧ Sm.szL l + r * C ≤ 3 * C ∧ q + 1 ≤ q' ∧ q' + (r : Int) * D ≤ q + 1 + 3 * D ∧ B ≤ Y ∧ Y < M ∧ s' = { s with env := setE 6 (.int .i64 (r : Nat)) (setE 5 (.sl 45 Y 0 l.length) s.env), l := [(Y, .cells 45 (smc l)), (id, rdObj bs q')], M := M }) (n) ?_ ?_
  ·
    refine .of' _ _ ⟨[], q + 1, _, B, hn, ?_, by omega, ?_, Nat.le_refl _, ?_, rfl⟩ ?_ ?_ ?_
    · simp only [Sm.szL, Nat.zero_add]; exact Nat.mul_le_mul_right C hn
    · have : (n : Int) * D ≤ 3 * D := Int.mul_le_mul_of_nonneg_right (by omega) (by omega)
      omega
    · exact Nat.lt_succ_self _
    all_goals exact L_
  rintro r s' ⟨l, q', M, Y, hr, hsz, hqa, hqb, hBY, hYM, rfl⟩
  try refine S_ ?_
  refine gD_ [0,1,5,6,15] ?_
  refine c_ (fun hc0 => ?_) fun hc0 => ?_
  ·
    obtain ⟨hr0, hd0⟩ : 0 < r ∧ 0 < dep := by simpa using hc0
    have ih := ih hd0
    obtain ⟨r, rfl⟩ : ∃ r', r = r' + 1 := ⟨r - 1, by omega⟩
    have hrC : (r + 1) * C = r * C + C := Nat.succ_mul r C
    have hrD : ((r + 1 : Nat) : Int) * D = (r : Int) * D + D := by rw [Int.natCast_succ, Int.add_mul, Int.one_mul]
    have hrD0 : 0 ≤ (r : Int) * D := Int.mul_nonneg (by omega) (by omega)
    rw [hrC] at hsz
    rw [hrD] at hqb
    have hll : l.length ≤ 6000300 := by have := Sm.len_szL l; omega
    refine n_ ?_
    refine wpM_regionK [0,1,5,6,19] rfl fun Q1 hQ1 => ?_
    refine S_ ?_
    refine call_fn (l := [(id, rdObj bs q')]) (first := []) (cap := []) (ps := [.ptr id 0, .int .i64 7]) (pick_ok id bs q' 7 hbs (by omega) (by omega) (by omega)) Tryz.call44 rfl rfl rfl G_ T_ ?_
    rintro out ⟨k1, rfl, h11, h12, h13⟩
    refine S_ ?_
    refine hQ1 _ _ (S_ ?_);clear hQ1 Q1
    refine g_ [0,1,5,6,19,28] ?_
    refine c_ (fun hc1 => ?_) fun hc1 => ?_
    ·
      refine c_ (fun hc2 => ?_) fun hc2 => ?_
      ·
        refine wpM_regionK [0,1,5,6] rfl fun Q1 hQ1 => ?_
        refine S_ ?_
        refine call_fn (l := [(id, rdObj bs (q' + 1))]) (first := []) (cap := []) (ps := [.ptr id 0, .int .i64 3]) (l3Expr_ok id bs hbs 2 (q' + 1) 3 (by omega) (by omega) (by omega) (by omega)) Tryz.call78 rfl rfl rfl G_ T_ ?_
        rintro out ⟨_, q1, ⟨e, hes, rfl⟩, hqc, hqd, rfl⟩
        refine S_ ?_
        refine call_fn (l := [(id, rdObj bs q1)]) (first := []) (cap := []) (ps := [.ptr id 0, .int .i64 (dep - 1)]) (ih q1 (dep - 1) (by omega) (by omega) (by omega) (by omega)) Tryz.call92 rfl rfl rfl G_ T_ ?_
        rintro out ⟨z1, l1, q2, ⟨⟩, hsz1, hqe, hqf, rfl⟩
        refine S_ ?_
        refine call_fn (l := [(id, rdObj bs q2)]) (first := []) (cap := []) (ps := [.ptr id 0, .int .i64 (dep - 2)]) (ih q2 (dep - 2) (by omega) (by omega) (by omega) (by omega)) Tryz.call92 rfl rfl rfl G_ T_ ?_
        rintro out ⟨z2, l2, q3, ⟨⟩, hsz2, hqg, hqh, rfl⟩
        refine S_ ?_
        refine hQ1 _ _ (S_ ?_);clear hQ1 Q1
        have hszn : Sm.szL (l ++ [(Sm.mk 2 ⟨0, 0⟩ e l1 l2)]) + r * C ≤ 3 * C := by
          rw [Sm.szL_app]
          have : Sm.sz (Sm.mk 2 ⟨0, 0⟩ e l1 l2) ≤ C := by simp only [Sm.sz]; omega
          omega
        have hqn1 : q + 1 ≤ q3 := by omega
        have hqn2 : q3 + (r : Int) * D ≤ q + 1 + 3 * D := by omega
        have hYn1 : B ≤ M + 3 := by omega
        refine wpM_frz [M, M + 1] [(45, M, 0, l1.length, Sm.csL l1), (45, M + 1, 0, l2.length, Sm.csL l2)] (by intro q hq; simp at hq; rcases hq with rfl | rfl <;> simp -implicitDefEqProofs (disch := omega) only [go_sem]) (by intro q hq; simp only [List.mem_cons, List.not_mem_nil, or_false] at hq; rcases hq with rfl | rfl <;> exact ⟨by simp, rowsOf_smc (T := 45) T_ rfl⟩) ?_
        refine S_ ?_
        refine wpM_le [(0, .ptr id 0), (1, .int .i64 dep), (5, .sl 45 (M + 3) 0 (l.length + 1)), (6, .int .i64 ((r + 1 : Nat) : Int))] [(M + 3, .cells 45 (smc (l ++ [(Sm.mk 2 ⟨0, 0⟩ e l1 l2)]))), (id, rdObj bs (q3))] T_ T_ T_ ?_
        rw [show l.length + 1 = (l ++ [(Sm.mk 2 ⟨0, 0⟩ e l1 l2)]).length from by simp]
        generalize hln : l ++ [(Sm.mk 2 ⟨0, 0⟩ e l1 l2)] = ln at *
        generalize hqn : q3 = qn at *
        generalize hYn : M + 3 = Yn at *
        refine g_ [0,1,5,6] ?_
        try rw [show (((r + 1 : Nat) : Int) - 1) = (r : Int) from by omega]
        refine .of' _ _ ⟨r, by omega, ln, qn, _, Yn, by omega, hszn, hqn1, hqn2, hYn1, ?_, rfl⟩ ?_ ?_ ?_
        · dsimp only; omega
        all_goals exact L_
      refine g_ [0,1,5,6,19,45] ?_
      refine c_ (fun hc3 => ?_) fun hc3 => ?_
      ·
        refine g_ [0,1,5,6,48] ?_
        refine c_ (fun hc4 => ?_) fun hc4 => ?_
        ·
          refine wpM_regionK [0,1,5,6] rfl fun Q1 hQ1 => ?_
          refine S_ ?_
          refine call_fn (l := [(id, rdObj bs (q' + 1))]) (first := []) (cap := []) (ps := [.ptr id 0]) (l4Count_ok id bs (q' + 1) hbs (by omega) (by omega)) Tryz.call94 rfl rfl rfl G_ T_ ?_
          rintro out ⟨_, q1, ⟨s, hss, rfl⟩, hqc, hqd, rfl⟩
          refine S_ ?_
          refine hQ1 _ _ (S_ ?_);clear hQ1 Q1
          have hszn : Sm.szL (l ++ [s]) + r * C ≤ 3 * C := by
            rw [Sm.szL_app]
            have : Sm.sz s ≤ C := by omega
            omega
          have hqn1 : q + 1 ≤ q1 := by omega
          have hqn2 : q1 + (r : Int) * D ≤ q + 1 + 3 * D := by omega
          have hYn1 : B ≤ M + 1 := by omega
          refine wpM_le [(0, .ptr id 0), (1, .int .i64 dep), (5, .sl 45 (M + 1) 0 (l.length + 1)), (6, .int .i64 ((r + 1 : Nat) : Int))] [(M + 1, .cells 45 (smc (l ++ [s]))), (id, rdObj bs (q1))] T_ T_ T_ ?_
          rw [show l.length + 1 = (l ++ [s]).length from by simp]
          generalize hln : l ++ [s] = ln at *
          generalize hqn : q1 = qn at *
          generalize hYn : M + 1 = Yn at *
          refine g_ [0,1,5,6] ?_
          try rw [show (((r + 1 : Nat) : Int) - 1) = (r : Int) from by omega]
          refine .of' _ _ ⟨r, by omega, ln, qn, _, Yn, by omega, hszn, hqn1, hqn2, hYn1, ?_, rfl⟩ ?_ ?_ ?_
          · dsimp only; omega
          all_goals exact L_
        have hszn : Sm.szL l + r * C ≤ 3 * C := by omega
        have hqn1 : q + 1 ≤ q' + 1 := by omega
        have hqn2 : q' + 1 + (r : Int) * D ≤ q + 1 + 3 * D := by omega
        have hYn1 : B ≤ Y := hBY
        generalize hln : l = ln at *
        generalize hqn : q' + 1 = qn at *
        generalize hYn : Y = Yn at *
        refine g_ [0,1,5,6] ?_
        try rw [show (((r + 1 : Nat) : Int) - 1) = (r : Int) from by omega]
        refine .of' _ _ ⟨r, by omega, ln, qn, _, Yn, by omega, hszn, hqn1, hqn2, hYn1, ?_, rfl⟩ ?_ ?_ ?_
        · dsimp only; omega
        all_goals exact L_
      refine g_ [0,1,5,6,54] ?_
      refine c_ (fun hc5 => ?_) fun hc5 => ?_
      ·
        refine n_ ?_
        refine wpM_regionK [0,1,5,6,58] rfl fun Q1 hQ1 => ?_
        refine S_ ?_
        refine call_fn (l := [(id, rdObj bs (q' + 1))]) (first := []) (cap := []) (ps := [.ptr id 0, .int .i64 3]) (pick_ok id bs (q' + 1) 3 hbs (by omega) (by omega) (by omega)) Tryz.call44 rfl rfl rfl G_ T_ ?_
        rintro out ⟨k2, rfl, h21, h22, h23⟩
        refine S_ ?_
        refine hQ1 _ _ (S_ ?_);clear hQ1 Q1
        refine c_ (fun hc6 => ?_) fun hc6 => ?_
        ·
          refine wpM_regionK [0,1,5,6] rfl fun Q1 hQ1 => ?_
          refine S_ ?_
          refine call_fn (l := [(id, rdObj bs (q' + 1 + 1))]) (first := []) (cap := []) (ps := [.ptr id 0, .int .i64 2]) (l3Expr_ok id bs hbs 1 (q' + 1 + 1) 2 (by omega) (by omega) (by omega) (by omega)) Tryz.call78 rfl rfl rfl G_ T_ ?_
          rintro out ⟨_, q1, ⟨e, hes, rfl⟩, hqc, hqd, rfl⟩
          refine S_ ?_
          refine call_fn (l := [(id, rdObj bs q1)]) (first := []) (cap := []) (ps := [.ptr id 0, .int .i64 (dep - 1)]) (ih q1 (dep - 1) (by omega) (by omega) (by omega) (by omega)) Tryz.call92 rfl rfl rfl G_ T_ ?_
          rintro out ⟨z1, l1, q2, ⟨⟩, hsz1, hqe, hqf, rfl⟩
          refine S_ ?_
          refine hQ1 _ _ (S_ ?_);clear hQ1 Q1
          have hszn : Sm.szL (l ++ [(Sm.mk 3 ⟨0, 0⟩ e l1 [])]) + r * C ≤ 3 * C := by
            rw [Sm.szL_app]
            have : Sm.sz (Sm.mk 3 ⟨0, 0⟩ e l1 []) ≤ C := by simp only [Sm.sz, Sm.szL]; omega
            omega
          have hqn1 : q + 1 ≤ q2 := by omega
          have hqn2 : q2 + (r : Int) * D ≤ q + 1 + 3 * D := by omega
          have hYn1 : B ≤ M + 2 := by omega
          refine wpM_frz [M] [(45, M, 0, l1.length, Sm.csL l1)] (by intro q hq; simp at hq; rcases hq with rfl <;> simp -implicitDefEqProofs (disch := omega) only [go_sem]) (by intro q hq; simp only [List.mem_cons, List.not_mem_nil, or_false] at hq; rcases hq with rfl <;> exact ⟨by simp, rowsOf_smc (T := 45) T_ rfl⟩) ?_
          refine S_ ?_
          refine wpM_le [(0, .ptr id 0), (1, .int .i64 dep), (5, .sl 45 (M + 2) 0 (l.length + 1)), (6, .int .i64 ((r + 1 : Nat) : Int))] [(M + 2, .cells 45 (smc (l ++ [(Sm.mk 3 ⟨0, 0⟩ e l1 [])]))), (id, rdObj bs (q2))] T_ T_ T_ ?_
          rw [show l.length + 1 = (l ++ [(Sm.mk 3 ⟨0, 0⟩ e l1 [])]).length from by simp]
          generalize hln : l ++ [(Sm.mk 3 ⟨0, 0⟩ e l1 [])] = ln at *
          generalize hqn : q2 = qn at *
          generalize hYn : M + 2 = Yn at *
          refine g_ [0,1,5,6] ?_
          try rw [show (((r + 1 : Nat) : Int) - 1) = (r : Int) from by omega]
          refine .of' _ _ ⟨r, by omega, ln, qn, _, Yn, by omega, hszn, hqn1, hqn2, hYn1, ?_, rfl⟩ ?_ ?_ ?_
          · dsimp only; omega
          all_goals exact L_
        have hszn : Sm.szL l + r * C ≤ 3 * C := by omega
        have hqn1 : q + 1 ≤ q' + 1 + 1 := by omega
        have hqn2 : q' + 1 + 1 + (r : Int) * D ≤ q + 1 + 3 * D := by omega
        have hYn1 : B ≤ Y := hBY
        generalize hln : l = ln at *
        generalize hqn : q' + 1 + 1 = qn at *
        generalize hYn : Y = Yn at *
        refine g_ [0,1,5,6] ?_
        try rw [show (((r + 1 : Nat) : Int) - 1) = (r : Int) from by omega]
        refine .of' _ _ ⟨r, by omega, ln, qn, _, Yn, by omega, hszn, hqn1, hqn2, hYn1, ?_, rfl⟩ ?_ ?_ ?_
        · dsimp only; omega
        all_goals exact L_
      refine wpM_regionK [0,1,5,6] rfl fun Q1 hQ1 => ?_
      refine S_ ?_
      refine call_fn (l := [(id, rdObj bs (q' + 1))]) (first := []) (cap := []) (ps := [.ptr id 0]) (l2To_ok id bs (q' + 1) hbs (by omega) (by omega)) Tryz.call107 rfl rfl rfl G_ T_ ?_
      rintro out ⟨_, q1, ⟨a, hao, rfl⟩, hqc, hqd, rfl⟩
      refine S_ ?_
      refine call_fn (l := [(id, rdObj bs q1)]) (first := []) (cap := []) (ps := [.ptr id 0, .int .i64 3]) (l3Expr_ok id bs hbs 2 q1 3 (by omega) (by omega) (by omega) (by omega)) Tryz.call78 rfl rfl rfl G_ T_ ?_
      rintro out ⟨_, q2, ⟨e, hes, rfl⟩, hqe, hqf, rfl⟩
      refine S_ ?_
      refine hQ1 _ _ (S_ ?_);clear hQ1 Q1
      have hszn : Sm.szL (l ++ [(Sm.mk 1 a e [] [])]) + r * C ≤ 3 * C := by
        rw [Sm.szL_app]
        have : Sm.sz (Sm.mk 1 a e [] []) ≤ C := by simp only [Sm.sz, Sm.szL]; omega
        omega
      have hqn1 : q + 1 ≤ q2 := by omega
      have hqn2 : q2 + (r : Int) * D ≤ q + 1 + 3 * D := by omega
      have hYn1 : B ≤ M + 1 := by omega
      refine wpM_le [(0, .ptr id 0), (1, .int .i64 dep), (5, .sl 45 (M + 1) 0 (l.length + 1)), (6, .int .i64 ((r + 1 : Nat) : Int))] [(M + 1, .cells 45 (smc (l ++ [(Sm.mk 1 a e [] [])]))), (id, rdObj bs (q2))] T_ T_ T_ ?_
      rw [show l.length + 1 = (l ++ [(Sm.mk 1 a e [] [])]).length from by simp]
      generalize hln : l ++ [(Sm.mk 1 a e [] [])] = ln at *
      generalize hqn : q2 = qn at *
      generalize hYn : M + 1 = Yn at *
      refine g_ [0,1,5,6] ?_
      try rw [show (((r + 1 : Nat) : Int) - 1) = (r : Int) from by omega]
      refine .of' _ _ ⟨r, by omega, ln, qn, _, Yn, by omega, hszn, hqn1, hqn2, hYn1, ?_, rfl⟩ ?_ ?_ ?_
      · dsimp only; omega
      all_goals exact L_
    refine g_ [0,1,5,6,19,28] ?_
    refine c_ (fun hc7 => ?_) fun hc7 => ?_
    ·
      refine wpM_regionK [0,1,5,6] rfl fun Q1 hQ1 => ?_
      refine S_ ?_
      refine call_fn (l := [(id, rdObj bs (q' + 1))]) (first := []) (cap := []) (ps := [.ptr id 0, .int .i64 3]) (l3Expr_ok id bs hbs 2 (q' + 1) 3 (by omega) (by omega) (by omega) (by omega)) Tryz.call78 rfl rfl rfl G_ T_ ?_
      rintro out ⟨_, q1, ⟨e, hes, rfl⟩, hqc, hqd, rfl⟩
      refine S_ ?_
      refine call_fn (l := [(id, rdObj bs q1)]) (first := []) (cap := []) (ps := [.ptr id 0, .int .i64 (dep - 1)]) (ih q1 (dep - 1) (by omega) (by omega) (by omega) (by omega)) Tryz.call92 rfl rfl rfl G_ T_ ?_
      rintro out ⟨z1, l1, q2, ⟨⟩, hsz1, hqe, hqf, rfl⟩
      refine S_ ?_
      refine call_fn (l := [(id, rdObj bs q2)]) (first := []) (cap := []) (ps := [.ptr id 0, .int .i64 (dep - 2)]) (ih q2 (dep - 2) (by omega) (by omega) (by omega) (by omega)) Tryz.call92 rfl rfl rfl G_ T_ ?_
      rintro out ⟨z2, l2, q3, ⟨⟩, hsz2, hqg, hqh, rfl⟩
      refine S_ ?_
      refine hQ1 _ _ (S_ ?_);clear hQ1 Q1
      have hszn : Sm.szL (l ++ [(Sm.mk 2 ⟨0, 0⟩ e l1 l2)]) + r * C ≤ 3 * C := by
        rw [Sm.szL_app]
        have : Sm.sz (Sm.mk 2 ⟨0, 0⟩ e l1 l2) ≤ C := by simp only [Sm.sz]; omega
        omega
      have hqn1 : q + 1 ≤ q3 := by omega
      have hqn2 : q3 + (r : Int) * D ≤ q + 1 + 3 * D := by omega
      have hYn1 : B ≤ M + 3 := by omega
      refine wpM_frz [M, M + 1] [(45, M, 0, l1.length, Sm.csL l1), (45, M + 1, 0, l2.length, Sm.csL l2)] (by intro q hq; simp at hq; rcases hq with rfl | rfl <;> simp -implicitDefEqProofs (disch := omega) only [go_sem]) (by intro q hq; simp only [List.mem_cons, List.not_mem_nil, or_false] at hq; rcases hq with rfl | rfl <;> exact ⟨by simp, rowsOf_smc (T := 45) T_ rfl⟩) ?_
      refine S_ ?_
      refine wpM_le [(0, .ptr id 0), (1, .int .i64 dep), (5, .sl 45 (M + 3) 0 (l.length + 1)), (6, .int .i64 ((r + 1 : Nat) : Int))] [(M + 3, .cells 45 (smc (l ++ [(Sm.mk 2 ⟨0, 0⟩ e l1 l2)]))), (id, rdObj bs (q3))] T_ T_ T_ ?_
      rw [show l.length + 1 = (l ++ [(Sm.mk 2 ⟨0, 0⟩ e l1 l2)]).length from by simp]
      generalize hln : l ++ [(Sm.mk 2 ⟨0, 0⟩ e l1 l2)] = ln at *
      generalize hqn : q3 = qn at *
      generalize hYn : M + 3 = Yn at *
      refine g_ [0,1,5,6] ?_
      try rw [show (((r + 1 : Nat) : Int) - 1) = (r : Int) from by omega]
      refine .of' _ _ ⟨r, by omega, ln, qn, _, Yn, by omega, hszn, hqn1, hqn2, hYn1, ?_, rfl⟩ ?_ ?_ ?_
      · dsimp only; omega
      all_goals exact L_
    refine g_ [0,1,5,6,19,45] ?_
    refine c_ (fun hc8 => ?_) fun hc8 => ?_
    ·
      refine g_ [0,1,5,6,48] ?_
      refine c_ (fun hc9 => ?_) fun hc9 => ?_
      ·
        refine wpM_regionK [0,1,5,6] rfl fun Q1 hQ1 => ?_
        refine S_ ?_
        refine call_fn (l := [(id, rdObj bs (q' + 1))]) (first := []) (cap := []) (ps := [.ptr id 0]) (l4Count_ok id bs (q' + 1) hbs (by omega) (by omega)) Tryz.call94 rfl rfl rfl G_ T_ ?_
        rintro out ⟨_, q1, ⟨s, hss, rfl⟩, hqc, hqd, rfl⟩
        refine S_ ?_
        refine hQ1 _ _ (S_ ?_);clear hQ1 Q1
        have hszn : Sm.szL (l ++ [s]) + r * C ≤ 3 * C := by
          rw [Sm.szL_app]
          have : Sm.sz s ≤ C := by omega
          omega
        have hqn1 : q + 1 ≤ q1 := by omega
        have hqn2 : q1 + (r : Int) * D ≤ q + 1 + 3 * D := by omega
        have hYn1 : B ≤ M + 1 := by omega
        refine wpM_le [(0, .ptr id 0), (1, .int .i64 dep), (5, .sl 45 (M + 1) 0 (l.length + 1)), (6, .int .i64 ((r + 1 : Nat) : Int))] [(M + 1, .cells 45 (smc (l ++ [s]))), (id, rdObj bs (q1))] T_ T_ T_ ?_
        rw [show l.length + 1 = (l ++ [s]).length from by simp]
        generalize hln : l ++ [s] = ln at *
        generalize hqn : q1 = qn at *
        generalize hYn : M + 1 = Yn at *
        refine g_ [0,1,5,6] ?_
        try rw [show (((r + 1 : Nat) : Int) - 1) = (r : Int) from by omega]
        refine .of' _ _ ⟨r, by omega, ln, qn, _, Yn, by omega, hszn, hqn1, hqn2, hYn1, ?_, rfl⟩ ?_ ?_ ?_
        · dsimp only; omega
        all_goals exact L_
      have hszn : Sm.szL l + r * C ≤ 3 * C := by omega
      have hqn1 : q + 1 ≤ q' + 1 := by omega
      have hqn2 : q' + 1 + (r : Int) * D ≤ q + 1 + 3 * D := by omega
      have hYn1 : B ≤ Y := hBY
      generalize hln : l = ln at *
      generalize hqn : q' + 1 = qn at *
      generalize hYn : Y = Yn at *
      refine g_ [0,1,5,6] ?_
      try rw [show (((r + 1 : Nat) : Int) - 1) = (r : Int) from by omega]
      refine .of' _ _ ⟨r, by omega, ln, qn, _, Yn, by omega, hszn, hqn1, hqn2, hYn1, ?_, rfl⟩ ?_ ?_ ?_
      · dsimp only; omega
      all_goals exact L_
    refine g_ [0,1,5,6,54] ?_
    refine c_ (fun hc10 => ?_) fun hc10 => ?_
    ·
      refine n_ ?_
      refine wpM_regionK [0,1,5,6,58] rfl fun Q1 hQ1 => ?_
      refine S_ ?_
      refine call_fn (l := [(id, rdObj bs (q' + 1))]) (first := []) (cap := []) (ps := [.ptr id 0, .int .i64 3]) (pick_ok id bs (q' + 1) 3 hbs (by omega) (by omega) (by omega)) Tryz.call44 rfl rfl rfl G_ T_ ?_
      rintro out ⟨k2, rfl, h21, h22, h23⟩
      refine S_ ?_
      refine hQ1 _ _ (S_ ?_);clear hQ1 Q1
      refine c_ (fun hc11 => ?_) fun hc11 => ?_
      ·
        refine wpM_regionK [0,1,5,6] rfl fun Q1 hQ1 => ?_
        refine S_ ?_
        refine call_fn (l := [(id, rdObj bs (q' + 1 + 1))]) (first := []) (cap := []) (ps := [.ptr id 0, .int .i64 2]) (l3Expr_ok id bs hbs 1 (q' + 1 + 1) 2 (by omega) (by omega) (by omega) (by omega)) Tryz.call78 rfl rfl rfl G_ T_ ?_
        rintro out ⟨_, q1, ⟨e, hes, rfl⟩, hqc, hqd, rfl⟩
        refine S_ ?_
        refine call_fn (l := [(id, rdObj bs q1)]) (first := []) (cap := []) (ps := [.ptr id 0, .int .i64 (dep - 1)]) (ih q1 (dep - 1) (by omega) (by omega) (by omega) (by omega)) Tryz.call92 rfl rfl rfl G_ T_ ?_
        rintro out ⟨z1, l1, q2, ⟨⟩, hsz1, hqe, hqf, rfl⟩
        refine S_ ?_
        refine hQ1 _ _ (S_ ?_);clear hQ1 Q1
        have hszn : Sm.szL (l ++ [(Sm.mk 3 ⟨0, 0⟩ e l1 [])]) + r * C ≤ 3 * C := by
          rw [Sm.szL_app]
          have : Sm.sz (Sm.mk 3 ⟨0, 0⟩ e l1 []) ≤ C := by simp only [Sm.sz, Sm.szL]; omega
          omega
        have hqn1 : q + 1 ≤ q2 := by omega
        have hqn2 : q2 + (r : Int) * D ≤ q + 1 + 3 * D := by omega
        have hYn1 : B ≤ M + 2 := by omega
        refine wpM_frz [M] [(45, M, 0, l1.length, Sm.csL l1)] (by intro q hq; simp at hq; rcases hq with rfl <;> simp -implicitDefEqProofs (disch := omega) only [go_sem]) (by intro q hq; simp only [List.mem_cons, List.not_mem_nil, or_false] at hq; rcases hq with rfl <;> exact ⟨by simp, rowsOf_smc (T := 45) T_ rfl⟩) ?_
        refine S_ ?_
        refine wpM_le [(0, .ptr id 0), (1, .int .i64 dep), (5, .sl 45 (M + 2) 0 (l.length + 1)), (6, .int .i64 ((r + 1 : Nat) : Int))] [(M + 2, .cells 45 (smc (l ++ [(Sm.mk 3 ⟨0, 0⟩ e l1 [])]))), (id, rdObj bs (q2))] T_ T_ T_ ?_
        rw [show l.length + 1 = (l ++ [(Sm.mk 3 ⟨0, 0⟩ e l1 [])]).length from by simp]
        generalize hln : l ++ [(Sm.mk 3 ⟨0, 0⟩ e l1 [])] = ln at *
        generalize hqn : q2 = qn at *
        generalize hYn : M + 2 = Yn at *
        refine g_ [0,1,5,6] ?_
        try rw [show (((r + 1 : Nat) : Int) - 1) = (r : Int) from by omega]
        refine .of' _ _ ⟨r, by omega, ln, qn, _, Yn, by omega, hszn, hqn1, hqn2, hYn1, ?_, rfl⟩ ?_ ?_ ?_
        · dsimp only; omega
        all_goals exact L_
      have hszn : Sm.szL l + r * C ≤ 3 * C := by omega
      have hqn1 : q + 1 ≤ q' + 1 + 1 := by omega
      have hqn2 : q' + 1 + 1 + (r : Int) * D ≤ q + 1 + 3 * D := by omega
      have hYn1 : B ≤ Y := hBY
      generalize hln : l = ln at *
      generalize hqn : q' + 1 + 1 = qn at *
      generalize hYn : Y = Yn at *
      refine g_ [0,1,5,6] ?_
      try rw [show (((r + 1 : Nat) : Int) - 1) = (r : Int) from by omega]
      refine .of' _ _ ⟨r, by omega, ln, qn, _, Yn, by omega, hszn, hqn1, hqn2, hYn1, ?_, rfl⟩ ?_ ?_ ?_
      · dsimp only; omega
      all_goals exact L_
    refine wpM_regionK [0,1,5,6] rfl fun Q1 hQ1 => ?_
    refine S_ ?_
    refine call_fn (l := [(id, rdObj bs (q' + 1))]) (first := []) (cap := []) (ps := [.ptr id 0]) (l2To_ok id bs (q' + 1) hbs (by omega) (by omega)) Tryz.call107 rfl rfl rfl G_ T_ ?_
    rintro out ⟨_, q1, ⟨a, hao, rfl⟩, hqc, hqd, rfl⟩
    refine S_ ?_
    refine call_fn (l := [(id, rdObj bs q1)]) (first := []) (cap := []) (ps := [.ptr id 0, .int .i64 3]) (l3Expr_ok id bs hbs 2 q1 3 (by omega) (by omega) (by omega) (by omega)) Tryz.call78 rfl rfl rfl G_ T_ ?_
    rintro out ⟨_, q2, ⟨e, hes, rfl⟩, hqe, hqf, rfl⟩
    refine S_ ?_
    refine hQ1 _ _ (S_ ?_);clear hQ1 Q1
    have hszn : Sm.szL (l ++ [(Sm.mk 1 a e [] [])]) + r * C ≤ 3 * C := by
      rw [Sm.szL_app]
      have : Sm.sz (Sm.mk 1 a e [] []) ≤ C := by simp only [Sm.sz, Sm.szL]; omega
      omega
    have hqn1 : q + 1 ≤ q2 := by omega
    have hqn2 : q2 + (r : Int) * D ≤ q + 1 + 3 * D := by omega
    have hYn1 : B ≤ M + 1 := by omega
    refine wpM_le [(0, .ptr id 0), (1, .int .i64 dep), (5, .sl 45 (M + 1) 0 (l.length + 1)), (6, .int .i64 ((r + 1 : Nat) : Int))] [(M + 1, .cells 45 (smc (l ++ [(Sm.mk 1 a e [] [])]))), (id, rdObj bs (q2))] T_ T_ T_ ?_
    rw [show l.length + 1 = (l ++ [(Sm.mk 1 a e [] [])]).length from by simp]
    generalize hln : l ++ [(Sm.mk 1 a e [] [])] = ln at *
    generalize hqn : q2 = qn at *
    generalize hYn : M + 1 = Yn at *
    refine g_ [0,1,5,6] ?_
    try rw [show (((r + 1 : Nat) : Int) - 1) = (r : Int) from by omega]
    refine .of' _ _ ⟨r, by omega, ln, qn, _, Yn, by omega, hszn, hqn1, hqn2, hYn1, ?_, rfl⟩ ?_ ?_ ?_
    · dsimp only; omega
    all_goals exact L_
  refine g_ [4] ?_
  refine wpM_ret ?_
  try refine S_ ?_
  have hrD0 : 0 ≤ (r : Int) * D := Int.mul_nonneg (by omega) (by omega)
  refine hQ _ _ (retK [Y] [(id, some (rdObj bs q'))] [(z, .cells 45 (smc l))] rfl rfl rfl (by rw [Tryz.results92] <;> simp (maxSteps := 1000000) -implicitDefEqProofs (disch := omega) only [go_sem] <;> rfl) ?_ ⟨z, l, q', rfl, by omega, by omega, by omega, rfl⟩ ?_ ?_ ?_ ?_ ?_ ?_)
  all_goals (simp -implicitDefEqProofs (disch := omega) only [go_sem, rdObj, List.nodup_cons, List.nodup_nil, true_or, or_true, List.mem_cons, List.not_mem_nil] <;> omega)
def lb : Nat → Int
  | 0 => 211
  | d + 1 => 1 + 3 * (70 + 2 * lb d)
def ls : Nat → Nat
  | 0 => 204
  | d + 1 => 3 * (68 + 2 * ls d)
theorem lb_pos : ∀ d, 0 ≤ lb d
  | 0 => by simp [lb]
  | d + 1 => by have := lb_pos d; simp only [lb]; omega
theorem l4List_ok (id : Nat) (bs : List Nat) (hbs : Bs bs) (d : Nat) (hd : ls d ≤ 1000000) : ∀ (q dep : Int), 0 ≤ q → q + lb d ≤ 1000000000000 → dep ≤ d → -1000000 ≤ dep → ListD (ls d) (lb d) id bs q dep := by
  induction d with
  | zero =>
    intro q dep h1 h2 h3 h4
    exact list_step 0 0 id bs q dep hbs (by omega) (by omega) h1 h2 (by omega) h4 (fun h => by exfalso; omega)
  | succ d ih =>
    intro q dep h1 h2 h3 h4
    have hl : ls (d + 1) = 3 * (68 + 2 * ls d) := rfl
    have hb : lb (d + 1) = 1 + 3 * (70 + 2 * lb d) := rfl
    have hd1 : d + 1 ≤ 1000000 := by
      have : ∀ n, n ≤ ls n := by
        intro n
        induction n with
        | zero => simp
        | succ n ihn => simp only [ls]; omega
      have := this (d + 1)
      omega
    exact list_step (ls d) (lb d) id bs q dep hbs (by omega) (lb_pos d) h1 h2 (by omega) h4 (fun h q' dep' g1 g2 g3 g4 => ih (by omega) q' dep' g3 g4 (by omega) (by omega))
end Go.Proofs.YtmicbfojofcigaaGreat
namespace Go.Proofs.YtmicbfojofcigaaGreat
open Go Sg
set_option linter.unusedSectionVars false
variable [Glob]
set_option maxRecDepth 100000
set_option linter.unusedSimpArgs false
set_option linter.unusedVariables false
set_option maxHeartbeats 4000000
theorem splice_mid (a b c : List PV) (off : Nat) (v : List PV) (h : off + v.length ≤ b.length) : splice (a ++ (b ++ c)) (a.length + off) v = a ++ (splice b off v ++ c) := by
  simp only [splice]
  rw [List.take_append, List.take_of_length_le (by omega : a.length ≤ a.length + off), show a.length + off - a.length = off by omega, List.take_append_of_le_length (by omega),
    List.drop_append, List.drop_of_length_le (by omega : a.length ≤ a.length + off + v.length), show a.length + off + v.length - a.length = off + v.length by omega, List.nil_append, List.drop_append_of_le_length h]
  simp
theorem stmtsOk_sl (z : Nat) (l : List Sm) (hs : Sm.szL l ≤ 1099511627776) : CallF Tryz.prog 93 [.sl 45 z 0 l.length] [(z, .cells 45 (smc l))] 0 (fun _ o => o = { rs := [.bool (okS l)] }) := by
  refine CallF.borrow [(45, z, 0, l.length, Sm.csL l)] rfl rfl (by intro q hq; simp only [List.mem_cons, List.not_mem_nil, or_false] at hq; subst hq; exact rowsOf_smc (T := 45) (by simp [lk]) rfl) ?_
  have := stmtsOk_ok l hs
  simp -implicitDefEqProofs (disch := omega) only [go_sem]
  exact this
def SomeO (id : Nat) (bs : List Nat) (q : Int) : Prop :=
  CallF Tryz.prog 63 [.ptr id 0] [(id, rdObj bs q)] 1 (fun ns o => ∃ z l q', ns = [z] ∧ (Sm.szL l ≤ 60000 ∧ okS l = true) ∧ q ≤ q' ∧ q' ≤ q + 60000 ∧ o = { rs := [.sl 45 z 0 l.length], u := [(id, some (rdObj bs q'))], nw := [(z, .cells 45 (smc l))] })
theorem l4Some_ok (id : Nat) (bs : List Nat) (q : Int) (hbs : Bs bs) (hq0 : 0 ≤ q) (hq : q + 60000 ≤ 1000000000000) : SomeO id bs q := by
  refine callF_of' Tryz.func63 rfl Tryz.ntmps63 (by simp) ?_
  intro f0 B ns Q hB hns hQ
  have hid : id < B := hB id (by simp [hasKey, lk])
  obtain ⟨z, rfl⟩ : ∃ z, ns = [z] := by
    match ns, hns with
    | [z], _ => exact ⟨z, rfl⟩
  have h3 : lb 3 = 54649 := rfl
  have h4 : ls 3 = 52836 := rfl
  refine g_ [0] ?_
  refine n_ ?_
  refine wpM_regionK [0,3] rfl fun Q1 hQ1 => ?_
  refine S_ ?_
  refine call_fn (l := [(id, rdObj bs q)]) (first := []) (cap := []) (ps := [.ptr id 0, .int .i64 3]) (l4List_ok id bs hbs 3 (by omega) q 3 (by omega) (by omega) (by omega) (by omega)) Tryz.call92 rfl rfl rfl G_ T_ ?_
  rintro out ⟨z', l, q', ⟨⟩, hsz, hqa, hqb, rfl⟩
  refine S_ ?_
  refine hQ1 _ _ (S_ ?_);clear hQ1 Q1
  refine n_ ?_
  refine wpM_regionK [0,3,8] rfl fun Q1 hQ1 => ?_
  refine S_ ?_
  refine call_fn (l := [(B, .cells 45 (smc l))]) (first := []) (cap := []) (ps := [.sl 45 B 0 l.length]) (stmtsOk_sl B l (by omega)) Tryz.call93 rfl rfl rfl G_ T_ ?_
  rintro out rfl
  refine S_ ?_
  refine hQ1 _ _ (S_ ?_);clear hQ1 Q1
  refine c_ (fun hc0 => ?_) fun hc0 => ?_
  ·
    refine n_ ?_
    refine wpM_regionK [2] rfl fun Q1 hQ1 => ?_
    refine S_ ?_
    refine call_fn (l := [(id, rdObj bs q')]) (first := []) (cap := []) (ps := [.ptr id 0]) (l4Count_ok id bs q' hbs (by omega) (by omega)) Tryz.call94 rfl rfl rfl G_ T_ ?_
    rintro out ⟨_, q2, ⟨s, hs, rfl⟩, hqc, hqd, rfl⟩
    refine S_ ?_
    refine hQ1 _ _ (S_ ?_);clear hQ1 Q1
    refine wpM_ret ?_
    try refine S_ ?_
    have e1 : [PV.int .i64 s.kind, .int .i64 s.to'.kind, .int .i64 s.to'.at', .int .i64 s.e.kind, .int .i64 s.e.n, .int .i64 s.e.a.kind, .int .i64 s.e.a.at', .rows 27 (Ex.csL s.e.kids), .rows 45 (Sm.csL s.th), .rows 45 (Sm.csL s.el)] = smc [s] := by rw [← smc_one, Sm.cs_eq]
    rw [e1]
    refine hQ _ _ (retK [B + 1] [(id, some (rdObj bs q2))] [(z, .cells 45 (smc [s]))] rfl rfl rfl (by rw [Tryz.results63] <;> simp (maxSteps := 1000000) -implicitDefEqProofs (disch := omega) only [go_sem] <;> rfl) ?_ ⟨z, [s], q2, rfl, ⟨by simp [Sm.szL]; omega, hs.2⟩, by omega, by omega, rfl⟩ ?_ ?_ ?_ ?_ ?_ ?_)
    all_goals (first | (simp -implicitDefEqProofs (disch := omega) only [go_sem, rdObj, List.nodup_cons, List.nodup_nil, true_or, or_true, List.mem_cons, List.not_mem_nil]; done) | (simp -implicitDefEqProofs (disch := omega) only [go_sem, rdObj, List.nodup_cons, List.nodup_nil, true_or, or_true, List.mem_cons, List.not_mem_nil]; first | omega | rfl))
  refine g_ [2] ?_
  refine wpM_ret ?_
  try refine S_ ?_
  refine hQ _ _ (retK [B] [(id, some (rdObj bs q'))] [(z, .cells 45 (smc l))] rfl rfl rfl (by rw [Tryz.results63] <;> simp (maxSteps := 1000000) -implicitDefEqProofs (disch := omega) only [go_sem] <;> rfl) ?_ ⟨z, l, q', rfl, ⟨by omega, by simpa using hc0⟩, by omega, by omega, rfl⟩ ?_ ?_ ?_ ?_ ?_ ?_)
  all_goals (simp -implicitDefEqProofs (disch := omega) only [go_sem, rdObj, List.nodup_cons, List.nodup_nil, true_or, or_true, List.mem_cons, List.not_mem_nil] <;> omega)
end Go.Proofs.YtmicbfojofcigaaGreat
namespace Go.Proofs.YtmicbfojofcigaaGreat
open Go Sg
set_option linter.unusedSectionVars false
variable [Glob]
set_option maxRecDepth 100000
set_option linter.unusedSimpArgs false
set_option linter.unusedVariables false
set_option maxHeartbeats 4000000
structure DRun (m : MM) (l : List Sm) (F : Int) : Prop where
  m : m.Sm
  l : Sm.szL l ≤ 1000000
  F0 : -1 ≤ F
  F1 : F ≤ 101
end Go.Proofs.YtmicbfojofcigaaGreat
namespace Go.Proofs.YtmicbfojofcigaaGreat
open Go Sg
set_option maxRecDepth 100000
set_option linter.unusedSimpArgs false
set_option linter.unusedVariables false
set_option linter.unusedSectionVars false
set_option maxHeartbeats 4000000
variable [Tab]
def mxI (l : List Int) : Nat → Int
  | 0 => l.getD 0 0
  | i + 1 => if l.getD i 0 > mxI l i then l.getD i 0 else mxI l i
theorem max_ok (l : List Int) (h : 0 < l.length) (hl : l.length ≤ 1099511627776) : PureF Tryz.prog 37 [.rows 3 (rowsI l)] [.int .i64 (mxI l l.length)] := by
  refine pureF_of Tryz.func37 rfl Tryz.ntmps37 (by simp) T_ ?_
  intro f0 B Q hQ
  refine g_ [0] ?_
  refine g_ [0,7] ?_
  refine c_ (fun hc0 => ?_) fun hc0 => ?_
  · exfalso; omega
  refine g_ [0,3] ?_
  refine g_ [0,3,4] ?_
  refine n_ ?_
  refine wpM_loopS (fun s r s' => ∃ i : Nat, 1 ≤ i ∧ i + r = l.length ∧ s' = { s with env := setE 4 (.int .i64 (i : Nat)) (setE 3 (.int .i64 (mxI l i)) s.env) }) (l.length - 1) ?_ ?_
  ·
    have h1 : l.getD 0 0 = mxI l 1 := by simp [mxI]
    rw [h1]
    refine .of' _ _ ⟨1, Nat.le_refl _, by omega, rfl⟩ ?_ ?_ ?_ <;> exact L_
  rintro r s' ⟨i, hi1, hir, rfl⟩
  try refine S_ ?_
  refine g_ [0,3,4,15] ?_
  refine c_ (fun hc1 => ?_) fun hc1 => ?_
  ·
    have hil : i < l.length := by omega
    refine g_ [0,3,4] ?_
    refine g_ [0,3,4] ?_
    have h1 : (if l.getD i 0 > mxI l i then l.getD i 0 else mxI l i) = mxI l (i + 1) := rfl
    rw [h1]
    refine .of' _ _ ⟨r - 1, by omega, i + 1, by omega, by omega, rfl⟩ ?_ ?_ ?_ <;> exact L_
  refine g_ [2] ?_
  refine e_ Tryz.results37 ?_
  first
  | exact True.intro
  | have : i = l.length := by omega
    rw [this]
@[go_sem] theorem zeroI : ((0 : Nat) : Int) = 0 := rfl
@[go_sem] theorem repl0_one : List.replicate 1 (0 : Int) = [0] := rfl
end Go.Proofs.YtmicbfojofcigaaGreat
namespace Go.Proofs.YtmicbfojofcigaaGreat
open Go Sg
set_option maxRecDepth 100000
set_option linter.unusedSimpArgs false
set_option linter.unusedVariables false
set_option linter.unusedSectionVars false
set_option maxHeartbeats 4000000
variable [Tab]
theorem Ex.ext' {a b : Ex} (h1 : a.kind = b.kind) (h2 : a.n = b.n) (h3 : a.a = b.a) (h4 : a.kids = b.kids) : a = b := by
  cases a; cases b
  simp only [Ex.kind, Ex.n, Ex.a, Ex.kids] at h1 h2 h3 h4
  subst h1; subst h2; subst h3; subst h4; rfl
open Classical in
noncomputable def same {α : Type} (a b : α) : Bool := decide (a = b)
def numX (n : Int) : Ex := .mk 1 n ⟨0, 0⟩ []
def Ex.isN (e : Ex) (n : Int) : Bool := e.kind == 1 && e.n == n
noncomputable def slim2 (e a b : Ex) : Ex :=
  if a.kind == 1 && b.kind == 1 then numX (two e.kind a.n b.n)
  else if e.kind == 3 && b.isN 0 || e.kind == 4 && b.isN 0 || e.kind == 5 && b.isN 1 then a
  else if e.kind == 3 && a.isN 0 || e.kind == 5 && a.isN 1 then b
  else if e.kind == 5 && (a.isN 0 || b.isN 0) || e.kind == 8 && (a.isN 0 || b.isN 0) then numX 0
  else if e.kind == 7 && same a b then numX 1
  else if (e.kind == 6 || e.kind == 4) && same a b then numX 0
  else e
noncomputable def slimN (e : Ex) : Ex :=
  if e.kind == 10 && (e.kids.getD 0 default).kind == 1 then numX (numIs (!((e.kids.getD 0 default).n != 0)))
  else if (e.kids.length : Int) == 2 then slim2 e (e.kids.getD 0 default) (e.kids.getD 1 default) else e
mutual
noncomputable def Ex.slim : Ex → Ex
  | .mk k n a l => slimN (.mk k n a (Ex.slimL l))
noncomputable def Ex.slimL : List Ex → List Ex
  | [] => []
  | e :: l => e.slim :: Ex.slimL l
end
def Sm.no (s : Sm) : Bool := (s.kind == 1 && s.e.kind == 2 && (s.e.a.kind == s.to'.kind && s.e.a.at' == s.to'.at')) || (s.kind == 3 && s.e.isN 0) || (s.kind == 2 && (s.th.length : Int) == 0 && (s.el.length : Int) == 0)
def rb (s : Sm) : List Sm := if s.no then [] else if s.kind == 2 && s.e.kind == 1 && s.e.n != 0 then s.th else if s.kind == 2 && s.e.kind == 1 then s.el else [s]
mutual
noncomputable def Sm.sl : Sm → List Sm
  | .mk k a e th el => rb (.mk k a e.slim (Sm.slL th) (Sm.slL el))
noncomputable def Sm.slL : List Sm → List Sm
  | [] => []
  | s :: l => s.sl ++ Sm.slL l
end
theorem cut_cut' (n : Int) : cut (cut n) = cut n := by unfold cut; omega
theorem form_len {d : Nat} {e : Ex} (h : formD (d + 1) e = true) : (e.kids.length = 0 ∧ (e.kind = 1 ∨ e.kind = 2)) ∨ (e.kids.length = 1 ∧ e.kind = 10) ∨ (e.kids.length = 2 ∧ 3 ≤ e.kind ∧ e.kind ≤ 9) := by
  have := (form_inv h).1
  unfold kidsN at this
  split at this
  · rename_i h1; simp at h1; left; exact ⟨by omega, h1⟩
  · split at this
    · rename_i h1 h2; simp at h2; right; left; exact ⟨by omega, h2⟩
    · split at this
      · rename_i h1 h2 h3; simp at h3; right; right; exact ⟨by omega, h3⟩
      · omega
theorem slim2_sz {e : Ex} (h : e.kids.length = 2) : (slim2 e (e.kids.getD 0 default) (e.kids.getD 1 default)).sz ≤ e.sz := by
  have h0 := Ex.kid_sz (e := e) (k := 0) (by omega)
  have h1 := Ex.kid_sz (e := e) (k := 1) (by omega)
  have hn : ∀ n, (numX n).sz = 1 := fun n => by simp [numX, Ex.sz, Ex.szL]
  unfold slim2
  repeat' split
  all_goals first | omega | (rw [hn]; omega)
theorem slimN_sz (e : Ex) : (slimN e).sz ≤ e.sz := by
  have hn : ∀ n, (numX n).sz = 1 := fun n => by simp [numX, Ex.sz, Ex.szL]
  have hp := e.sz_pos
  unfold slimN
  split
  · rw [hn]; omega
  · split
    · rename_i h2
      exact slim2_sz (by simp at h2; omega)
    · exact Nat.le_refl _
mutual
theorem Ex.slim_sz : (e : Ex) → e.slim.sz ≤ e.sz
  | .mk k n a l => by
    rw [Ex.slim]
    refine Nat.le_trans (slimN_sz _) ?_
    simp only [Ex.sz]
    have := Ex.slimL_sz l
    omega
theorem Ex.slimL_sz : (l : List Ex) → Ex.szL (Ex.slimL l) ≤ Ex.szL l
  | [] => Nat.le_refl _
  | e :: l => by
    simp only [Ex.slimL, Ex.szL]
    have := Ex.slim_sz e
    have := Ex.slimL_sz l
    omega
end
theorem many_sz (d : Nat) : ∀ e : Ex, formD d e = true → manyD d e = e.sz := by
  induction d with
  | zero => intro e h; cases h
  | succ d ih =>
    intro e h
    have hk : ∀ x ∈ e.kids, formD d x = true := by
      intro x hx
      obtain ⟨i, hi, rfl⟩ := List.getElem_of_mem hx
      have := (form_inv h).2.2 i hi
      rw [List.getD_eq_getElem?_getD, List.getElem?_eq_getElem hi] at this
      exact this
    rw [Ex.sz_eq, manyD]
    have : ∀ l : List Ex, (∀ x ∈ l, formD d x = true) → (l.map (manyD d)).sum = Ex.szL l := by
      intro l
      induction l with
      | nil => intro _; rfl
      | cons x l ihl =>
        intro hl
        simp only [List.map_cons, List.sum_cons, Ex.szL]
        rw [ih x (hl x (by simp)), ihl fun y hy => hl y (by simp [hy])]
    rw [this _ hk]
mutual
def Sm.cnt : Sm → Nat | .mk _ _ _ th el => 1 + Sm.cntL th + Sm.cntL el
def Sm.cntL : List Sm → Nat | [] => 0 | s :: l => s.cnt + Sm.cntL l
end
theorem Sm.cnt_eq (s : Sm) : s.cnt = 1 + Sm.cntL s.th + Sm.cntL s.el := by cases s; simp only [Sm.cnt, Sm.th, Sm.el]
theorem Sm.cntL_app (l r : List Sm) : Sm.cntL (l ++ r) = Sm.cntL l + Sm.cntL r := by
  induction l with
  | nil => simp [Sm.cntL]
  | cons s l ih => simp only [List.cons_append, Sm.cntL, ih]; omega
theorem rb_cnt (s : Sm) : Sm.cntL (rb s) ≤ s.cnt := by
  have := s.cnt_eq
  unfold rb
  repeat' split
  · simp [Sm.cntL]
  · omega
  · omega
  · simp [Sm.cntL]
mutual
theorem Sm.sl_cnt : (s : Sm) → Sm.cntL s.sl ≤ s.cnt
  | .mk k a e th el => by
    rw [Sm.sl]
    refine Nat.le_trans (rb_cnt _) ?_
    simp only [Sm.cnt]
    have := Sm.slL_cnt th
    have := Sm.slL_cnt el
    omega
theorem Sm.slL_cnt : (l : List Sm) → Sm.cntL (Sm.slL l) ≤ Sm.cntL l
  | [] => Nat.le_refl _
  | s :: l => by
    simp only [Sm.slL, Sm.cntL_app, Sm.cntL]
    have := Sm.sl_cnt s
    have := Sm.slL_cnt l
    omega
end
theorem rb_sz (s : Sm) : Sm.szL (rb s) ≤ s.sz := by
  have := s.sz_eq
  unfold rb
  repeat' split
  · simp [Sm.szL]
  · omega
  · omega
  · simp [Sm.szL]
mutual
theorem Sm.sl_sz : (s : Sm) → Sm.szL s.sl ≤ s.sz
  | .mk k a e th el => by
    rw [Sm.sl]
    refine Nat.le_trans (rb_sz _) ?_
    simp only [Sm.sz]
    have := Sm.slL_sz th
    have := Sm.slL_sz el
    have := e.slim_sz
    omega
theorem Sm.slL_sz : (l : List Sm) → Sm.szL (Sm.slL l) ≤ Sm.szL l
  | [] => Nat.le_refl _
  | s :: l => by
    have happ : ∀ a b : List Sm, Sm.szL (a ++ b) = Sm.szL a + Sm.szL b := by
      intro a b
      induction a with
      | nil => simp [Sm.szL]
      | cons s l ih => simp only [List.cons_append, Sm.szL, ih]; omega
    simp only [Sm.slL, happ, Sm.szL]
    have := Sm.sl_sz s
    have := Sm.slL_sz l
    omega
end
end Go.Proofs.YtmicbfojofcigaaGreat
