/- A part of a proof: lemmas and contracts of functions; the last text of the claim says what is proved. -/
import Derived.Test.YtmicbfojofcigaaGreatDoorXa05da7c509
set_option linter.unusedSectionVars false
set_option linter.unusedSimpArgs false
set_option linter.unusedVariables false
namespace Go.Proofs.YtmicbfojofcigaaGreatDoor
open Go Sg
set_option maxRecDepth 100000
set_option linter.unusedSimpArgs false
set_option linter.unusedVariables false
set_option linter.unusedSectionVars false
set_option maxHeartbeats 4000000
variable [ErrL]
def GI.takes (i : GI) : Int := if i.op == 3 || i.op == 5 || i.op == 6 then 1 else if i.op == 4 then 2 else 0
def GI.gives (i : GI) : Int := if i.op == 1 || i.op == 2 || i.op == 4 || i.op == 5 then 1 else 0
def GI.goes (i : GI) : Bool := i.op == 6 || i.op == 7 || i.op == 8
def GI.follows (i : GI) : Bool := i.op != 7 && i.op != 8
def GI.noA (i : GI) : Bool := i.a.kind == 0 && i.a.at' == 0
def GI.ok (i : GI) (k many : Int) : Bool :=
  if i.op == 1 then isNum i.n && i.noA
  else if i.op == 2 then i.n == 0 && i.a.ok
  else if i.op == 3 then i.n == 0 && (i.a.ok && i.a.kind != 1)
  else if i.op == 4 then isTwo i.n && i.noA
  else if i.op == 5 then i.n == 0 && i.noA
  else if i.op == 6 || i.op == 7 then decide (i.n > k) && decide (i.n ≤ many) && i.noA
  else if i.op == 8 then decide (i.n ≥ 0) && decide (i.n < k) && i.noA
  else false
theorem takes_ok (i : GI) : PureF Tryz.prog 92 [.agg i.cs] [.int .i64 i.takes] := by
  refine pureF_of Tryz.func92 rfl Tryz.ntmps92 (by simp) T_ ?_
  intro f0 B Q hQ
  refine g_ [1] ?_
  refine g_ [4] ?_
  refine g_ [4,5] ?_
  refine c_ (fun hc0 => ?_) fun hc0 => ?_
  ·
    refine c_ (fun hc1 => ?_) fun hc1 => ?_
    ·
      refine g_ [2] ?_
      refine e_ Tryz.results92 ?_
      first
      | exact True.intro
      | first
        | (simp only [GI.takes, *, ↓reduceIte, Bool.false_eq_true, Bool.or_self, Bool.or_true, Bool.true_or]; done)
        | (exfalso; simp_all; done)
    refine g_ [9] ?_
    refine c_ (fun hc2 => ?_) fun hc2 => ?_
    ·
      refine g_ [2] ?_
      refine e_ Tryz.results92 ?_
      first
      | exact True.intro
      | first
        | (simp only [GI.takes, *, ↓reduceIte, Bool.false_eq_true, Bool.or_self, Bool.or_true, Bool.true_or]; done)
        | (exfalso; simp_all; done)
    refine g_ [2] ?_
    refine e_ Tryz.results92 ?_
    first
    | exact True.intro
    | first
      | (simp only [GI.takes, *, ↓reduceIte, Bool.false_eq_true, Bool.or_self, Bool.or_true, Bool.true_or]; done)
      | (exfalso; simp_all; done)
  refine g_ [4,5] ?_
  refine c_ (fun hc3 => ?_) fun hc3 => ?_
  ·
    refine c_ (fun hc4 => ?_) fun hc4 => ?_
    ·
      refine g_ [2] ?_
      refine e_ Tryz.results92 ?_
      first
      | exact True.intro
      | first
        | (simp only [GI.takes, *, ↓reduceIte, Bool.false_eq_true, Bool.or_self, Bool.or_true, Bool.true_or]; done)
        | (exfalso; simp_all; done)
    refine g_ [9] ?_
    refine c_ (fun hc5 => ?_) fun hc5 => ?_
    ·
      refine g_ [2] ?_
      refine e_ Tryz.results92 ?_
      first
      | exact True.intro
      | first
        | (simp only [GI.takes, *, ↓reduceIte, Bool.false_eq_true, Bool.or_self, Bool.or_true, Bool.true_or]; done)
        | (exfalso; simp_all; done)
    refine g_ [2] ?_
    refine e_ Tryz.results92 ?_
    first
    | exact True.intro
    | first
      | (simp only [GI.takes, *, ↓reduceIte, Bool.false_eq_true, Bool.or_self, Bool.or_true, Bool.true_or]; done)
      | (exfalso; simp_all; done)
  refine g_ [4,5] ?_
  refine c_ (fun hc6 => ?_) fun hc6 => ?_
  ·
    refine g_ [2] ?_
    refine e_ Tryz.results92 ?_
    first
    | exact True.intro
    | first
      | (simp only [GI.takes, *, ↓reduceIte, Bool.false_eq_true, Bool.or_self, Bool.or_true, Bool.true_or]; done)
      | (exfalso; simp_all; done)
  refine g_ [9] ?_
  refine c_ (fun hc7 => ?_) fun hc7 => ?_
  ·
    refine g_ [2] ?_
    refine e_ Tryz.results92 ?_
    first
    | exact True.intro
    | first
      | (simp only [GI.takes, *, ↓reduceIte, Bool.false_eq_true, Bool.or_self, Bool.or_true, Bool.true_or]; done)
      | (exfalso; simp_all; done)
  refine g_ [2] ?_
  refine e_ Tryz.results92 ?_
  first
  | exact True.intro
  | first
    | (simp only [GI.takes, *, ↓reduceIte, Bool.false_eq_true, Bool.or_self, Bool.or_true, Bool.true_or]; done)
    | (exfalso; simp_all; done)
theorem gives_ok (i : GI) : PureF Tryz.prog 93 [.agg i.cs] [.int .i64 i.gives] := by
  refine pureF_of Tryz.func93 rfl Tryz.ntmps93 (by simp) T_ ?_
  intro f0 B Q hQ
  refine g_ [1] ?_
  refine g_ [4] ?_
  refine g_ [4,5] ?_
  refine c_ (fun hc0 => ?_) fun hc0 => ?_
  ·
    refine c_ (fun hc1 => ?_) fun hc1 => ?_
    ·
      refine g_ [2] ?_
      refine e_ Tryz.results93 ?_
      first
      | exact True.intro
      | first
        | (simp only [GI.gives, *, ↓reduceIte, Bool.false_eq_true, Bool.or_self, Bool.or_true, Bool.true_or]; done)
        | (exfalso; simp_all; done)
    refine g_ [2] ?_
    refine e_ Tryz.results93 ?_
    first
    | exact True.intro
    | first
      | (simp only [GI.gives, *, ↓reduceIte, Bool.false_eq_true, Bool.or_self, Bool.or_true, Bool.true_or]; done)
      | (exfalso; simp_all; done)
  refine g_ [4,5] ?_
  refine c_ (fun hc2 => ?_) fun hc2 => ?_
  ·
    refine c_ (fun hc3 => ?_) fun hc3 => ?_
    ·
      refine g_ [2] ?_
      refine e_ Tryz.results93 ?_
      first
      | exact True.intro
      | first
        | (simp only [GI.gives, *, ↓reduceIte, Bool.false_eq_true, Bool.or_self, Bool.or_true, Bool.true_or]; done)
        | (exfalso; simp_all; done)
    refine g_ [2] ?_
    refine e_ Tryz.results93 ?_
    first
    | exact True.intro
    | first
      | (simp only [GI.gives, *, ↓reduceIte, Bool.false_eq_true, Bool.or_self, Bool.or_true, Bool.true_or]; done)
      | (exfalso; simp_all; done)
  refine g_ [4,5] ?_
  refine c_ (fun hc4 => ?_) fun hc4 => ?_
  ·
    refine c_ (fun hc5 => ?_) fun hc5 => ?_
    ·
      refine g_ [2] ?_
      refine e_ Tryz.results93 ?_
      first
      | exact True.intro
      | first
        | (simp only [GI.gives, *, ↓reduceIte, Bool.false_eq_true, Bool.or_self, Bool.or_true, Bool.true_or]; done)
        | (exfalso; simp_all; done)
    refine g_ [2] ?_
    refine e_ Tryz.results93 ?_
    first
    | exact True.intro
    | first
      | (simp only [GI.gives, *, ↓reduceIte, Bool.false_eq_true, Bool.or_self, Bool.or_true, Bool.true_or]; done)
      | (exfalso; simp_all; done)
  refine g_ [5] ?_
  refine c_ (fun hc6 => ?_) fun hc6 => ?_
  ·
    refine g_ [2] ?_
    refine e_ Tryz.results93 ?_
    first
    | exact True.intro
    | first
      | (simp only [GI.gives, *, ↓reduceIte, Bool.false_eq_true, Bool.or_self, Bool.or_true, Bool.true_or]; done)
      | (exfalso; simp_all; done)
  refine g_ [2] ?_
  refine e_ Tryz.results93 ?_
  first
  | exact True.intro
  | first
    | (simp only [GI.gives, *, ↓reduceIte, Bool.false_eq_true, Bool.or_self, Bool.or_true, Bool.true_or]; done)
    | (exfalso; simp_all; done)
theorem goes_ok (i : GI) : PureF Tryz.prog 94 [.agg i.cs] [.bool i.goes] := by
  refine pureF_of Tryz.func94 rfl Tryz.ntmps94 (by simp) T_ ?_
  intro f0 B Q hQ
  refine g_ [1] ?_
  refine gD_ [2] ?_
  refine e_ Tryz.results94 ?_
  first
  | exact True.intro
  | rfl
theorem follows_ok (i : GI) : PureF Tryz.prog 95 [.agg i.cs] [.bool i.follows] := by
  refine pureF_of Tryz.func95 rfl Tryz.ntmps95 (by simp) T_ ?_
  intro f0 B Q hQ
  refine g_ [1] ?_
  refine gD_ [2] ?_
  refine e_ Tryz.results95 ?_
  first
  | exact True.intro
  | rfl
theorem insOk_ok (i : GI) (k many : Int) : PureF Tryz.prog 91 [.agg i.cs, .int .i64 k, .int .i64 many] [.bool (i.ok k many)] := by
  refine pureF_of Tryz.func91 rfl Tryz.ntmps91 (by simp) T_ ?_
  intro f0 B Q hQ
  refine g_ [1,2,3] ?_
  refine g_ [1,2,3,8] ?_
  refine g_ [1,2,3,8,9] ?_
  refine c_ (fun hc0 => ?_) fun hc0 => ?_
  ·
    refine n_ ?_
    refine wpM_regionK [6] rfl fun Q1 hQ1 => ?_
    refine SD_ ?_
    refine cpD_ (isNum_ok i.n) Tryz.call81 ?_
    refine hQ1 _ _ (S_ ?_);clear hQ1 Q1
    refine e_ Tryz.results91 ?_
    first
    | exact True.intro
    | first
      | (simp only [GI.ok, GI.noA, *, ↓reduceIte, Bool.false_eq_true, Bool.or_self, Bool.or_true, Bool.true_or, Bool.true_and, Bool.and_assoc]; done)
      | (exfalso; simp_all; done)
  refine g_ [1,2,3,8,20] ?_
  refine c_ (fun hc1 => ?_) fun hc1 => ?_
  ·
    refine n_ ?_
    refine wpM_regionK [6] rfl fun Q1 hQ1 => ?_
    refine SD_ ?_
    first | refine cg_ (fun hb => iaddrOk_ok i.a) Tryz.call120 ?_ | refine cpD_ (iaddrOk_ok i.a) Tryz.call120 ?_
    refine hQ1 _ _ (S_ ?_);clear hQ1 Q1
    refine e_ Tryz.results91 ?_
    first
    | exact True.intro
    | first
      | (simp only [GI.ok, GI.noA, *, ↓reduceIte, Bool.false_eq_true, Bool.or_self, Bool.or_true, Bool.true_or, Bool.true_and, Bool.and_assoc]; done)
      | (exfalso; simp_all; done)
  refine g_ [1,2,3,8,30] ?_
  refine c_ (fun hc2 => ?_) fun hc2 => ?_
  ·
    refine n_ ?_
    refine wpM_regionK [6] rfl fun Q1 hQ1 => ?_
    refine SD_ ?_
    first | refine cg_ (fun hb => puts_ok i.a) Tryz.call121 ?_ | refine cpD_ (puts_ok i.a) Tryz.call121 ?_
    refine hQ1 _ _ (S_ ?_);clear hQ1 Q1
    refine e_ Tryz.results91 ?_
    first
    | exact True.intro
    | first
      | (simp only [GI.ok, GI.noA, *, ↓reduceIte, Bool.false_eq_true, Bool.or_self, Bool.or_true, Bool.true_or, Bool.true_and, Bool.and_assoc]; done)
      | (exfalso; simp_all; done)
  refine g_ [1,2,3,8,40] ?_
  refine c_ (fun hc3 => ?_) fun hc3 => ?_
  ·
    refine n_ ?_
    refine wpM_regionK [6] rfl fun Q1 hQ1 => ?_
    refine SD_ ?_
    refine cpD_ (isTwo_ok i.n) Tryz.call122 ?_
    refine hQ1 _ _ (S_ ?_);clear hQ1 Q1
    refine e_ Tryz.results91 ?_
    first
    | exact True.intro
    | first
      | (simp only [GI.ok, GI.noA, *, ↓reduceIte, Bool.false_eq_true, Bool.or_self, Bool.or_true, Bool.true_or, Bool.true_and, Bool.and_assoc]; done)
      | (exfalso; simp_all; done)
  refine g_ [1,2,3,8,51] ?_
  refine c_ (fun hc4 => ?_) fun hc4 => ?_
  ·
    refine g_ [6] ?_
    refine e_ Tryz.results91 ?_
    first
    | exact True.intro
    | first
      | (simp only [GI.ok, GI.noA, *, ↓reduceIte, Bool.false_eq_true, Bool.or_self, Bool.or_true, Bool.true_or, Bool.true_and, Bool.and_assoc]; done)
      | (exfalso; simp_all; done)
  refine g_ [1,2,3,8,56] ?_
  refine c_ (fun hc5 => ?_) fun hc5 => ?_
  ·
    refine c_ (fun hc6 => ?_) fun hc6 => ?_
    ·
      refine gD_ [6] ?_
      refine e_ Tryz.results91 ?_
      first
      | exact True.intro
      | first
        | (simp only [GI.ok, GI.noA, *, ↓reduceIte, Bool.false_eq_true, Bool.or_self, Bool.or_true, Bool.true_or, Bool.true_and, Bool.and_assoc]; done)
        | (exfalso; simp_all; done)
    refine g_ [1,3,75] ?_
    refine c_ (fun hc7 => ?_) fun hc7 => ?_
    ·
      refine gD_ [6] ?_
      refine e_ Tryz.results91 ?_
      first
      | exact True.intro
      | first
        | (simp only [GI.ok, GI.noA, *, ↓reduceIte, Bool.false_eq_true, Bool.or_self, Bool.or_true, Bool.true_or, Bool.true_and, Bool.and_assoc]; done)
        | (exfalso; simp_all; done)
    refine g_ [6] ?_
    refine e_ Tryz.results91 ?_
    first
    | exact True.intro
    | first
      | (simp only [GI.ok, GI.noA, *, ↓reduceIte, Bool.false_eq_true, Bool.or_self, Bool.or_true, Bool.true_or, Bool.true_and, Bool.and_assoc]; done)
      | (exfalso; simp_all; done)
  refine g_ [1,2,3,8,56] ?_
  refine c_ (fun hc8 => ?_) fun hc8 => ?_
  ·
    refine gD_ [6] ?_
    refine e_ Tryz.results91 ?_
    first
    | exact True.intro
    | first
      | (simp only [GI.ok, GI.noA, *, ↓reduceIte, Bool.false_eq_true, Bool.or_self, Bool.or_true, Bool.true_or, Bool.true_and, Bool.and_assoc]; done)
      | (exfalso; simp_all; done)
  refine g_ [1,3,75] ?_
  refine c_ (fun hc9 => ?_) fun hc9 => ?_
  ·
    refine gD_ [6] ?_
    refine e_ Tryz.results91 ?_
    first
    | exact True.intro
    | first
      | (simp only [GI.ok, GI.noA, *, ↓reduceIte, Bool.false_eq_true, Bool.or_self, Bool.or_true, Bool.true_or, Bool.true_and, Bool.and_assoc]; done)
      | (exfalso; simp_all; done)
  refine g_ [6] ?_
  refine e_ Tryz.results91 ?_
  first
  | exact True.intro
  | first
    | (simp only [GI.ok, GI.noA, *, ↓reduceIte, Bool.false_eq_true, Bool.or_self, Bool.or_true, Bool.true_or, Bool.true_and, Bool.and_assoc]; done)
    | (exfalso; simp_all; done)
end Go.Proofs.YtmicbfojofcigaaGreatDoor
namespace Go.Proofs.YtmicbfojofcigaaGreatDoor
open Go Sg
set_option maxRecDepth 100000
set_option linter.unusedSimpArgs false
set_option linter.unusedVariables false
set_option linter.unusedSectionVars false
set_option maxHeartbeats 4000000
variable [ErrL]
theorem u64wrap (n : Int) (h : 0 ≤ n) (h1 : n < 18446744073709551616) : IntKind.u64.wrap n = n := by
  show n % 18446744073709551616 = n
  omega
@[go_sem high] theorem and32 (t : TypeId) (x y : Operand) (n : Int) (h : 0 ≤ n) (h1 : n < 4294967296) : binOpA Tryz.prog .and t x y (.int .u64 n) (.int .u64 4294967295) = some (.int .u64 n) := by
  rw [bin_and]
  have : (BitVec.ofInt IntKind.u64.bits n &&& BitVec.ofInt IntKind.u64.bits 4294967295).toNat = n.toNat := by
    show (BitVec.ofInt 64 n &&& BitVec.ofInt 64 4294967295).toNat = n.toNat
    have e : BitVec.ofInt 64 4294967295 = BitVec.ofNat 64 (2 ^ 32 - 1) := by decide
    rw [e, BitVec.toNat_and, BitVec.toNat_ofNat, BitVec.toNat_ofInt]
    have e2 : (2 ^ 32 - 1) % 2 ^ 64 = 2 ^ 32 - 1 := by decide
    rw [e2, Nat.and_two_pow_sub_one_eq_mod]
    omega
  rw [this, u64wrap _ (by omega) (by omega)]
  congr 2; omega
@[go_sem high] theorem shr32 (t : TypeId) (x y : Operand) (n : Int) (h : 0 ≤ n) (h1 : n < 4294967296) : binOpA Tryz.prog .shr t x y (.int .u64 n) (.int .u64 32) = some (.int .u64 0) := by
  rw [bin_shr]
  simp only [shiftA]
  rw [if_neg (by omega)]
  have : n.fdiv (2 ^ (min (32 : Int).toNat IntKind.u64.bits)) = 0 := by
    show n.fdiv (2 ^ 32) = 0
    rw [Int.fdiv_eq_ediv_of_nonneg _ (by decide)]
    omega
  rw [this]
theorem mul64_ok (n : Int) (h : 0 ≤ n) (h1 : n < 4294967296) : PureF Tryz.prog 155 [.int .u64 1, .int .u64 n] [.int .u64 0, .int .u64 n] := by
  refine pureF_of Tryz.func155 rfl Tryz.ntmps155 (by simp) T_ ?_
  intro f0 B Q hQ
  refine g_ [0,1] ?_
  refine n_ ?_
  refine wpM_regionK [0,1,6] rfl fun Q1 hQ1 => ?_
  simp -implicitDefEqProofs (disch := omega) only [go_sem, and32]
  refine hQ1 _ _ (S_ ?_);clear hQ1 Q1
  refine n_ ?_
  refine wpM_regionK [0,1,6,7] rfl fun Q1 hQ1 => ?_
  simp -implicitDefEqProofs (disch := omega) only [go_sem, shr32]
  refine hQ1 _ _ (S_ ?_);clear hQ1 Q1
  refine n_ ?_
  refine wpM_regionK [0,1,6,7,8] rfl fun Q1 hQ1 => ?_
  simp -implicitDefEqProofs (disch := omega) only [go_sem, and32]
  refine hQ1 _ _ (S_ ?_);clear hQ1 Q1
  refine n_ ?_
  refine wpM_regionK [0,1,6,7,8,9] rfl fun Q1 hQ1 => ?_
  simp -implicitDefEqProofs (disch := omega) only [go_sem, shr32]
  refine hQ1 _ _ (S_ ?_);clear hQ1 Q1
  refine n_ ?_
  refine wpM_regionK [0,1,6,7,8,9,10] rfl fun Q1 hQ1 => ?_
  simp -implicitDefEqProofs (disch := omega) only [go_sem, u64wrap, Int.one_mul]
  refine hQ1 _ _ (S_ ?_);clear hQ1 Q1
  refine n_ ?_
  refine wpM_regionK [0,1,6,7,9,11] rfl fun Q1 hQ1 => ?_
  simp -implicitDefEqProofs (disch := omega) only [go_sem, u64wrap, Int.zero_mul, shr32]
  refine hQ1 _ _ (S_ ?_);clear hQ1 Q1
  refine n_ ?_
  refine wpM_regionK [0,1,6,7,9,11,12] rfl fun Q1 hQ1 => ?_
  simp -implicitDefEqProofs (disch := omega) only [go_sem, and32]
  refine hQ1 _ _ (S_ ?_);clear hQ1 Q1
  refine n_ ?_
  refine wpM_regionK [0,1,6,7,9,12,13] rfl fun Q1 hQ1 => ?_
  simp -implicitDefEqProofs (disch := omega) only [go_sem, shr32]
  refine hQ1 _ _ (S_ ?_);clear hQ1 Q1
  refine n_ ?_
  refine wpM_regionK [0,1,7,9,12,13] rfl fun Q1 hQ1 => ?_
  simp -implicitDefEqProofs (disch := omega) only [go_sem, u64wrap, Int.mul_zero]
  refine hQ1 _ _ (S_ ?_);clear hQ1 Q1
  refine n_ ?_
  refine wpM_regionK [0,1,4] rfl fun Q1 hQ1 => ?_
  simp -implicitDefEqProofs (disch := omega) only [go_sem, u64wrap, Int.mul_zero, shr32]
  refine hQ1 _ _ (S_ ?_);clear hQ1 Q1
  refine n_ ?_
  refine wpM_regionK [4,5] rfl fun Q1 hQ1 => ?_
  simp -implicitDefEqProofs (disch := omega) only [go_sem, u64wrap, Int.one_mul]
  refine hQ1 _ _ (S_ ?_);clear hQ1 Q1
  exact e_ Tryz.results155 True.intro
theorem bmul_ok (n : Int) (h : 0 ≤ n) (h1 : n < 4294967296) : PureF Tryz.prog 119 [.int .u64 1, .int .u64 n] [.int .u64 0, .int .u64 n] := by
  refine pureF_of Tryz.func119 rfl Tryz.ntmps119 (by simp) T_ ?_
  intro f0 B Q hQ
  refine g_ [0,1] ?_
  refine c1_ ?_
  refine n_ ?_
  refine wpM_regionK [8,9] rfl fun Q1 hQ1 => ?_
  refine S_ ?_
  refine cp_ (mul64_ok n h h1) Tryz.call155 ?_
  refine hQ1 _ _ (S_ ?_);clear hQ1 Q1
  refine g_ [4,5] ?_
  exact e_ Tryz.results119 True.intro
def repL (L : List Int) (i k : Nat) : List Int := L.take i ++ L.take k ++ L.drop (i + k)
theorem repL_splice (L : List Int) (i k : Nat) (h : k ≤ L.length) : splice (ints L) i (List.take k (ints L)) = ints (repL L i k) := by
  have : (List.take k (ints L)).length = k := by simp [ints]; omega
  rw [splice, this]
  simp only [repL, ints, List.map_append, List.map_take, List.map_drop]
theorem repL_len (L : List Int) (i k : Nat) (h1 : k ≤ i) (h2 : i + k ≤ L.length) : (repL L i k).length = L.length := by simp [repL]; omega
theorem repL_take (L : List Int) (i k : Nat) (v : Int) (h1 : k ≤ i) (h2 : i + k ≤ L.length) (h : L.take i = List.replicate i v) : (repL L i k).take (i + k) = List.replicate (i + k) v := by
  have hk : L.take k = List.replicate k v := by
    have : L.take k = (L.take i).take k := by rw [List.take_take, Nat.min_eq_left h1]
    rw [this, h, List.take_replicate, Nat.min_eq_left h1]
  rw [repL, h, hk]
  rw [List.take_append_of_le_length (by simp)]
  rw [List.take_of_length_le (by simp), List.replicate_append_replicate]
theorem repeat_ok (id : Nat) (v : Int) (n : Nat) (h0 : 0 < n) (h1 : n ≤ 1000000) : CallF Tryz.prog 89 [.sl 3 id 0 1, .int .i64 (n : Nat)] [(id, .cells 3 [.int .i64 v])] 1 (fun ns o => ∃ z, ns = [z] ∧ o = { rs := [.sl 3 z 0 n], nw := [(z, .cells 3 (ints (List.replicate n v)))] }) := by
  refine callF_of' Tryz.func89 rfl Tryz.ntmps89 (by simp) ?_
  intro f0 B ns Q hB hns hQ
  have hid : id < B := hB id (by simp [hasKey, lk])
  obtain ⟨z, rfl⟩ : ∃ z, ns = [z] := by
    match ns, hns with
    | [x], _ => exact ⟨x, rfl⟩
  have hmin : min 1 n = 1 := by omega
  refine g_ [0,1] ?_
  refine g_ [0,1,10] ?_
  refine c_ (fun hc0 => ?_) fun hc0 => ?_
  · exfalso; omega
  refine n_ ?_
  refine wpM_regionK [0,5,6] rfl fun Q1 hQ1 => ?_
  simp -implicitDefEqProofs (disch := omega) only [go_sem, u64wrap]
  refine call_p (bmul_ok (n : Int) (by omega) (by omega)) Tryz.call119 rfl rfl rfl (by first | rfl | (simp -implicitDefEqProofs (disch := omega) only [go_sem] <;> rfl)) ?_
  simp -implicitDefEqProofs (disch := omega) only [go_sem, u64wrap]
  refine hQ1 _ _ (S_ ?_);clear hQ1 Q1
  refine gD_ [0,6,26] ?_
  refine c_ (fun hc1 => ?_) fun hc1 => ?_
  · exfalso; simp at hc1; omega
  refine n_ ?_
  refine wpM_regionK [0,7] rfl fun Q1 hQ1 => ?_
  simp -implicitDefEqProofs (disch := omega) only [go_sem, u64wrap]
  refine hQ1 _ _ (S_ ?_);clear hQ1 Q1
  refine n_ ?_
  refine wpM_regionK [7,8] rfl fun Q1 hQ1 => ?_
  simp -implicitDefEqProofs (disch := omega) only [go_sem, hmin, List.length_replicate]
  refine hQ1 _ _ (S_ ?_);clear hQ1 Q1
  rw [splice_ints _ _ _ (by simp; omega)]
  refine n_ ?_
  refine wpM_loopS (fun q k s' => ∃ (i : Nat) (L : List Int), k + i = n ∧ 0 < i ∧ L.length = n ∧ L.take i = List.replicate i v ∧ s' = { q with env := setE 8 (.int .i64 (i : Nat)) q.env, l := setl B (.cells 3 (ints L)) q.l }) (n - 1) ?_ ?_
  ·
    refine .of' _ _ ⟨1, (List.replicate n 0).set 0 v, by omega, by omega, by simp, ?_, rfl⟩ ?_ ?_ ?_
    · obtain ⟨n, rfl⟩ : ∃ k, n = k + 1 := ⟨n - 1, by omega⟩
      simp [List.replicate_succ]
    all_goals exact L_
  rintro k s' ⟨i, L, hk, hi, hL, ht, rfl⟩
  try refine S_ ?_
  refine g_ [7,8,37] ?_
  refine c_ (fun hc2 => ?_) fun hc2 => ?_
  ·
    refine n_ ?_
    refine dr_ mixed [7,8] 0 1 [B] [⟨[8],[],[],[],false⟩,⟨[7],[],[],[],false⟩,⟨[8],[],[],[],false⟩,⟨[39,40],[],[],[],false⟩,⟨[7],[],[],[],false⟩,⟨[8],[],[],[],false⟩,⟨[42,43],[],[],[],false⟩,⟨[41,44],[0],[0],[],false⟩,⟨[38,45],[],[],[],false⟩,⟨[46],[],[],[],false⟩] [0,1,2,3,4,5,6,7,8,9] [[],[],[],[1,2],[],[],[4,5],[1,2,3,4,5,6],[0,1,2,3,4,5,6,7],[0,1,2,3,4,5,6,7,8]] 1 ?_
    intro O A K hO hA hK;simp only [atL_cons,atL_nil,Nat.reduceAdd,Nat.zero_add] at hO hA
    refine SO_ ?_
    refine hK _ (S_ ?_);clear hK K hO hA O A
    obtain ⟨m, hm⟩ : ∃ m, m = min i (n - i) := ⟨_, rfl⟩
    rw [← hm]
    have hlt : i < n := by omega
    rw [repL_splice L i m (by omega)]
    refine .of' _ _ ⟨n - (i + m), by omega, i + m, repL L i m, by omega, by omega, by rw [repL_len L i m (by omega) (by omega), hL], repL_take L i m v (by omega) (by omega) ht, rfl⟩ ?_ ?_ ?_
    all_goals exact L_
  refine g_ [4] ?_
  refine wpM_ret ?_
  try refine S_ ?_
  have hin : i = n := by omega
  have hL2 : L = List.replicate n v := by rw [← hin, ← ht, hin, ← hL, List.take_length]
  rw [hL2]
  refine hQ _ _ (retK [B] [] [(z, .cells 3 (ints (List.replicate n v)))] rfl rfl rfl (by rw [Tryz.results89] <;> simp (maxSteps := 1000000) -implicitDefEqProofs (disch := omega) only [go_sem] <;> rfl) ?_ ⟨z, rfl, rfl⟩ ?_ ?_ ?_ ?_ ?_ ?_)
  all_goals (first | (simp -implicitDefEqProofs (disch := omega) only [go_sem, List.nodup_cons, List.nodup_nil, true_or, or_true, List.mem_cons, List.not_mem_nil, if_true, List.length_append]; done) | (simp -implicitDefEqProofs (disch := omega) only [go_sem, List.nodup_cons, List.nodup_nil, true_or, or_true, List.mem_cons, List.not_mem_nil, List.length_append]; first | rfl | omega))
end Go.Proofs.YtmicbfojofcigaaGreatDoor
namespace Go.Proofs.YtmicbfojofcigaaGreatDoor
open Go Sg
set_option maxRecDepth 100000
set_option linter.unusedSimpArgs false
set_option linter.unusedVariables false
set_option linter.unusedSectionVars false
set_option maxHeartbeats 4000000
variable [ErrL]
def tellL (L : List Int) (k : Nat) (n : Int) : List Int := if L.getD k 0 == -1 then L.set k n else L
def tellB (L : List Int) (k : Nat) (n : Int) : Bool := (tellL L k n).getD k 0 == n
theorem tellL_len (L : List Int) (k : Nat) (n : Int) : (tellL L k n).length = L.length := by
  unfold tellL; split <;> simp
def hfoot (h y : Nat) (L : List Int) : List (Nat × AObj) := [(h, .cells 31 [.sl 3 y 0 L.length]), (y, .cells 3 (ints L))]
@[go_sem] theorem hfoot_eq (h y : Nat) (L : List Int) : hfoot h y L = [(h, .cells 31 [.sl 3 y 0 L.length]), (y, .cells 3 (ints L))] := rfl
theorem tell_ok (h y : Nat) (hhy : h ≠ y) (L : List Int) (k : Nat) (hk : k < L.length) (n : Int) : CallF Tryz.prog 90 ([.int .i64 (k : Nat), .int .i64 n] ++ [.ptr h 0]) (hfoot h y L) 0 (fun _ o => o = { rs := [.bool (tellB L k n)], u := [(y, some (.cells 3 (ints (tellL L k n))))] }) := by
  refine callF_of' Tryz.func90 rfl Tryz.ntmps90 (by simp) ?_
  intro f0 B ns Q hB hns hQ
  have hh : h < B := hB h (by simp [hasKey, lk, hfoot])
  have hy : y < B := hB y (by simp [hasKey, lk, hfoot, hhy])
  obtain rfl : ns = [] := List.eq_nil_of_length_eq_zero hns
  refine g_ [0,1,2] ?_
  refine g_ [0,1,2,10] ?_
  refine c_ (fun hc0 => ?_) fun hc0 => ?_
  ·
    have hT : tellL L k n = L.set k n := by rw [tellL, if_pos hc0]
    have hk2 : k < (L.set k n).length := by simp; exact hk
    refine g_ [0,1,2] ?_
    refine g_ [5] ?_
    refine wpM_ret ?_
    try refine S_ ?_
    unfold tellB at hQ
    rw [hT] at hQ
    refine hQ _ _ (ret0 [(y, some (.cells 3 (ints _)))] rfl rfl rfl (by rw [Tryz.results90] <;> simp (maxSteps := 1000000) -implicitDefEqProofs (disch := omega) only [go_sem] <;> rfl) rfl ?_ ?_ ?_ ?_)
    all_goals simp -implicitDefEqProofs (disch := omega) only [go_sem, true_or, or_true]
  have hT : tellL L k n = L := by rw [tellL, if_neg (by rw [hc0]; simp)]
  refine g_ [5] ?_
  refine wpM_ret ?_
  try refine S_ ?_
  unfold tellB at hQ
  rw [hT] at hQ
  refine hQ _ _ (ret0 [(y, some (.cells 3 (ints _)))] rfl rfl rfl (by rw [Tryz.results90] <;> simp (maxSteps := 1000000) -implicitDefEqProofs (disch := omega) only [go_sem] <;> rfl) rfl ?_ ?_ ?_ ?_)
  all_goals simp -implicitDefEqProofs (disch := omega) only [go_sem, true_or, or_true]
def tD (i : GI) (L : List Int) (k : Nat) : Int := L.getD k 0 - i.takes + i.gives
def L1D (i : GI) (L : List Int) (t : Int) : List Int := if !decide (t > 12) && i.goes then tellL L i.n.toNat t else L
def bad1D (i : GI) (L : List Int) (t : Int) : Bool := decide (t > 12) || i.goes && !tellB L i.n.toNat t
def L2D (i : GI) (L : List Int) (k : Nat) (t : Int) : List Int := if !bad1D i L t && i.follows then tellL (L1D i L t) (k + 1) t else L1D i L t
def bad0D (i : GI) (n : Int) (L : List Int) (k : Nat) : Bool := !i.ok k n || L.getD k 0 == -1 || decide (L.getD k 0 < i.takes)
def bad2D (i : GI) (L : List Int) (k : Nat) (t : Int) : Bool := bad1D i L t || i.follows && !tellB (L1D i L t) (k + 1) t
def stepI (i : GI) (n : Int) (L : List Int) (k : Nat) : Option (List Int) := if bad0D i n L k then none else if bad2D i L k (tD i L k) then none else some (L2D i L k (tD i L k))
def stepD (p : List GI) (L : List Int) (k : Nat) : Option (List Int) := stepI (p.getD k default) p.length L k
def runD' (p : List GI) : Nat → Option (List Int)
  | 0 => some ((List.replicate (p.length + 1) (-1)).set 0 0)
  | k + 1 => match runD' p k with
    | some L => stepD p L k
    | none => none
def depthsF (p : List GI) : Option (List Int) := if (p.length : Int) > 400 then none else runD' p p.length
theorem runD_none {p : List GI} {k : Nat} (h : runD' p k = none) : ∀ n, runD' p (k + n) = none
  | 0 => h
  | n + 1 => by rw [← Nat.add_assoc, runD', runD_none h n]
def depV (p : List GI) : List Int × Bool := match depthsF p with
  | some L => (L, L.getD p.length 0 == 0)
  | none => ([], false)
theorem goes_in {i : GI} {k n : Nat} (hk : k < n) (h : i.ok k n = true) (hg : i.goes = true) : 0 ≤ i.n ∧ i.n.toNat < n + 1 := by
  unfold GI.goes at hg
  unfold GI.ok at h
  simp only [Bool.or_eq_true, beq_iff_eq] at hg
  rcases hg with (hg | hg) | hg <;> rw [hg] at h <;> simp at h <;> omega
theorem L1D_len (i : GI) (L : List Int) (t : Int) : (L1D i L t).length = L.length := by
  unfold L1D; split <;> simp [tellL_len]
theorem L2D_len (i : GI) (L : List Int) (k : Nat) (t : Int) : (L2D i L k t).length = L.length := by
  unfold L2D; split <;> simp [tellL_len, L1D_len]
theorem stepD_len {p : List GI} {L L' : List Int} {k : Nat} (h : stepD p L k = some L') : L'.length = L.length := by
  unfold stepD stepI at h
  split at h
  · cases h
  · split at h
    · cases h
    · injection h with h; subst h
      exact L2D_len _ _ _ _
def Bnd (L : List Int) : Prop := ∀ j, -1 ≤ L.getD j 0 ∧ L.getD j 0 ≤ 12
theorem Bnd.set {L : List Int} (h : Bnd L) (k : Nat) (v : Int) (h0 : -1 ≤ v) (h1 : v ≤ 12) : Bnd (L.set k v) := by
  intro j
  simp only [List.getD, List.getElem?_set]
  split
  · split
    · exact ⟨h0, h1⟩
    · simp
  · exact h j
theorem Bnd.tell {L : List Int} (h : Bnd L) (k : Nat) (v : Int) (h0 : -1 ≤ v) (h1 : v ≤ 12) : Bnd (tellL L k v) := by
  unfold tellL; split
  · exact h.set k v h0 h1
  · exact h
theorem Bnd.l2 {i : GI} {L : List Int} (h : Bnd L) {k : Nat} {t : Int} (h0 : -1 ≤ t) (h1 : t ≤ 12) : Bnd (L2D i L k t) := by
  have hl : Bnd (L1D i L t) := by
    unfold L1D; split
    · exact h.tell _ _ h0 h1
    · exact h
  unfold L2D; split
  · exact hl.tell _ _ h0 h1
  · exact hl
theorem Bnd.first (n : Nat) : Bnd ((List.replicate n (-1 : Int)).set 0 0) := by
  refine Bnd.set (fun j => ?_) 0 0 (by omega) (by omega)
  simp only [List.getD, List.getElem?_replicate]
  split <;> simp
theorem takes_in (i : GI) : 0 ≤ i.takes ∧ i.takes ≤ 2 := by unfold GI.takes; split <;> (try split) <;> omega
theorem gives_in (i : GI) : 0 ≤ i.gives ∧ i.gives ≤ 1 := by unfold GI.gives; split <;> omega
def repI (n : Nat) (v : Int) : List Int := List.replicate n v
theorem repI_len (n : Nat) (v : Int) : (repI n v).length = n := List.length_replicate
theorem repeat_ok' (id : Nat) (v : Int) (n : Nat) (h0 : 0 < n) (h1 : n ≤ 1000000) : CallF Tryz.prog 89 [.sl 3 id 0 1, .int .i64 (n : Nat)] [(id, .cells 3 [.int .i64 v])] 1 (fun ns o => ∃ z, ns = [z] ∧ o = { rs := [.sl 3 z 0 n], nw := [(z, .cells 3 (ints (repI n v)))] }) := repeat_ok id v n h0 h1
theorem depths_ok (p : List GI) (hp : p.length ≤ 1099511627776) : PureF Tryz.prog 50 [.rows 81 (insR p)] [.rows 3 (rowsI (depV p).1), .bool (depV p).2] := by
  refine pureF_of Tryz.func50 rfl Tryz.ntmps50 (by simp) T_ ?_
  intro f0 B Q hQ
  refine g_ [0] ?_
  refine g_ [0,11] ?_
  refine c_ (fun hc0 => ?_) fun hc0 => ?_
  ·
    refine g_ [2,3] ?_
    have hcs : depV p = ([], false) := by rw [depV, depthsF, if_pos hc0]
    refine wpM_le [(2, .rows 3 []), (3, .bool false)] [] T_ T_ T_ ?_
    refine e_ Tryz.results50 ?_
    first
    | exact True.intro
    | rw [hcs]
      exact ⟨rfl, rfl⟩
  refine n_ ?_
  refine wpM_regionK [0,4] rfl fun Q1 hQ1 => ?_
  refine S_ ?_
  refine call_fn (l := [(B, .cells 3 [.int .i64 (-1)])]) (first := []) (cap := []) (ps := [.sl 3 B 0 1, .int .i64 ((p.length + 1 : Nat) : Int)]) (repeat_ok' B (-1) (p.length + 1) (by omega) (by omega)) Tryz.call89 rfl rfl rfl G_ T_ ?_
  rintro out ⟨z', ⟨⟩, rfl⟩
  refine S_ ?_
  refine hQ1 _ _ (S_ ?_);clear hQ1 Q1
  refine n_ ?_
  have hD : depthsF p = runD' p p.length := by rw [depthsF, if_neg hc0]
  have hr0 : (repI (p.length + 1) (-1 : Int)).length = p.length + 1 := repI_len _ _
  have hr1 : runD' p 0 = some ((repI (p.length + 1) (-1)).set 0 0) := rfl
  have hr3 : Bnd ((repI (p.length + 1) (-1)).set 0 0) := Bnd.first _
  generalize hR : repI (p.length + 1) (-1 : Int) = R at *
  clear hR
  refine g_ [0,4] ?_
  refine g_ [0,4,5] ?_
  refine g_ [0,4,5,20,21,22] ?_
  refine n_ ?_
  refine wpM_loopS (fun q n s' => ∃ (i M : Nat) (L : List Int), i + n = p.length ∧ B + 3 ≤ M ∧ runD' p i = some L ∧ L.length = p.length + 1 ∧ Bnd L ∧ s' = { q with env := setE 22 (.int .i64 (i : Nat)) q.env, l := hfoot (B + 2) (B + 1) L, M := M }) (p.length) ?_ ?_
  ·
    have hr2 : (R.set 0 0).length = p.length + 1 := by rw [List.length_set, hr0]
    refine .of' _ _ ⟨0, _, R.set 0 0, by omega, Nat.le_refl _, hr1, hr2, hr3, rfl⟩ ?_ ?_ ?_
    all_goals (try simp only [hfoot_eq, hr2])
    all_goals exact L_
  rintro n s' ⟨i, M, L, hi, hM, hrun, hL, hbn, rfl⟩
  try refine S_ ?_
  refine g_ [0,4,5,20,21,22,23] ?_
  refine c_ (fun hc1 => ?_) fun hc1 => ?_
  ·
    have hi2 : i < p.length := by omega
    have hst : runD' p (i + 1) = stepI (p.getD i default) p.length L i := by rw [runD', hrun]; rfl
    refine g_ [0,4,5,6,7,20,21,22] ?_
    generalize hI : p.getD i default = I at *
    refine n_ ?_
    refine dr_ mixed [0,4,5,6,7,20,21,22,48] 0 3 [B + 2, B + 1, M] [⟨[7],[2],[],[],false⟩,⟨[6],[],[],[],false⟩,⟨[0],[],[],[],false⟩,⟨[29],[],[],[],false⟩,⟨[27,28,30],[],[],[],true⟩,⟨[31],[],[],[],false⟩,⟨[32],[],[],[],false⟩,⟨[4,33],[0],[],[],false⟩,⟨[6,33],[],[],[],false⟩,⟨[33,34,35],[],[],[],false⟩,⟨[33,36],[1],[],[],false⟩,⟨[33,37],[],[],[],false⟩,⟨[33,38],[],[],[],false⟩,⟨[39],[],[],[],false⟩,⟨[4,40],[0],[],[],false⟩,⟨[6,40],[],[],[],false⟩,⟨[40,41,42],[],[],[],false⟩,⟨[40,43],[1],[],[],false⟩,⟨[7,40],[2],[],[],false⟩,⟨[40,45],[],[],[],true⟩,⟨[40,44,46],[],[],[],false⟩,⟨[40,47],[],[],[],false⟩] [0,1,2,3,4,5,6,7,8,9,10,11,12,13,14,15,16,17,18,19,20,21] [[],[],[],[2],[0,1,2,3],[0,1,2,3,4],[0,1,2,3,4,5],[0,1,2,3,4,5,6],[0,1,2,3,4,5,6],[0,1,2,3,4,5,6,7,8],[0,1,2,3,4,5,6,7,8,9],[0,1,2,3,4,5,6,7,8,9,10],[0,1,2,3,4,5,6,7,8,9,10,11],[0,1,2,3,4,5,6,7,8,9,10,11,12],[0,1,2,3,4,5,6,7,8,9,10,11,12,13],[0,1,2,3,4,5,6,7,8,9,10,11,12,13],[0,1,2,3,4,5,6,7,8,9,10,11,12,13,14,15],[0,1,2,3,4,5,6,7,8,9,10,11,12,13,14,15,16],[0,1,2,3,4,5,6,7,8,9,10,11,12,13],[0,1,2,3,4,5,6,7,8,9,10,11,12,13,18],[0,1,2,3,4,5,6,7,8,9,10,11,12,13,14,15,16,17,18,19],[0,1,2,3,4,5,6,7,8,9,10,11,12,13,14,15,16,17,18,19,20]] 3 (htbl := by simp; omega) (hnm := by simp) ?_
    intro O A K hO hA hK;simp only [atL_cons,atL_nil,Nat.reduceAdd,Nat.zero_add] at hO hA
    refine SE_ ?_
    refine lpE_ (insOk_ok I (i : Nat) (p.length : Nat)) Tryz.call91 ?_
    first | refine lg_ (fun hb => takes_ok I) Tryz.call92 ?_ | refine lpE_ (takes_ok I) Tryz.call92 ?_
    refine hK _ (S_ ?_);clear hK K hO hA O A
    refine c_ (fun hc2 => ?_) fun hc2 => ?_
    ·
      refine g_ [2,3] ?_
      have hcs : depV p = ([], false) := by
        have hn : runD' p (i + 1) = none := by rw [hst, stepI, if_pos (show bad0D I p.length L i = true from hc2)]
        have := runD_none hn (p.length - (i + 1))
        rw [show i + 1 + (p.length - (i + 1)) = p.length by omega] at this
        rw [depV, hD, this]
      refine wpM_le [(2, .rows 3 []), (3, .bool false)] [] T_ T_ T_ ?_
      refine e_ Tryz.results50 ?_
      first
      | exact True.intro
      | rw [hcs]
        exact ⟨rfl, rfl⟩
    have hb0 : bad0D I p.length L i = false := hc2
    have hbi := hbn i
    have htk := takes_in I
    have hgv := gives_in I
    have hb1 := hb0
    simp only [bad0D, Bool.or_eq_false_iff, Bool.not_eq_false', beq_eq_false_iff_ne, decide_eq_false_iff_not] at hb1
    obtain ⟨⟨hiok, hne⟩, hge⟩ := hb1
    have hgo : I.goes = true → 0 ≤ I.n ∧ I.n.toNat < L.length := fun h => by
      have := goes_in (n := p.length) hi2 hiok h
      omega
    refine n_ ?_
    refine dr_ mixed [0,4,5,6,7,8,20,21,22] 0 3 [B + 2, B + 1, M] [⟨[4],[0],[],[],false⟩,⟨[6],[],[],[],false⟩,⟨[49,50],[],[],[],false⟩,⟨[51],[1],[],[],false⟩,⟨[7],[2],[],[],false⟩,⟨[53],[],[],[],true⟩,⟨[52,54],[],[],[],false⟩,⟨[7],[2],[],[],false⟩,⟨[56],[],[],[],true⟩,⟨[55,57],[],[],[],false⟩,⟨[58],[],[],[],false⟩] [0,1,2,3,4,7,5,6,8,9,10] [[],[],[0,1],[0,1,2],[],[4],[0,1,2,3,4,5],[],[4,5,7],[0,1,2,3,4,5,6,7,8],[0,1,2,3,4,5,6,7,8,9]] 3 (htbl := by simp; omega) (hnm := by simp) ?_
    intro O A K hO hA hK;simp only [atL_cons,atL_nil,Nat.reduceAdd,Nat.zero_add] at hO hA
    refine SO_ ?_
    refine lp_ (takes_ok I) Tryz.call92 ?_
    refine lp_ (gives_ok I) Tryz.call93 ?_
    refine hK _ (S_ ?_);clear hK K hO hA O A
    have ht : L.getD i 0 - I.takes + I.gives = tD I L i := rfl
    rw [ht]
    refine n_ ?_
    refine wpM_regionK [0,4,5,20,21,22,84] rfl fun Q1 hQ1 => ?_
    refine SD_ ?_
    first | refine cg_ (fun hb => goes_ok I) Tryz.call94 ?_ | refine cpD_ (goes_ok I) Tryz.call94 ?_
    refine callG_u (B + 1) 3 (ints L) (ints (tellL L I.n.toNat (tD I L i))) (ints (L1D I L (tD I L i))) (cap := [.ptr (B + 2) 0]) (args := [.int .i64 ((I.n.toNat : Nat) : Int), .int .i64 (tD I L i)]) (lf := hfoot (B + 2) (B + 1) L) (fun hb => tell_ok (B + 2) (B + 1) (by omega) L I.n.toNat (hgo (Bool.and_eq_true_iff.1 hb).2).2 (tD I L i)) Tryz.call90 (fun hb => by rw [L1D, if_pos hb]) (fun hb => by rw [L1D, if_neg (by rw [hb]; simp)]) T_ (fun hb => by simp -implicitDefEqProofs (disch := omega) only [go_sem]) rfl rfl (fun hb => by simp -implicitDefEqProofs (disch := omega) only [go_sem, hb, gd_of hb]) (fun hb => ?_) ?_
    · have hn0 := (hgo (Bool.and_eq_true_iff.1 hb).2).1
      have hn1 : ((I.n.toNat : Nat) : Int) = I.n := by omega
      simp -implicitDefEqProofs (disch := omega) only [go_sem, hb, gd_of hb, hn1]
    refine SD_ ?_
    first | refine cg_ (fun hb => follows_ok I) Tryz.call95 ?_ | refine cpD_ (follows_ok I) Tryz.call95 ?_
    have hl1 := L1D_len I L (tD I L i)
    refine callG_u (B + 1) 3 (ints (L1D I L (tD I L i))) (ints (tellL (L1D I L (tD I L i)) (i + 1) (tD I L i))) (ints (L2D I L i (tD I L i))) (cap := [.ptr (B + 2) 0]) (args := [.int .i64 ((i + 1 : Nat) : Int), .int .i64 (tD I L i)]) (lf := hfoot (B + 2) (B + 1) (L1D I L (tD I L i))) (fun hb => tell_ok (B + 2) (B + 1) (by omega) (L1D I L (tD I L i)) (i + 1) (by omega) (tD I L i)) Tryz.call90 (fun hb => by rw [L2D, if_pos (show (!bad1D I L (tD I L i) && I.follows) = true from hb)]) (fun hb => by rw [L2D, if_neg (by rw [show (!bad1D I L (tD I L i) && I.follows) = false from hb]; simp)]) T_ (fun hb => by simp -implicitDefEqProofs (disch := omega) only [go_sem, hl1]) rfl rfl (fun hb => by simp -implicitDefEqProofs (disch := omega) only [go_sem, hb, gd_of hb]) (fun hb => by simp -implicitDefEqProofs (disch := omega) only [go_sem, hb, gd_of hb] <;> rfl) ?_
    refine SD_ ?_
    refine hQ1 _ _ (S_ ?_);clear hQ1 Q1
    refine c_ (fun hc3 => ?_) fun hc3 => ?_
    ·
      refine g_ [2,3] ?_
      have hcs : depV p = ([], false) := by
        have hn : runD' p (i + 1) = none := by rw [hst, stepI, if_neg (by rw [hb0]; simp), if_pos (show bad2D I L i (tD I L i) = true from hc3)]
        have := runD_none hn (p.length - (i + 1))
        rw [show i + 1 + (p.length - (i + 1)) = p.length by omega] at this
        rw [depV, hD, this]
      refine wpM_le [(2, .rows 3 []), (3, .bool false)] [] T_ T_ T_ ?_
      refine e_ Tryz.results50 ?_
      first
      | exact True.intro
      | rw [hcs]
        exact ⟨rfl, rfl⟩
    refine g_ [0,4,5,20,21,22] ?_
    have hb2 : bad2D I L i (tD I L i) = false := hc3
    have hrun2 : runD' p (i + 1) = some (L2D I L i (tD I L i)) := by rw [hst, stepI, if_neg (by rw [hb0]; simp), if_neg (by rw [hb2]; simp)]
    have hl2 := L2D_len I L i (tD I L i)
    have ht12 : tD I L i ≤ 12 := by
      simp only [bad2D, bad1D, Bool.or_eq_false_iff, decide_eq_false_iff_not] at hb2
      omega
    have ht0 : -1 ≤ tD I L i := by unfold tD; omega
    refine .of' _ _ ⟨n - 1, by omega, i + 1, _, L2D I L i (tD I L i), by omega, M_, hrun2, by omega, hbn.l2 ht0 ht12, rfl⟩ ?_ ?_ ?_
    all_goals (try simp only [hfoot_eq, hl2])
    all_goals exact L_
  refine n_ ?_
  obtain rfl : i = p.length := by omega
  refine dr_ mixed [2,3] 0 2 [B + 2, B + 1] [⟨[4],[0],[],[],false⟩,⟨[4],[0],[],[],false⟩,⟨[0],[],[],[],false⟩,⟨[88],[],[],[],false⟩,⟨[87,89],[],[],[],false⟩,⟨[90],[1],[],[],false⟩,⟨[91],[],[],[],false⟩,⟨[86],[],[],[],false⟩,⟨[92],[],[],[],false⟩] [0,1,2,3,4,5,6,7,8] [[],[],[],[2],[1,2,3],[1,2,3,4],[1,2,3,4,5],[0],[0,1,2,3,4,5,6,7]] 2 ?_
  intro O A K hO hA hK;simp only [atL_cons,atL_nil,Nat.reduceAdd,Nat.zero_add] at hO hA
  refine SO_ ?_
  refine hK _ (S_ ?_);clear hK K hO hA O A
  have hcs : depV p = (L, L.getD p.length 0 == 0) := by rw [depV, hD, hrun]
  refine wpM_frz [B + 1] [(3, B + 1, 0, L.length, rowsI L)] (by intro q hq; simp at hq; subst hq; simp -implicitDefEqProofs (disch := omega) only [go_sem]) (by intro q hq; simp only [List.mem_cons, List.not_mem_nil, or_false] at hq; subst hq; exact ⟨by simp, rowsOf_ints' (T := 3) T_ rfl⟩) ?_
  refine S_ ?_
  refine e_ Tryz.results50 ?_
  first
  | exact True.intro
  | rw [hcs]
    exact ⟨rfl, rfl⟩
def okC (p : List GI) : Bool := (depV p).2
theorem icodeOk_ok (p : List GI) (hp : p.length ≤ 1099511627776) : PureF Tryz.prog 22 [.rows 81 (insR p)] [.bool (okC p)] := by
  refine pureF_of Tryz.func22 rfl Tryz.ntmps22 (by simp) T_ ?_
  intro f0 B Q hQ
  refine g_ [0] ?_
  refine n_ ?_
  refine wpM_regionK [4] rfl fun Q1 hQ1 => ?_
  refine S_ ?_
  refine cp_ (depths_ok p hp) Tryz.call50 ?_
  refine hQ1 _ _ (S_ ?_);clear hQ1 Q1
  refine g_ [2] ?_
  refine e_ Tryz.results22 ?_
  first
  | exact True.intro
  | rfl
end Go.Proofs.YtmicbfojofcigaaGreatDoor
namespace Go.Proofs.YtmicbfojofcigaaGreatDoor
open Go Sg
set_option maxRecDepth 100000
set_option linter.unusedSimpArgs false
set_option linter.unusedVariables false
set_option linter.unusedSectionVars false
set_option maxHeartbeats 4000000
variable [ErrL]
def actW (f : PV) : PV := .fn (.func 124) [] [.vptr [f]]
def actV (i : GI) : PV :=
  if i.op == 1 then actW (.fn (.func 125) [] [.vptr i.cs])
  else if i.op == 2 then actW (.fn (.func 127) [] [.vptr i.cs])
  else if i.op == 3 then actW (.fn (.func 129) [] [.vptr i.cs])
  else if i.op == 4 then actW (.fn (.func 132) [] [.vptr i.cs])
  else if i.op == 5 then actW (.fn (.func 134) [] [])
  else if i.op == 6 then actW (.fn (.func 137) [] [.vptr i.cs])
  else if i.op == 7 then actW (.fn (.func 138) [] [.vptr i.cs])
  else .fn (.func 139) [] [.vptr i.cs]
theorem actV_pure (i : GI) : (actV i).pure = true := by
  unfold actV actW
  repeat' split
  all_goals rfl
theorem act1_ok (k : FuncId) (c : List PV) (hc : PV.pureL c = true) : PureF Tryz.prog 123 [.fn (.func k) [] c] [actW (.fn (.func k) [] c)] := by
  refine pureF_of Tryz.func123 rfl Tryz.ntmps123 (by simp) (by simp [PV.pureL, actW, PV.pure]) ?_
  intro f0 B Q hQ
  refine g_ [1] ?_
  refine wpM_fzp B 173 [.fn (.func k) [] c] T_ T_ (by simp -implicitDefEqProofs (disch := omega) only [go_sem, hc]) T_ ?_
  refine S_ ?_
  refine g_ [2] ?_
  refine e_ Tryz.results123 ?_
  first
  | exact True.intro
  | rfl
theorem act_ok (i : GI) : PureF Tryz.prog 96 [.agg i.cs] [actV i] := by
  refine pureF_of Tryz.func96 rfl Tryz.ntmps96 (by simp) (by simp [PV.pureL, actV_pure]) ?_
  intro f0 B Q hQ
  refine g_ [1] ?_
  refine n_ ?_
  refine wpM_fzp B 81 i.cs T_ T_ T_ T_ ?_
  refine S_ ?_
  refine g_ [1,3] ?_
  refine g_ [1,3,5] ?_
  refine g_ [1,3,5,6] ?_
  refine c_ (fun hc0 => ?_) fun hc0 => ?_
  ·
    refine n_ ?_
    refine wpM_regionK [2] rfl fun Q1 hQ1 => ?_
    refine S_ ?_
    refine call_p (act1_ok 125 [.vptr i.cs] rfl) Tryz.call123 rfl rfl T_ F_ ?_
    refine S_ ?_
    refine hQ1 _ _ (S_ ?_);clear hQ1 Q1
    refine e_ Tryz.results96 ?_
    first
    | exact True.intro
    | simp only [actV, *, ↓reduceIte, Bool.false_eq_true]
      try rfl
  refine g_ [1,3,5,11] ?_
  refine c_ (fun hc1 => ?_) fun hc1 => ?_
  ·
    refine n_ ?_
    refine wpM_regionK [2] rfl fun Q1 hQ1 => ?_
    refine S_ ?_
    refine call_p (act1_ok 127 [.vptr i.cs] rfl) Tryz.call123 rfl rfl T_ F_ ?_
    refine S_ ?_
    refine hQ1 _ _ (S_ ?_);clear hQ1 Q1
    refine e_ Tryz.results96 ?_
    first
    | exact True.intro
    | simp only [actV, *, ↓reduceIte, Bool.false_eq_true]
      try rfl
  refine g_ [1,3,5,16] ?_
  refine c_ (fun hc2 => ?_) fun hc2 => ?_
  ·
    refine n_ ?_
    refine wpM_regionK [2] rfl fun Q1 hQ1 => ?_
    refine S_ ?_
    refine call_p (act1_ok 129 [.vptr i.cs] rfl) Tryz.call123 rfl rfl T_ F_ ?_
    refine S_ ?_
    refine hQ1 _ _ (S_ ?_);clear hQ1 Q1
    refine e_ Tryz.results96 ?_
    first
    | exact True.intro
    | simp only [actV, *, ↓reduceIte, Bool.false_eq_true]
      try rfl
  refine g_ [1,3,5,21] ?_
  refine c_ (fun hc3 => ?_) fun hc3 => ?_
  ·
    refine n_ ?_
    refine wpM_regionK [2] rfl fun Q1 hQ1 => ?_
    refine S_ ?_
    refine call_p (act1_ok 132 [.vptr i.cs] rfl) Tryz.call123 rfl rfl T_ F_ ?_
    refine S_ ?_
    refine hQ1 _ _ (S_ ?_);clear hQ1 Q1
    refine e_ Tryz.results96 ?_
    first
    | exact True.intro
    | simp only [actV, *, ↓reduceIte, Bool.false_eq_true]
      try rfl
  refine g_ [1,3,5,26] ?_
  refine c_ (fun hc4 => ?_) fun hc4 => ?_
  ·
    refine n_ ?_
    refine wpM_regionK [2] rfl fun Q1 hQ1 => ?_
    refine S_ ?_
    refine call_p (act1_ok 134 [] rfl) Tryz.call123 rfl rfl T_ F_ ?_
    refine S_ ?_
    refine hQ1 _ _ (S_ ?_);clear hQ1 Q1
    refine e_ Tryz.results96 ?_
    first
    | exact True.intro
    | simp only [actV, *, ↓reduceIte, Bool.false_eq_true]
      try rfl
  refine g_ [1,3,5,30] ?_
  refine c_ (fun hc5 => ?_) fun hc5 => ?_
  ·
    refine n_ ?_
    refine wpM_regionK [2] rfl fun Q1 hQ1 => ?_
    refine S_ ?_
    refine call_p (act1_ok 137 [.vptr i.cs] rfl) Tryz.call123 rfl rfl T_ F_ ?_
    refine S_ ?_
    refine hQ1 _ _ (S_ ?_);clear hQ1 Q1
    refine e_ Tryz.results96 ?_
    first
    | exact True.intro
    | simp only [actV, *, ↓reduceIte, Bool.false_eq_true]
      try rfl
  refine g_ [1,3,35] ?_
  refine c_ (fun hc6 => ?_) fun hc6 => ?_
  ·
    refine n_ ?_
    refine wpM_regionK [2] rfl fun Q1 hQ1 => ?_
    refine S_ ?_
    refine call_p (act1_ok 138 [.vptr i.cs] rfl) Tryz.call123 rfl rfl T_ F_ ?_
    refine S_ ?_
    refine hQ1 _ _ (S_ ?_);clear hQ1 Q1
    refine e_ Tryz.results96 ?_
    first
    | exact True.intro
    | simp only [actV, *, ↓reduceIte, Bool.false_eq_true]
      try rfl
  refine g_ [2] ?_
  refine e_ Tryz.results96 ?_
  first
  | exact True.intro
  | simp only [actV, *, ↓reduceIte, Bool.false_eq_true]
    try rfl
def actF (i : GI) : FuncId := if i.op == 1 || i.op == 2 || i.op == 3 || i.op == 4 || i.op == 5 || i.op == 6 || i.op == 7 then 124 else 139
def actCap (i : GI) : List PV := match actV i with
  | .fn _ _ c => c
  | _ => []
theorem actV_eq (i : GI) : actV i = .fn (.func (actF i)) [] (actCap i) := by
  unfold actCap actF actV actW
  cases h1 : i.op == 1 <;> cases h2 : i.op == 2 <;> cases h3 : i.op == 3 <;> cases h4 : i.op == 4 <;> cases h5 : i.op == 5 <;> cases h6 : i.op == 6 <;> cases h7 : i.op == 7 <;> rfl
def actR (p : List GI) : List (List PV) := p.map fun i => [actV i]
@[go_sem] theorem actR_len (p : List GI) : (actR p).length = p.length := by simp [actR]
@[go_sem] theorem actR_get (p : List GI) (k : Nat) (h : k < p.length) : (actR p).getD k [] = [actV (p.getD k default)] := by simp [actR, List.getD, h]
def actC (p : List GI) : List PV := p.map actV
theorem actR_flat (p : List GI) : (actR p).flatten = actC p := by
  induction p with
  | nil => rfl
  | cons x p ih => simp only [actR, actC, List.map_cons, List.flatten_cons] at ih ⊢; rw [ih]; rfl
@[go_sem] theorem actC_nil : actC [] = [] := rfl
@[go_sem] theorem actC_len (p : List GI) : (actC p).length = p.length := by simp [actC]
theorem actC_snoc (p : List GI) (i : GI) : actC p ++ [PV.fn (.func (actF i)) [] (actCap i)] = actC (p ++ [i]) := by simp [actC, ← actV_eq]
theorem rowsOf_actC {f : Nat → Option AObj} {id n : Nat} {T : TypeId} {p : List GI} (h : f id = some (.cells T (actC p))) (hn : p.length = n) : RowsOf Tryz.prog f 92 id 0 n (actR p) := by
  subst hn
  refine ⟨by rw [cellsOf92]; omega, by simp [actR], ?_, T, _, h, ?_, ?_⟩
  · intro c hc
    simp only [actR, List.mem_map] at hc
    obtain ⟨x, _, rfl⟩ := hc
    rw [cellsOf92]; exact ⟨rfl, by simp [PV.pureL, actV_pure]⟩
  · rw [cellsOf92, actC_len]; omega
  · rw [cellsOf92, actR_flat, List.drop_zero, List.take_of_length_le (by rw [actC_len]; omega)]
theorem acts_ok (p : List GI) (hp : p.length ≤ 1000000) : PureF Tryz.prog 51 [.rows 81 (insR p)] [.rows 92 (actR p)] := by
  refine pureF_of Tryz.func51 rfl Tryz.ntmps51 (by simp) T_ ?_
  intro f0 B Q hQ
  refine g_ [0] ?_
  refine g_ [0,3] ?_
  refine n_ ?_
  refine wpM_nil 92 [(0, .rows 81 (insR p)), (3, .sl 92 B 0 0)] [] T_ T_ T_ ?_
  refine S_ ?_
  refine g_ [3,6,7,8] ?_
  refine n_ ?_
  refine wpM_loopS (fun q n s' => ∃ (i M Y : Nat), i + n = p.length ∧ B ≤ Y ∧ Y < M ∧ s' = { q with env := setE 8 (.int .i64 (i : Nat)) (setE 3 (.sl 92 Y 0 i) q.env), l := [(Y, .cells 92 (actC (p.take i)))], M := M }) (p.length) ?_ ?_
  ·
    refine .of' _ _ ⟨0, _, B, by omega, Nat.le_refl _, Nat.lt_succ_self _, rfl⟩ ?_ ?_ ?_
    all_goals exact L_
  rintro n s' ⟨i, M, Y, hi, hBY, hYM, rfl⟩
  try refine S_ ?_
  refine g_ [3,6,7,8,9] ?_
  refine c_ (fun hc0 => ?_) fun hc0 => ?_
  ·
    have hi2 : i < p.length := by omega
    have htl : (p.take i).length = i := by simp; omega
    have htk : actC (p.take (i + 1)) = actC (p.take i ++ [p.getD i default]) := by
      rw [List.take_succ_eq_append_getElem hi2]; simp [List.getD, hi2]
    refine g_ [3,5,6,7,8] ?_
    refine wpM_regionK [3,6,7,8] rfl fun Q1 hQ1 => ?_
    simp -implicitDefEqProofs (disch := omega) only [go_sem, htl, actV_eq, actC_snoc]
    refine call_p (act_ok (p.getD i default)) Tryz.call96 rfl rfl rfl (by first | rfl | (simp -implicitDefEqProofs (disch := omega) only [go_sem] <;> rfl)) ?_
    simp -implicitDefEqProofs (disch := omega) only [go_sem, htl, actV_eq, actC_snoc]
    refine hQ1 _ _ (S_ ?_);clear hQ1 Q1
    refine g_ [3,6,7,8] ?_
    rw [← htk]
    refine .of' _ _ ⟨n - 1, by omega, i + 1, _, M + 2, by omega, ?_, ?_, rfl⟩ ?_ ?_ ?_
    any_goals (first | omega | exact Nat.lt_succ_self _)
    all_goals exact L_
  refine n_ ?_
  obtain rfl : i = p.length := by omega
  rw [List.take_of_length_le (Nat.le_refl _)]
  refine g_ [2] ?_
  refine wpM_frz [Y] [(92, Y, 0, p.length, actR p)] (by intro q hq; simp at hq; subst hq; simp -implicitDefEqProofs (disch := omega) only [go_sem]) (by intro q hq; simp only [List.mem_cons, List.not_mem_nil, or_false] at hq; subst hq; exact ⟨by simp, rowsOf_actC (T := 92) T_ rfl⟩) ?_
  refine S_ ?_
  refine e_ Tryz.results51 ?_
  first
  | exact True.intro
  | rfl
end Go.Proofs.YtmicbfojofcigaaGreatDoor
namespace Go.Proofs.YtmicbfojofcigaaGreatDoor
open Go Sg
set_option maxRecDepth 100000
set_option linter.unusedSimpArgs false
set_option linter.unusedVariables false
set_option linter.unusedSectionVars false
set_option maxHeartbeats 4000000
variable [ErrL]
structure PS where
  H : List Int
  n : Int
  k : Int
  F : Int
  m : MM
def pcs (id : Nat) (S : PS) : List PV := .ptr id 0 :: ints (S.H ++ [S.n, S.k, S.F])
structure PS.Ok (S : PS) : Prop where
  H : S.H.length = 12
  m : S.m.Six
section
variable (id : Nat) (S : PS) (h : S.H.length = 12)
include h
theorem pcs_len : (pcs id S).length = 16 := by simp [pcs, ints, h]
theorem pcs_get (j : Nat) (hj : j < 15) : ((pcs id S).drop (1 + j))[0]? = some (.int .i64 ((S.H ++ [S.n, S.k, S.F]).getD j 0)) := by
  have hl : j < (S.H ++ [S.n, S.k, S.F]).length := by simp [h]; omega
  simp only [pcs, Nat.add_comm 1 j, List.drop_succ_cons, ints]
  rw [List.getElem?_drop, Nat.add_zero, List.getElem?_map, List.getElem?_eq_getElem hl, List.getD, List.getElem?_eq_getElem hl]
  rfl
theorem pcs_n : ((pcs id S).drop 13)[0]? = some (.int .i64 S.n) := by
  rw [pcs_get id S h 12 (by omega)]
  simp [List.getD, List.getElem?_append_right, h]
theorem pcs_k : ((pcs id S).drop 14)[0]? = some (.int .i64 S.k) := by
  rw [pcs_get id S h 13 (by omega)]
  simp [List.getD, List.getElem?_append_right, h]
theorem pcs_F : ((pcs id S).drop 15)[0]? = some (.int .i64 S.F) := by
  rw [pcs_get id S h 14 (by omega)]
  simp [List.getD, List.getElem?_append_right, h]
theorem pcs_H (j : Nat) (hj : j < 12) : ((pcs id S).drop (1 + j))[0]? = some (.int .i64 (S.H.getD j 0)) := by
  rw [pcs_get id S h j (by omega)]
  simp [List.getD, List.getElem?_append_left, h, hj]
theorem pcs_set (j : Nat) (hj : j < 15) (v : Int) : splice (pcs id S) (1 + j) [.int .i64 v] = .ptr id 0 :: ints ((S.H ++ [S.n, S.k, S.F]).set j v) := by
  have := splice_ints (S.H ++ [S.n, S.k, S.F]) j v (by simp [h]; omega)
  rw [← this, Nat.add_comm 1 j]
  simp only [pcs, splice, List.length_cons, List.length_nil, List.take_succ_cons, Nat.zero_add]
  rw [show j + 1 + 1 = (j + 1) + 1 from rfl, List.drop_succ_cons]
  rfl
theorem pcs_setn (v : Int) : splice (pcs id S) 13 [.int .i64 v] = pcs id { S with n := v } := by
  rw [pcs_set id S h 12 (by omega), pcs]
  rw [List.set_append_right _ _ (by omega), h]; rfl
theorem pcs_setk (v : Int) : splice (pcs id S) 14 [.int .i64 v] = pcs id { S with k := v } := by
  rw [pcs_set id S h 13 (by omega), pcs]
  rw [List.set_append_right _ _ (by omega), h]; rfl
theorem pcs_setF (v : Int) : splice (pcs id S) 15 [.int .i64 v] = pcs id { S with F := v } := by
  rw [pcs_set id S h 14 (by omega), pcs]
  rw [List.set_append_right _ _ (by omega), h]; rfl
theorem pcs_setH (j : Nat) (hj : j < 12) (v : Int) : splice (pcs id S) (1 + j) [.int .i64 v] = pcs id { S with H := S.H.set j v } := by
  rw [pcs_set id S h j (by omega), pcs]
  rw [List.set_append_left _ _ (by omega)]
end
@[go_sem] theorem pcs_0 (id : Nat) (S : PS) : (pcs id S)[0]? = some (.ptr id 0) := rfl
@[go_sem high] theorem idsL_pcs (p : Nat → Prop) (id : Nat) (S : PS) : PV.idsL p (pcs id S) = p id := by
  simp only [pcs, PV.idsL, PV.ids, idsL_ints, and_true]
def pfoot (x id : Nat) (S : PS) : List (Nat × AObj) := [(x, .cells 88 (pcs id S)), (id, .cells 122 (ints S.m.flat))]
@[go_sem] theorem pfoot_eq (x id : Nat) (S : PS) : pfoot x id S = [(x, .cells 88 (pcs id S)), (id, .cells 122 (ints S.m.flat))] := rfl
def pu (x id : Nat) (S : PS) : List (Nat × Option AObj) := [(x, some (.cells 88 (pcs id S))), (id, some (.cells 122 (ints S.m.flat)))]
@[go_sem] theorem pu_eq (x id : Nat) (S : PS) : pu x id S = [(x, some (.cells 88 (pcs id S))), (id, some (.cells 122 (ints S.m.flat)))] := rfl
def PS.push (S : PS) (v : Int) : PS := { S with H := S.H.set S.n.toNat v, n := S.n + 1 }
theorem push_ok (x id : Nat) (hx : x ≠ id) (S : PS) (h : S.Ok) (h0 : 0 ≤ S.n) (h1 : S.n < 12) (v : Int) : CallF Tryz.prog 126 [.ptr x 0, .int .i64 v] (pfoot x id S) 0 (fun _ o => o = { rs := [], u := pu x id (S.push v) }) := by
  have hH := h.H
  refine callF_of' Tryz.func126 rfl Tryz.ntmps126 (by simp) ?_
  intro f0 B ns Q hB hns hQ
  have hxB : x < B := hB x (by simp [hasKey, lk, pfoot])
  have hiB : id < B := hB id (by simp [hasKey, lk, pfoot, hx])
  obtain rfl : ns = [] := List.eq_nil_of_length_eq_zero hns
  refine n_ ?_
  refine dr_ mixed [0] 0 1 [x] [⟨[0],[],[],[],false⟩,⟨[0],[],[],[],false⟩,⟨[5],[],[],[],false⟩,⟨[6],[],[],[],false⟩,⟨[7],[0],[],[],false⟩,⟨[1],[],[],[],false⟩,⟨[4],[],[],[],false⟩,⟨[10],[],[],[],false⟩,⟨[8,11],[],[],[],false⟩,⟨[9,12],[0],[0],[],false⟩] [0,1,2,3,4,5,6,7,8,9] [[],[],[1],[1,2],[1,2,3],[],[0],[0,6],[0,1,2,3,4,5,6,7],[0,1,2,3,4,5,6,7,8]] 1 ?_
  intro O A K hO hA hK;simp only [atL_cons,atL_nil,Nat.reduceAdd,Nat.zero_add] at hO hA
  simp -implicitDefEqProofs (disch := omega) only [go_sem, pcs_n id S hH, pcs_len id S hH, pcs_setH id S hH, hO, hA]
  refine hK _ (S_ ?_);clear hK K hO hA O A
  have hH1 : ({ S with H := S.H.set S.n.toNat v } : PS).H.length = 12 := by simp [hH]
  refine wpM_regionK [] rfl fun Q1 hQ1 => ?_
  simp -implicitDefEqProofs (disch := omega) only [go_sem, pcs_n _ _ hH1, pcs_len _ _ hH1, pcs_setn _ _ hH1]
  refine hQ1 _ _ (S_ ?_);clear hQ1 Q1
  refine hQ _ _ (ret0n (pu x id (S.push v)) rfl rfl rfl (by rw [Tryz.results126] <;> simp (maxSteps := 1000000) -implicitDefEqProofs (disch := omega) only [go_sem] <;> rfl) rfl ?_ ?_ ?_ ?_)
  all_goals simp -implicitDefEqProofs (disch := omega) only [go_sem, true_or, or_true]
  all_goals exact ⟨rfl, rfl⟩
def PS.pop (S : PS) : PS := { S with n := S.n - 1 }
def PS.top (S : PS) : Int := S.H.getD (S.n - 1).toNat 0
theorem pop_ok (x id : Nat) (hx : x ≠ id) (S : PS) (h : S.Ok) (h0 : 1 ≤ S.n) (h1 : S.n ≤ 12) : CallF Tryz.prog 131 [.ptr x 0] (pfoot x id S) 0 (fun _ o => o = { rs := [.int .i64 S.top], u := pu x id S.pop }) := by
  have hH := h.H
  refine callF_of' Tryz.func131 rfl Tryz.ntmps131 (by simp) ?_
  intro f0 B ns Q hB hns hQ
  have hxB : x < B := hB x (by simp [hasKey, lk, pfoot])
  have hiB : id < B := hB id (by simp [hasKey, lk, pfoot, hx])
  obtain rfl : ns = [] := List.eq_nil_of_length_eq_zero hns
  refine g_ [0] ?_
  refine n_ ?_
  refine wpM_regionK [0] rfl fun Q1 hQ1 => ?_
  simp -implicitDefEqProofs (disch := omega) only [go_sem, pcs_n id S hH, pcs_len id S hH, pcs_setn id S hH]
  refine hQ1 _ _ (S_ ?_);clear hQ1 Q1
  have hH1 : ({ S with n := S.n - 1 } : PS).H.length = 12 := hH
  refine n_ ?_
  refine dr_ mixed [2] 0 1 [x] [⟨[0],[],[],[],false⟩,⟨[0],[],[],[],false⟩,⟨[11],[],[],[],false⟩,⟨[12],[],[],[],false⟩,⟨[13],[0],[],[],false⟩,⟨[10],[],[],[],false⟩,⟨[15],[],[],[],false⟩,⟨[14,16],[],[],[],false⟩,⟨[17],[0],[],[],false⟩,⟨[18],[],[],[],false⟩] [0,1,2,3,4,5,6,7,8,9] [[],[],[1],[1,2],[1,2,3],[0],[0,5],[0,1,2,3,4,5,6],[0,1,2,3,4,5,6,7],[0,1,2,3,4,5,6,7,8]] 1 ?_
  intro O A K hO hA hK;simp only [atL_cons,atL_nil,Nat.reduceAdd,Nat.zero_add] at hO hA
  simp -implicitDefEqProofs (disch := omega) only [go_sem, pcs_n _ _ hH1, pcs_len _ _ hH1, pcs_H _ _ hH1, hO, hA]
  refine hK _ (S_ ?_);clear hK K hO hA O A
  refine wpM_ret ?_
  try refine S_ ?_
  refine hQ _ _ (ret0 (pu x id S.pop) rfl rfl rfl (by rw [Tryz.results131] <;> simp (maxSteps := 1000000) -implicitDefEqProofs (disch := omega) only [go_sem] <;> rfl) rfl ?_ ?_ ?_ ?_)
  all_goals simp -implicitDefEqProofs (disch := omega) only [go_sem, true_or, or_true]
  all_goals exact ⟨rfl, rfl⟩
end Go.Proofs.YtmicbfojofcigaaGreatDoor
namespace Go.Proofs.YtmicbfojofcigaaGreatDoor
open Go Sg
set_option maxRecDepth 100000
set_option linter.unusedSimpArgs false
set_option linter.unusedVariables false
set_option linter.unusedSectionVars false
set_option maxHeartbeats 4000000
variable [ErrL]
def Stp (x id : Nat) (f : FuncId) (c : List PV) (S S' : PS) : Prop := CallF Tryz.prog f ([.ptr x 0] ++ c) (pfoot x id S) 0 (fun _ o => o = { rs := [], u := pu x id S' })
theorem PS.Ok.push {S : PS} (h : S.Ok) (v : Int) : (S.push v).Ok := ⟨by simp [PS.push, h.H], h.m⟩
theorem PS.Ok.pop {S : PS} (h : S.Ok) : S.pop.Ok := ⟨h.H, h.m⟩
@[go_sem] theorem pop_m (S : PS) : S.pop.m = S.m := rfl
@[go_sem] theorem push_m (S : PS) (v : Int) : (S.push v).m = S.m := rfl
theorem stp_push (x id : Nat) (hx : x ≠ id) (S : PS) (h : S.Ok) (i : GI) (h0 : 0 ≤ S.n) (h1 : S.n < 12) : Stp x id 125 [.vptr i.cs] S (S.push i.n) := by
  have hH := h.H
  refine callF_of' Tryz.func125 rfl Tryz.ntmps125 (by simp) ?_
  intro f0 B ns Q hB hns hQ
  have hxB : x < B := hB x (by simp [hasKey, lk, pfoot])
  have hiB : id < B := hB id (by simp [hasKey, lk, pfoot, hx])
  obtain rfl : ns = [] := List.eq_nil_of_length_eq_zero hns
  refine n_ ?_
  refine wpM_regionK [] rfl fun Q1 hQ1 => ?_
  refine S_ ?_
  refine call_fn (l := pfoot x id S) (first := []) (cap := []) (ps := [.ptr x 0, .int .i64 i.n]) (push_ok x id hx S h h0 h1 i.n) Tryz.call126 rfl rfl rfl G_ T_ ?_
  rintro out rfl
  refine S_ ?_
  refine hQ1 _ _ (S_ ?_);clear hQ1 Q1
  refine hQ _ _ (ret0n (pu x id (S.push i.n)) rfl rfl rfl (by rw [Tryz.results125] <;> simp (maxSteps := 1000000) -implicitDefEqProofs (disch := omega) only [go_sem] <;> rfl) rfl ?_ ?_ ?_ ?_)
  all_goals simp -implicitDefEqProofs (disch := omega) only [go_sem, true_or, or_true]
theorem stp_load (x id : Nat) (hx : x ≠ id) (S : PS) (h : S.Ok) (i : GI) (h0 : 0 ≤ S.n) (h1 : S.n < 12) (ha : i.a.ok = true) : Stp x id 127 [.vptr i.cs] S (S.push (S.m.get i.a)) := by
  have hH := h.H
  refine callF_of' Tryz.func127 rfl Tryz.ntmps127 (by simp) ?_
  intro f0 B ns Q hB hns hQ
  have hxB : x < B := hB x (by simp [hasKey, lk, pfoot])
  have hiB : id < B := hB id (by simp [hasKey, lk, pfoot, hx])
  obtain rfl : ns = [] := List.eq_nil_of_length_eq_zero hns
  refine n_ ?_
  refine dr_ mixed [] 0 2 [x, id] [⟨[0],[],[],[],false⟩,⟨[0],[],[],[],false⟩,⟨[4],[],[],[],false⟩,⟨[5],[],[],[],false⟩,⟨[6],[0],[],[],false⟩,⟨[1],[],[],[],false⟩,⟨[8],[],[],[],false⟩,⟨[7,9],[1],[],[],true⟩,⟨[3,10],[0,1],[0,1],[],true⟩] [0,1,2,3,4,5,6,7,8] [[],[],[1],[1,2],[1,2,3],[],[5],[1,2,3,4,5,6],[0,1,2,3,4,5,6,7]] 2 (htbl := by simp; omega) (hnm := by simp) ?_
  intro O A K hO hA hK;simp only [atL_cons,atL_nil,Nat.reduceAdd,Nat.zero_add] at hO hA
  simp -implicitDefEqProofs (disch := omega) only [go_sem, pcs_len id S hH, hO, hA]
  refine loud_r (iget_ok id S.m.flat i.a ha (MM.flat_len h.m)) (subG_spec T_) Tryz.call128 rfl rfl F_ rfl ?_
  rw [MM.flat_get S.m h.m i.a ha]
  simp -implicitDefEqProofs (disch := omega) only [go_sem, pcs_len id S hH, hO, hA]
  refine loud_fn (first := []) (cap := []) (ps := [.ptr x 0, .int .i64 (S.m.get i.a)]) (l := pfoot x id S) (push_ok x id hx S h h0 h1 (S.m.get i.a)) Tryz.call126 rfl rfl F_ (subG_spec T_) rfl ?_
  rintro out rfl
  refine ⟨rfl, ?_⟩
  simp -implicitDefEqProofs (disch := omega) only [go_sem, pcs_len id S hH, hO, hA]
  refine hK _ (S_ ?_);clear hK K hO hA O A
  refine hQ _ _ (ret0n (pu x id (S.push (S.m.get i.a))) rfl rfl rfl (by rw [Tryz.results127] <;> simp (maxSteps := 1000000) -implicitDefEqProofs (disch := omega) only [go_sem] <;> rfl) rfl ?_ ?_ ?_ ?_)
  all_goals simp -implicitDefEqProofs (disch := omega) only [go_sem, true_or, or_true]
theorem stp_store (x id : Nat) (hx : x ≠ id) (S : PS) (h : S.Ok) (i : GI) (h0 : 1 ≤ S.n) (h1 : S.n ≤ 12) (ha : i.a.ok = true) (ha1 : i.a.kind ≠ 1) : Stp x id 129 [.vptr i.cs] S { S.pop with m := S.m.put i.a S.top } := by
  have hH := h.H
  have hp := put_flat h.m ha ha1 S.top
  refine callF_of' Tryz.func129 rfl Tryz.ntmps129 (by simp) ?_
  intro f0 B ns Q hB hns hQ
  have hxB : x < B := hB x (by simp [hasKey, lk, pfoot])
  have hiB : id < B := hB id (by simp [hasKey, lk, pfoot, hx])
  obtain rfl : ns = [] := List.eq_nil_of_length_eq_zero hns
  refine n_ ?_
  refine dr2_ mixed [0,1] [x, id] [⟨[0],[],[],[],false⟩,⟨[3],[],[],[],false⟩,⟨[4],[],[],[],false⟩,⟨[5],[0],[],[],false⟩,⟨[1],[],[],[],false⟩,⟨[7],[],[],[],false⟩,⟨[0],[],[],[],false⟩,⟨[9],[0,1],[0,1],[],true⟩,⟨[6,8,10],[1],[1],[],true⟩] [0,1,2,4,5,6,3,7,8] [0,1,2,4,5,6,7,3,8] [[],[0],[0,1],[0,1,2],[],[4],[],[6],[0,1,2,3,4,5,6,7]] 3 7 2 ?_ ?_ (htbl := by simp; omega)
  all_goals
    intro O A K hO hA hK;simp only [atL_cons,atL_nil,Nat.reduceAdd,Nat.zero_add] at hO hA
    simp -implicitDefEqProofs (disch := omega) only [go_sem, pcs_len id S hH, hO, hA]
    refine loud_fn (first := []) (cap := []) (ps := [.ptr x 0]) (l := pfoot x id S) (pop_ok x id hx S h h0 h1) Tryz.call131 rfl rfl F_ (subG_spec T_) rfl ?_
    rintro out rfl
    refine ⟨rfl, ?_⟩
    simp -implicitDefEqProofs (disch := omega) only [go_sem, pcs_len id S hH, hO, hA]
    refine loud_fn (first := []) (cap := []) (ps := [.ptr id 0, .agg i.a.cs, .int .i64 S.top]) (l := mobj id S.m) (iput_ok id S.m.flat i.a S.top ha ha1 (MM.flat_len h.m)) Tryz.call130 rfl rfl F_ (subG_spec T_) rfl ?_
    rintro out rfl
    rw [← hp]
    refine ⟨rfl, ?_⟩
    simp -implicitDefEqProofs (disch := omega) only [go_sem, pcs_len id S hH, hO, hA]
    refine hK _ (S_ ?_)
    refine hQ _ _ (ret0n (pu x id ({ S.pop with m := S.m.put i.a S.top })) rfl rfl rfl (by rw [Tryz.results129] <;> simp (maxSteps := 1000000) -implicitDefEqProofs (disch := omega) only [go_sem] <;> rfl) rfl ?_ ?_ ?_ ?_)
    all_goals simp -implicitDefEqProofs (disch := omega) only [go_sem, true_or, or_true]
    all_goals rfl
theorem stp_two (x id : Nat) (hx : x ≠ id) (S : PS) (h : S.Ok) (i : GI) (h0 : 2 ≤ S.n) (h1 : S.n ≤ 12) : Stp x id 132 [.vptr i.cs] S (S.pop.pop.push (two i.n S.pop.top S.top)) := by
  have hH := h.H
  refine callF_of' Tryz.func132 rfl Tryz.ntmps132 (by simp) ?_
  intro f0 B ns Q hB hns hQ
  have hxB : x < B := hB x (by simp [hasKey, lk, pfoot])
  have hiB : id < B := hB id (by simp [hasKey, lk, pfoot, hx])
  obtain rfl : ns = [] := List.eq_nil_of_length_eq_zero hns
  refine n_ ?_
  refine wpM_regionK [0,1,3] rfl fun Q1 hQ1 => ?_
  refine S_ ?_
  refine call_fn (l := pfoot x id S) (first := []) (cap := []) (ps := [.ptr x 0]) (pop_ok x id hx S h (by omega) h1) Tryz.call131 rfl rfl rfl G_ T_ ?_
  rintro out rfl
  refine S_ ?_
  refine hQ1 _ _ (S_ ?_);clear hQ1 Q1
  refine dr_ mixed [] 0 2 [x, id] [⟨[0],[],[],[],false⟩,⟨[1],[],[],[],false⟩,⟨[7],[],[],[],false⟩,⟨[0],[],[],[],false⟩,⟨[9],[0,1],[0,1],[],true⟩,⟨[3],[],[],[],false⟩,⟨[8,10,11],[],[],[],true⟩,⟨[6,12],[0,1],[0,1],[],true⟩] [0,1,2,3,5,4,6,7] [[],[],[1],[],[3],[],[1,2,3,4,5],[0,1,2,3,4,5,6]] 2 (htbl := by simp; omega) (hnm := by simp) ?_
  intro O A K hO hA hK;simp only [atL_cons,atL_nil,Nat.reduceAdd,Nat.zero_add] at hO hA
  refine SO_ ?_
  refine loud_fn (first := []) (cap := []) (ps := [.ptr x 0]) (l := pfoot x id S.pop) (pop_ok x id hx S.pop h.pop (by show 1 ≤ S.n - 1; omega) (by show S.n - 1 ≤ 12; omega)) Tryz.call131 rfl rfl F_ (subG_spec T_) rfl ?_
  rintro out rfl
  refine ⟨rfl, ?_⟩
  refine SO_ ?_
  refine lp_ (itwo_ok i.n S.pop.top S.top) Tryz.call133 ?_
  refine loud_fn (first := []) (cap := []) (ps := [.ptr x 0, .int .i64 (two i.n S.pop.top S.top)]) (l := pfoot x id S.pop.pop) (push_ok x id hx S.pop.pop h.pop.pop (by show 0 ≤ S.n - 1 - 1; omega) (by show S.n - 1 - 1 < 12; omega) _) Tryz.call126 rfl rfl F_ (subG_spec T_) rfl ?_
  rintro out rfl
  refine ⟨rfl, ?_⟩
  refine SO_ ?_
  refine hK _ (S_ ?_);clear hK K hO hA O A
  refine hQ _ _ (ret0n (pu x id (S.pop.pop.push (two i.n S.pop.top S.top))) rfl rfl rfl (by rw [Tryz.results132] <;> simp (maxSteps := 1000000) -implicitDefEqProofs (disch := omega) only [go_sem] <;> rfl) rfl ?_ ?_ ?_ ?_)
  all_goals simp -implicitDefEqProofs (disch := omega) only [go_sem, true_or, or_true]
theorem stp_not (x id : Nat) (hx : x ≠ id) (S : PS) (h : S.Ok) (i : GI) (h0 : 1 ≤ S.n) (h1 : S.n ≤ 12) : Stp x id 134 [] S (S.pop.push (numIs (!(S.top != 0)))) := by
  have hH := h.H
  refine callF_of' Tryz.func134 rfl Tryz.ntmps134 (by simp) ?_
  intro f0 B ns Q hB hns hQ
  have hxB : x < B := hB x (by simp [hasKey, lk, pfoot])
  have hiB : id < B := hB id (by simp [hasKey, lk, pfoot, hx])
  obtain rfl : ns = [] := List.eq_nil_of_length_eq_zero hns
  refine n_ ?_
  refine wpM_regionK [] rfl fun Q1 hQ1 => ?_
  refine S_ ?_
  refine call_fn (l := pfoot x id S) (first := []) (cap := []) (ps := [.ptr x 0]) (pop_ok x id hx S h h0 h1) Tryz.call131 rfl rfl rfl G_ T_ ?_
  rintro out rfl
  refine S_ ?_
  refine cp_ (ion_ok S.top) Tryz.call136 ?_
  refine cp_ (iis_ok (!(S.top != 0))) Tryz.call135 ?_
  refine call_fn (l := pfoot x id S.pop) (first := []) (cap := []) (ps := [.ptr x 0, .int .i64 (numIs (!(S.top != 0)))]) (push_ok x id hx S.pop h.pop (by show 0 ≤ S.n - 1; omega) (by show S.n - 1 < 12; omega) (numIs (!(S.top != 0)))) Tryz.call126 rfl rfl rfl G_ T_ ?_
  rintro out rfl
  refine S_ ?_
  refine hQ1 _ _ (S_ ?_);clear hQ1 Q1
  refine hQ _ _ (ret0n (pu x id (S.pop.push (numIs (!(S.top != 0))))) rfl rfl rfl (by rw [Tryz.results134] <;> simp (maxSteps := 1000000) -implicitDefEqProofs (disch := omega) only [go_sem] <;> rfl) rfl ?_ ?_ ?_ ?_)
  all_goals simp -implicitDefEqProofs (disch := omega) only [go_sem, true_or, or_true]
theorem stp_skip (x id : Nat) (hx : x ≠ id) (S : PS) (h : S.Ok) (i : GI) (h0 : 1 ≤ S.n) (h1 : S.n ≤ 12) : Stp x id 137 [.vptr i.cs] S (if !(S.top != 0) then { S.pop with k := i.n } else S.pop) := by
  have hH := h.H
  refine callF_of' Tryz.func137 rfl Tryz.ntmps137 (by simp) ?_
  intro f0 B ns Q hB hns hQ
  have hxB : x < B := hB x (by simp [hasKey, lk, pfoot])
  have hiB : id < B := hB id (by simp [hasKey, lk, pfoot, hx])
  obtain rfl : ns = [] := List.eq_nil_of_length_eq_zero hns
  refine n_ ?_
  refine wpM_regionK [0,1,6] rfl fun Q1 hQ1 => ?_
  refine S_ ?_
  refine call_fn (l := pfoot x id S) (first := []) (cap := []) (ps := [.ptr x 0]) (pop_ok x id hx S h h0 h1) Tryz.call131 rfl rfl rfl G_ T_ ?_
  rintro out rfl
  refine S_ ?_
  refine cp_ (ion_ok S.top) Tryz.call136 ?_
  refine hQ1 _ _ (S_ ?_);clear hQ1 Q1
  refine c_ (fun hc0 => ?_) fun hc0 => ?_
  ·
    rw [if_pos hc0] at hQ
    refine wpM_regionK [] rfl fun Q1 hQ1 => ?_
    simp -implicitDefEqProofs (disch := omega) only [go_sem, pcs_len id S.pop hH, pcs_setk id S.pop hH]
    refine hQ1 _ _ (S_ ?_);clear hQ1 Q1
    refine hQ _ _ (ret0n (pu x id { S.pop with k := i.n }) rfl rfl rfl (by rw [Tryz.results137] <;> simp (maxSteps := 1000000) -implicitDefEqProofs (disch := omega) only [go_sem] <;> rfl) rfl ?_ ?_ ?_ ?_)
    all_goals simp -implicitDefEqProofs (disch := omega) only [go_sem, true_or, or_true]
  rw [if_neg (by rw [hc0]; simp)] at hQ
  refine n_ ?_
  refine hQ _ _ (ret0n (pu x id S.pop) rfl rfl rfl (by rw [Tryz.results137] <;> simp (maxSteps := 1000000) -implicitDefEqProofs (disch := omega) only [go_sem] <;> rfl) rfl ?_ ?_ ?_ ?_)
  all_goals simp -implicitDefEqProofs (disch := omega) only [go_sem, true_or, or_true]
theorem stp_jump (x id : Nat) (hx : x ≠ id) (S : PS) (h : S.Ok) (i : GI)  : Stp x id 138 [.vptr i.cs] S { S with k := i.n } := by
  have hH := h.H
  refine callF_of' Tryz.func138 rfl Tryz.ntmps138 (by simp) ?_
  intro f0 B ns Q hB hns hQ
  have hxB : x < B := hB x (by simp [hasKey, lk, pfoot])
  have hiB : id < B := hB id (by simp [hasKey, lk, pfoot, hx])
  obtain rfl : ns = [] := List.eq_nil_of_length_eq_zero hns
  refine n_ ?_
  refine wpM_regionK [] rfl fun Q1 hQ1 => ?_
  simp -implicitDefEqProofs (disch := omega) only [go_sem, pcs_len id S hH, pcs_setk id S hH]
  refine hQ1 _ _ (S_ ?_);clear hQ1 Q1
  refine hQ _ _ (ret0n (pu x id ({ S with k := i.n })) rfl rfl rfl (by rw [Tryz.results138] <;> simp (maxSteps := 1000000) -implicitDefEqProofs (disch := omega) only [go_sem] <;> rfl) rfl ?_ ?_ ?_ ?_)
  all_goals simp -implicitDefEqProofs (disch := omega) only [go_sem, true_or, or_true]
theorem act11_ok (x id : Nat) (hx : x ≠ id) (S S' : PS) (f : FuncId) (c : List PV) (hc : Stp x id f c S S') (henter : ∀ args w, (callFunc f args).run Tryz.prog w = .ok (.enter f args) w) : CallF Tryz.prog 124 ([.ptr x 0] ++ [.vptr [.fn (.func f) [] c]]) (pfoot x id S) 0 (fun _ o => o = { rs := [.bool true], u := pu x id S' }) := by
  refine callF_of' Tryz.func124 rfl Tryz.ntmps124 (by simp) ?_
  intro f0 B ns Q hB hns hQ
  have hxB : x < B := hB x (by simp [hasKey, lk, pfoot])
  have hiB : id < B := hB id (by simp [hasKey, lk, pfoot, hx])
  obtain rfl : ns = [] := List.eq_nil_of_length_eq_zero hns
  refine g_ [0,1] ?_
  refine n_ ?_
  refine wpM_regionK [] rfl fun Q1 hQ1 => ?_
  refine S_ ?_
  refine call_fn (l := pfoot x id S) (first := []) (cap := c) (ps := [.ptr x 0]) hc henter rfl rfl T_ T_ T_ ?_
  rintro out rfl
  refine S_ ?_
  refine hQ1 _ _ (S_ ?_);clear hQ1 Q1
  refine g_ [3] ?_
  refine wpM_ret ?_
  try refine S_ ?_
  refine hQ _ _ (ret0 (pu x id S') rfl rfl rfl (by rw [Tryz.results124] <;> simp (maxSteps := 1000000) -implicitDefEqProofs (disch := omega) only [go_sem] <;> rfl) rfl ?_ ?_ ?_ ?_)
  all_goals simp -implicitDefEqProofs (disch := omega) only [go_sem, true_or, or_true]
theorem back_ok (x id : Nat) (hx : x ≠ id) (S : PS) (h : S.Ok) (i : GI) (hF0 : 0 ≤ S.F) (hF1 : S.F ≤ 100) : CallF Tryz.prog 139 ([.ptr x 0] ++ [.vptr i.cs]) (pfoot x id S) 0 (fun _ o => o = { rs := [.bool (S.F != 0)], u := pu x id (if S.F == 0 then S else { S with F := S.F - 1, k := i.n }) }) := by
  have hH := h.H
  refine callF_of' Tryz.func139 rfl Tryz.ntmps139 (by simp) ?_
  intro f0 B ns Q hB hns hQ
  have hxB : x < B := hB x (by simp [hasKey, lk, pfoot])
  have hiB : id < B := hB id (by simp [hasKey, lk, pfoot, hx])
  obtain rfl : ns = [] := List.eq_nil_of_length_eq_zero hns
  refine g_ [0,1] ?_
  refine n_ ?_
  refine wpM_regionK [0,1,8] rfl fun Q1 hQ1 => ?_
  simp -implicitDefEqProofs (disch := omega) only [go_sem, pcs_len id S hH, pcs_F id S hH]
  refine hQ1 _ _ (S_ ?_);clear hQ1 Q1
  refine c_ (fun hc0 => ?_) fun hc0 => ?_
  ·
    rw [if_pos hc0, show (S.F != 0) = false from by simpa using hc0] at hQ
    refine g_ [3] ?_
    refine wpM_ret ?_
    try refine S_ ?_
    refine hQ _ _ (ret0 (pu x id S) rfl rfl rfl (by rw [Tryz.results139] <;> simp (maxSteps := 1000000) -implicitDefEqProofs (disch := omega) only [go_sem] <;> rfl) rfl ?_ ?_ ?_ ?_)
    all_goals simp -implicitDefEqProofs (disch := omega) only [go_sem, true_or, or_true]
  rw [if_neg (by rw [hc0]; simp), show (S.F != 0) = true from by simpa using hc0] at hQ
  refine n_ ?_
  refine wpM_regionK [0,1] rfl fun Q1 hQ1 => ?_
  simp -implicitDefEqProofs (disch := omega) only [go_sem, pcs_len id S hH, pcs_F id S hH, pcs_setF id S hH, show IntKind.i64.wrap (S.F - 1) = S.F - 1 from wrap64 ⟨by omega, by omega⟩]
  refine hQ1 _ _ (S_ ?_);clear hQ1 Q1
  refine n_ ?_
  refine wpM_regionK [] rfl fun Q1 hQ1 => ?_
  simp -implicitDefEqProofs (disch := omega) only [go_sem, pcs_len id { S with F := S.F - 1 } hH, pcs_setk id { S with F := S.F - 1 } hH]
  refine hQ1 _ _ (S_ ?_);clear hQ1 Q1
  refine g_ [3] ?_
  refine wpM_ret ?_
  try refine S_ ?_
  refine hQ _ _ (ret0 (pu x id { S with F := S.F - 1, k := i.n }) rfl rfl rfl (by rw [Tryz.results139] <;> simp (maxSteps := 1000000) -implicitDefEqProofs (disch := omega) only [go_sem] <;> rfl) rfl ?_ ?_ ?_ ?_)
  all_goals simp -implicitDefEqProofs (disch := omega) only [go_sem, true_or, or_true]
end Go.Proofs.YtmicbfojofcigaaGreatDoor
namespace Go.Proofs.YtmicbfojofcigaaGreatDoor
open Go Sg
set_option maxRecDepth 100000
set_option linter.unusedSimpArgs false
set_option linter.unusedVariables false
set_option linter.unusedSectionVars false
set_option maxHeartbeats 4000000
variable [ErrL]
def KeepD (L L' : List Int) : Prop := ∀ j, L.getD j 0 ≠ -1 → L'.getD j 0 = L.getD j 0
theorem KeepD.trans {L L' L'' : List Int} (h : KeepD L L') (h' : KeepD L' L'') : KeepD L L'' := fun j hj => by
  have e := h j hj
  rw [h' j (by rw [e]; exact hj), e]
theorem keepD_tell (L : List Int) (k : Nat) (v : Int) : KeepD L (tellL L k v) := by
  intro j hj
  unfold tellL
  split
  · rename_i hk
    have hk' := eq_of_beq hk
    have hjk : j ≠ k := by rintro rfl; exact hj hk'
    simp only [List.getD, List.getElem?_set]
    rw [if_neg (Ne.symm hjk)]
  · rfl
structure DAt (p : List GI) (D : List Int) (k : Nat) : Prop where
  ok : (p.getD k default).ok k p.length = true
  tk : (p.getD k default).takes ≤ D.getD k 0
  hi : tD (p.getD k default) D k ≤ 12
  go : (p.getD k default).goes = true → D.getD (p.getD k default).n.toNat 0 = tD (p.getD k default) D k
  fo : (p.getD k default).follows = true → D.getD (k + 1) 0 = tD (p.getD k default) D k
theorem DAt.keep {p : List GI} {D D' : List Int} {k : Nat} (h : DAt p D k) (hk : KeepD D D') : DAt p D' k := by
  have ht := takes_in (p.getD k default)
  have hg := gives_in (p.getD k default)
  have h1 := h.tk
  have e : D'.getD k 0 = D.getD k 0 := hk k (by omega)
  have et : tD (p.getD k default) D' k = tD (p.getD k default) D k := by unfold tD; rw [e]
  have t0 : 0 ≤ tD (p.getD k default) D k := by unfold tD; omega
  refine ⟨h.ok, by rw [e]; exact h1, by rw [et]; exact h.hi, fun hgo => ?_, fun hfo => ?_⟩
  · have := h.go hgo
    rw [hk _ (by rw [this]; omega), this, et]
  · have := h.fo hfo
    rw [hk _ (by rw [this]; omega), this, et]
theorem stepD_at {p : List GI} {L L' : List Int} {k : Nat} (h : stepD p L k = some L') : KeepD L L' ∧ DAt p L' k := by
  unfold stepD stepI at h
  generalize hI : p.getD k default = i at *
  split at h
  · cases h
  · rename_i hb0
    split at h
    · cases h
    · rename_i hb2
      injection h with h
      subst h
      simp only [bad0D, Bool.or_eq_true, Bool.not_eq_true', beq_iff_eq, decide_eq_true_eq, not_or, Bool.not_eq_false] at hb0
      obtain ⟨⟨hok, hne⟩, htk⟩ := hb0
      have hb2' : bad2D i L k (tD i L k) = false := by simpa using hb2
      simp only [bad2D, Bool.or_eq_false_iff] at hb2'
      obtain ⟨hb1, hf⟩ := hb2'
      have hb1' := hb1
      simp only [bad1D, Bool.or_eq_false_iff, decide_eq_false_iff_not] at hb1
      obtain ⟨h12, hg⟩ := hb1
      have k1 : KeepD L (L1D i L (tD i L k)) := by
        unfold L1D; split
        · exact keepD_tell _ _ _
        · exact fun _ _ => rfl
      have k2 : KeepD (L1D i L (tD i L k)) (L2D i L k (tD i L k)) := by
        unfold L2D; split
        · exact keepD_tell _ _ _
        · exact fun _ _ => rfl
      have kk := k1.trans k2
      have e := kk k hne
      have htk0 := takes_in i
      have hgv := gives_in i
      have t0 : 0 ≤ tD i L k := by unfold tD; omega
      have et : tD i (L2D i L k (tD i L k)) k = tD i L k := by
        show (L2D i L k (tD i L k)).getD k 0 - i.takes + i.gives = _
        rw [e]; rfl
      refine ⟨kk, ?_, ?_, ?_, ?_, ?_⟩
      · rw [hI]; exact hok
      · rw [hI, e]; omega
      · rw [hI, et]; omega
      · rw [hI, et]
        intro hgo
        rw [hgo] at hg
        have hg' : tellB L i.n.toNat (tD i L k) = true := by simpa using hg
        have h1 : L1D i L (tD i L k) = tellL L i.n.toNat (tD i L k) := by
          rw [L1D, if_pos]; simp [hgo]; omega
        have h2 : (L1D i L (tD i L k)).getD i.n.toNat 0 = tD i L k := by rw [h1]; exact eq_of_beq hg'
        rw [k2 _ (by rw [h2]; omega), h2]
      · rw [hI, et]
        intro hfo
        rw [hfo] at hf
        have hf' : tellB (L1D i L (tD i L k)) (k + 1) (tD i L k) = true := by simpa using hf
        have h1 : L2D i L k (tD i L k) = tellL (L1D i L (tD i L k)) (k + 1) (tD i L k) := by
          rw [L2D, if_pos]; rw [hb1', hfo]; rfl
        rw [h1]; exact eq_of_beq hf'
theorem runD_at {p : List GI} : ∀ (k : Nat) (L : List Int), runD' p k = some L → L.length = p.length + 1 ∧ L.getD 0 0 = 0 ∧ ∀ j < k, DAt p L j
  | 0, L, h => by
    injection h with h
    subst h
    refine ⟨by simp, by simp [List.getD], fun j hj => absurd hj (by omega)⟩
  | k + 1, L, h => by
    unfold runD' at h
    split at h
    · rename_i L0 h0
      obtain ⟨a, b, c⟩ := runD_at k L0 h0
      obtain ⟨kk, d⟩ := stepD_at h
      refine ⟨by rw [stepD_len h, a], by rw [kk 0 (by rw [b]; omega), b], fun j hj => ?_⟩
      by_cases hjk : j = k
      · subst hjk; exact d
      · exact (c j (by omega)).keep kk
    · cases h
structure DOk (p : List GI) (D : List Int) : Prop where
  z : D.getD 0 0 = 0
  e : D.getD p.length 0 = 0
  len : p.length ≤ 400
  at' : ∀ k < p.length, DAt p D k
theorem okC_D {p : List GI} (h : okC p = true) : ∃ D, DOk p D := by
  unfold okC depV at h
  split at h
  · rename_i L hL
    unfold depthsF at hL
    split at hL
    · cases hL
    · rename_i hn
      obtain ⟨a, b, c⟩ := runD_at _ _ hL
      exact ⟨L, b, eq_of_beq h, by omega, c⟩
  · cases h
def PS.act (S : PS) (i : GI) : PS × Bool :=
  if i.op == 1 then (S.push i.n, true)
  else if i.op == 2 then (S.push (S.m.get i.a), true)
  else if i.op == 3 then ({ S.pop with m := S.m.put i.a S.top }, true)
  else if i.op == 4 then (S.pop.pop.push (two i.n S.pop.top S.top), true)
  else if i.op == 5 then (S.pop.push (numIs (!(S.top != 0))), true)
  else if i.op == 6 then (if !(S.top != 0) then { S.pop with k := i.n } else S.pop, true)
  else if i.op == 7 then ({ S with k := i.n }, true)
  else (if S.F == 0 then S else { S with F := S.F - 1, k := i.n }, S.F != 0)
def PS.nx (S : PS) : PS := { S with k := S.k + 1 }
def mex (p : List GI) : Nat → PS → PS × Bool
  | 0, S => (S, false)
  | g + 1, S => if S.k < p.length then (if (S.nx.act (p.getD S.k.toNat default)).2 then mex p g (S.nx.act (p.getD S.k.toNat default)).1 else ((S.nx.act (p.getD S.k.toNat default)).1, true)) else (S, false)
structure PS.In (p : List GI) (D : List Int) (S : PS) : Prop where
  ok : S.Ok
  k0 : 0 ≤ S.k
  k1 : S.k ≤ p.length
  n : D.getD S.k.toNat 0 = S.n
  n0 : 0 ≤ S.n
  n1 : S.n ≤ 12
  F0 : 0 ≤ S.F
  F1 : S.F ≤ 100
def PS.meas (p : List GI) (S : PS) : Nat := S.F.toNat * (p.length + 1) + (p.length - S.k.toNat)
theorem act_in {p : List GI} {D : List Int} {S : PS} (hD : DOk p D) (h : S.In p D) (hk : S.k < p.length) :
    ((S.nx.act (p.getD S.k.toNat default)).2 = true → (S.nx.act (p.getD S.k.toNat default)).1.In p D ∧ (S.nx.act (p.getD S.k.toNat default)).1.meas p < S.meas p) ∧
    ((S.nx.act (p.getD S.k.toNat default)).2 = false → (S.nx.act (p.getD S.k.toNat default)).1 = S.nx) := by
  obtain ⟨hok, hk0, hk1, hn, hn0, hn1, hF0, hF1⟩ := h
  have hH := hok.H
  have hm := hok.m
  obtain ⟨h1, h2, h3, h4, h5⟩ := hD.at' S.k.toNat (by omega)
  generalize hI : p.getD S.k.toNat default = i at *
  have hkk : ((S.k.toNat : Nat) : Int) = S.k := by omega
  have hk1' : (S.k + 1).toNat = S.k.toNat + 1 := by omega
  have htk0 := takes_in i
  have hgv := gives_in i
  rw [hkk] at h1
  have t0 : 0 ≤ tD i D S.k.toNat := by unfold tD; omega
  generalize hT : tD i D S.k.toNat = t at *
  unfold tD at hT
  rw [hn] at hT h2
  have gi := fun hg => goes_in (i := i) (k := S.k.toNat) (n := p.length) (by omega) (by rw [hkk]; exact h1) hg
  have hmul : S.F ≠ 0 → S.F.toNat * (p.length + 1) = (S.F - 1).toNat * (p.length + 1) + (p.length + 1) := by
    intro hne
    obtain ⟨f, hf⟩ : ∃ f, S.F.toNat = f + 1 := ⟨S.F.toNat - 1, by omega⟩
    have hf1 : (S.F - 1).toNat = f := by omega
    rw [hf, hf1, Nat.add_mul, Nat.one_mul]
  have hput : ∀ v, (S.m.put i.a v).Six := fun v => MM.put_six hm _ _
  have hpl : ∀ v, (S.H.set S.n.toNat v).length = 12 := fun v => by simp [hH]
  unfold PS.act
  split
  · rename_i hop
    have hop := eq_of_beq hop
    simp [GI.takes, GI.gives, GI.goes, GI.follows, hop] at hT h2 h4 h5
    refine ⟨fun _ => ⟨⟨⟨by simp [PS.push, PS.nx, hH], hm⟩, ?_, ?_, ?_, ?_, ?_, hF0, hF1⟩, ?_⟩, by simp⟩
    all_goals simp only [List.getD_eq_getElem?_getD, PS.push, PS.nx, PS.meas, hk1']
    all_goals omega
  split
  · rename_i hop
    have hop := eq_of_beq hop
    simp [GI.takes, GI.gives, GI.goes, GI.follows, hop] at hT h2 h4 h5
    refine ⟨fun _ => ⟨⟨⟨by simp [PS.push, PS.nx, hH], hm⟩, ?_, ?_, ?_, ?_, ?_, hF0, hF1⟩, ?_⟩, by simp⟩
    all_goals simp only [List.getD_eq_getElem?_getD, PS.push, PS.nx, PS.meas, hk1']
    all_goals omega
  split
  · rename_i hop
    have hop := eq_of_beq hop
    simp [GI.takes, GI.gives, GI.goes, GI.follows, hop] at hT h2 h4 h5
    refine ⟨fun _ => ⟨⟨⟨hH, hput _⟩, ?_, ?_, ?_, ?_, ?_, hF0, hF1⟩, ?_⟩, by simp⟩
    all_goals simp only [List.getD_eq_getElem?_getD, PS.pop, PS.nx, PS.meas, hk1']
    all_goals omega
  split
  · rename_i hop
    have hop := eq_of_beq hop
    simp [GI.takes, GI.gives, GI.goes, GI.follows, hop] at hT h2 h4 h5
    refine ⟨fun _ => ⟨⟨⟨by simp [PS.push, PS.pop, PS.nx, hH], hm⟩, ?_, ?_, ?_, ?_, ?_, hF0, hF1⟩, ?_⟩, by simp⟩
    all_goals simp only [List.getD_eq_getElem?_getD, PS.push, PS.pop, PS.nx, PS.meas, hk1']
    all_goals omega
  split
  · rename_i hop
    have hop := eq_of_beq hop
    simp [GI.takes, GI.gives, GI.goes, GI.follows, hop] at hT h2 h4 h5
    refine ⟨fun _ => ⟨⟨⟨by simp [PS.push, PS.pop, PS.nx, hH], hm⟩, ?_, ?_, ?_, ?_, ?_, hF0, hF1⟩, ?_⟩, by simp⟩
    all_goals simp only [List.getD_eq_getElem?_getD, PS.push, PS.pop, PS.nx, PS.meas, hk1']
    all_goals omega
  split
  · rename_i hop
    have hop := eq_of_beq hop
    have hok6 := h1
    unfold GI.ok at hok6
    simp [hop] at hok6
    have gi := gi (by simp [GI.goes, hop])
    simp [GI.takes, GI.gives, GI.goes, GI.follows, hop] at hT h2 h4 h5
    refine ⟨fun _ => ?_, by simp⟩
    split
    · refine ⟨⟨⟨hH, hm⟩, ?_, ?_, ?_, ?_, ?_, hF0, hF1⟩, ?_⟩
      all_goals simp only [List.getD_eq_getElem?_getD, PS.pop, PS.nx, PS.meas]
      all_goals omega
    · refine ⟨⟨⟨hH, hm⟩, ?_, ?_, ?_, ?_, ?_, hF0, hF1⟩, ?_⟩
      all_goals simp only [List.getD_eq_getElem?_getD, PS.pop, PS.nx, PS.meas, hk1']
      all_goals omega
  split
  · rename_i hop
    have hop := eq_of_beq hop
    have hok6 := h1
    unfold GI.ok at hok6
    simp [hop] at hok6
    have gi := gi (by simp [GI.goes, hop])
    simp [GI.takes, GI.gives, GI.goes, GI.follows, hop] at hT h2 h4 h5
    refine ⟨fun _ => ⟨⟨⟨hH, hm⟩, ?_, ?_, ?_, ?_, ?_, hF0, hF1⟩, ?_⟩, by simp⟩
    all_goals simp only [List.getD_eq_getElem?_getD, PS.pop, PS.nx, PS.meas]
    all_goals omega
  · rename_i q1 q2 q3 q4 q5 q6 q7
    have hop : i.op = 8 := by
      have hok6 := h1
      unfold GI.ok at hok6
      simp only [q1, q2, q3, q4, q5, q6, q7, Bool.or_false, Bool.false_eq_true, if_false] at hok6
      split at hok6
      · rename_i hh; exact eq_of_beq hh
      · cases hok6
    have gi := gi (by simp [GI.goes, hop])
    simp [GI.takes, GI.gives, GI.goes, GI.follows, hop] at hT h2 h4 h5
    refine ⟨fun hF => ?_, fun hF => ?_⟩
    · have hF' : S.F ≠ 0 := by simpa [PS.nx] using hF
      rw [if_neg (by simpa [PS.nx] using hF')]
      have := hmul hF'
      refine ⟨⟨⟨hH, hm⟩, ?_, ?_, ?_, ?_, ?_, ?_, ?_⟩, ?_⟩
      all_goals simp only [List.getD_eq_getElem?_getD, PS.pop, PS.nx, PS.meas]
      all_goals omega
    · rw [if_pos (by simpa [PS.nx] using hF)]
theorem doK (x id : Nat) (hx : x ≠ id) (S : PS) (h : S.Ok) (i : GI) (k n : Nat) (hk : i.ok k n = true) (h0 : i.takes ≤ S.n) (h1 : S.n ≤ 12) (h2 : S.n - i.takes + i.gives ≤ 12) (h3 : 0 ≤ S.n) (hF0 : 0 ≤ S.F) (hF1 : S.F ≤ 100) :
    CallF Tryz.prog (actF i) ([.ptr x 0] ++ actCap i) (pfoot x id S) 0 (fun _ o => o = { rs := [.bool (S.act i).2], u := pu x id (S.act i).1 }) := by
  unfold actF actCap actV PS.act
  unfold GI.ok at hk
  cases q1 : i.op == 1
  case true =>
    have hop := eq_of_beq q1
    simp [GI.takes, GI.gives, hop] at h0 h2
    simp only [Bool.true_or, if_true, actW]
    exact act11_ok x id hx S _ _ _ (stp_push x id hx S h i (by omega) (by omega)) Tryz.call125
  cases q2 : i.op == 2
  case true =>
    have hop := eq_of_beq q2
    simp [GI.takes, GI.gives, hop] at h0 h2 hk
    simp only [Bool.true_or, Bool.or_true, Bool.false_eq_true, if_true, if_false, actW]
    exact act11_ok x id hx S _ _ _ (stp_load x id hx S h i (by omega) (by omega) hk.2) Tryz.call127
  cases q3 : i.op == 3
  case true =>
    have hop := eq_of_beq q3
    simp [GI.takes, GI.gives, hop] at h0 h2 hk
    simp only [Bool.true_or, Bool.or_true, Bool.false_eq_true, if_true, if_false, actW]
    exact act11_ok x id hx S _ _ _ (stp_store x id hx S h i (by omega) (by omega) hk.2.1 hk.2.2) Tryz.call129
  cases q4 : i.op == 4
  case true =>
    have hop := eq_of_beq q4
    simp [GI.takes, GI.gives, hop] at h0 h2 hk
    simp only [Bool.true_or, Bool.or_true, Bool.false_eq_true, if_true, if_false, actW]
    exact act11_ok x id hx S _ _ _ (stp_two x id hx S h i (by omega) (by omega)) Tryz.call132
  cases q5 : i.op == 5
  case true =>
    have hop := eq_of_beq q5
    simp [GI.takes, GI.gives, hop] at h0 h2 hk
    simp only [Bool.true_or, Bool.or_true, Bool.false_eq_true, if_true, if_false, actW]
    exact act11_ok x id hx S _ _ _ (stp_not x id hx S h i (by omega) (by omega)) Tryz.call134
  cases q6 : i.op == 6
  case true =>
    have hop := eq_of_beq q6
    simp [GI.takes, GI.gives, hop] at h0 h2 hk
    simp only [Bool.true_or, Bool.or_true, Bool.false_eq_true, if_true, if_false, actW]
    exact act11_ok x id hx S _ _ _ (stp_skip x id hx S h i (by omega) (by omega)) Tryz.call137
  cases q7 : i.op == 7
  case true =>
    have hop := eq_of_beq q7
    simp only [Bool.true_or, Bool.or_true, Bool.false_eq_true, if_true, if_false, actW]
    exact act11_ok x id hx S _ _ _ (stp_jump x id hx S h i) Tryz.call138
  simp only [Bool.or_false, Bool.false_eq_true, if_false]
  exact back_ok x id hx S h i hF0 hF1
end Go.Proofs.YtmicbfojofcigaaGreatDoor
namespace Go.Proofs.YtmicbfojofcigaaGreatDoor
open Go Sg
set_option maxRecDepth 100000
set_option linter.unusedSimpArgs false
set_option linter.unusedVariables false
set_option linter.unusedSectionVars false
set_option maxHeartbeats 4000000
variable [ErrL]
def PS.start (m : MM) (F : Int) : PS := ⟨List.replicate 12 0, 0, 0, F, m⟩
def runCok (m : MM) (p : List GI) (F : Int) : Bool := m.ok && okC p && decide (0 ≤ F) && decide (F ≤ 100)
def mexR (m : MM) (p : List GI) (F : Int) : PS × Bool := mex p ((PS.start m F).meas p + 1) (PS.start m F)
def runC (m : MM) (p : List GI) (F : Int) : MM × Int × Int := if runCok m p F then endO ((mexR m p F).1.m, (mexR m p F).1.F.toNat, (mexR m p F).2) else (noM, 2, 0)
theorem start_pcs (id : Nat) (m : MM) (F : Int) : pcs id (PS.start m F) = [.ptr id 0, .int .i64 0, .int .i64 0, .int .i64 0, .int .i64 0, .int .i64 0, .int .i64 0, .int .i64 0, .int .i64 0, .int .i64 0, .int .i64 0, .int .i64 0, .int .i64 0, .int .i64 0, .int .i64 0, .int .i64 F] := rfl
theorem start_in {m : MM} {p : List GI} {D : List Int} {F : Int} (hD : DOk p D) (hm : m.Six) (h0 : 0 ≤ F) (h1 : F ≤ 100) : (PS.start m F).In p D :=
  ⟨⟨rfl, hm⟩, Int.le_refl _, Int.natCast_nonneg _, hD.z, Int.le_refl _, by show (0 : Int) ≤ 12; omega, h0, h1⟩
theorem enter_act (i : GI) args w : (callFunc (actF i) args).run Tryz.prog w = .ok (.enter (actF i) args) w := by
  unfold actF
  split
  · exact Tryz.call124 args w
  · exact Tryz.call139 args w
theorem icodeRun_ok (m : MM) (p : List GI) (F : Int) (hm : m.Sm) (hs : p.length ≤ 1099511627776) : PureF Tryz.prog 23 [.agg m.cs, .rows 81 (insR p), .int .i64 F] [.agg (runC m p F).1.cs, .int .i64 (runC m p F).2.1, .int .i64 (runC m p F).2.2] := by
  refine pureF_of Tryz.func23 rfl Tryz.ntmps23 (by simp) T_ ?_
  intro f0 B Q hQ
  refine g_ [1,2,3,6] ?_
  refine n_ ?_
  refine wpM_regionK [1,2,6,9,10] rfl fun Q1 hQ1 => ?_
  refine S_ ?_
  refine call_fn (l := []) (first := []) (cap := []) (ps := [.agg m.cs]) (readMem_ok' m hm) Tryz.call42 rfl rfl rfl G_ T_ ?_
  rintro out ⟨x', pp, l2, ⟨⟩, hp, rfl⟩
  refine S_ ?_
  refine hQ1 _ _ (S_ ?_);clear hQ1 Q1
  refine n_ ?_
  refine wpM_regionK [1,2,6,9,33] rfl fun Q1 hQ1 => ?_
  refine SD_ ?_
  first | refine cg_ (fun hb => icodeOk_ok p hs) Tryz.call22 ?_ | refine cpD_ (icodeOk_ok p hs) Tryz.call22 ?_
  refine hQ1 _ _ (S_ ?_);clear hQ1 Q1
  refine c_ (fun hc0 => ?_) fun hc0 => ?_
  ·
    refine g_ [6,7,8] ?_
    have hcs : runC m p F = (noM, 2, 0) := by
      rw [runC, if_neg]
      intro hh
      simp only [runCok, Bool.and_eq_true, decide_eq_true_eq] at hh
      obtain ⟨⟨⟨h1, h2⟩, h3⟩, h4⟩ := hh
      rw [h1, h2, decide_eq_false (by omega : ¬ F < 0), decide_eq_false (by omega : ¬ F > 100)] at hc0
      cases hc0
    refine wpM_le [(6, .ptr (B + 1) 0), (7, .int .i64 2), (8, .int .i64 0)] [(B + 1, .cells 33 [.rows 3 [], .rows 3 [], .rows 3 []])] T_ T_ T_ ?_
    refine e_ Tryz.results23 ?_
    first
    | exact True.intro
    | rw [hcs]
      repeat' apply And.intro
      all_goals first | rfl | trivial
  simp only [Bool.or_eq_false_iff, Bool.not_eq_false', decide_eq_false_iff_not] at hc0
  obtain ⟨⟨⟨h1, h2⟩, h3⟩, h4⟩ := hc0
  have hok : runCok m p F = true := by
    simp only [runCok, Bool.and_eq_true, decide_eq_true_eq]
    exact ⟨⟨⟨h1, h2⟩, by omega⟩, by omega⟩
  have hcs : runC m p F = endO ((mexR m p F).1.m, (mexR m p F).1.F.toNat, (mexR m p F).2) := by rw [runC, if_pos hok]
  have hsix := MM.ok_six h1
  have hpp : pp = .ptr (B + 2) 0 ∧ l2 = m.flat := by
    rcases hp with ⟨_, h2, h3⟩ | ⟨h5, _⟩
    · exact ⟨h2, h3⟩
    · rw [h1] at h5; cases h5
  obtain ⟨rfl, rfl⟩ := hpp
  obtain ⟨D, hD⟩ := okC_D h2
  have hin := start_in (F := F) hD hsix (by omega) (by omega)
  have hlen := hD.len
  refine g_ [1,6,9,11] ?_
  refine n_ ?_
  refine wpM_regionK [6,9,11,12] rfl fun Q1 hQ1 => ?_
  refine S_ ?_
  refine cp_ (acts_ok p (by omega)) Tryz.call51 ?_
  refine hQ1 _ _ (S_ ?_);clear hQ1 Q1
  rw [← start_pcs (B + 2) m F]
  simp only [Nat.add_assoc, Nat.reduceAdd]
  have hR : mex p ((PS.start m F).meas p + 1) (PS.start m F) = mexR m p F := rfl
  generalize hx : mexR m p F = RR at *
  have hS0 : (PS.start m F).m = m := rfl
  generalize hS : PS.start m F = S0 at *
  rw [show ints m.flat = ints S0.m.flat from by rw [hS0]]
  refine n_ ?_
  refine wpM_loopS (fun q n s' => ∃ (S : PS) (g M : Nat), S.In p D ∧ S.meas p = n ∧ n < g ∧ mex p g S = RR ∧ q.M ≤ M ∧ s' = { q with env := q.env, l := [(B + 3, .cells 88 (pcs (B + 2) S)), (B + 2, .cells 122 (ints S.m.flat)), (B + 1, .cells 33 [.emp, .emp, .emp]), (B, .cells 33 [.rows 3 (rowsI m.i), .rows 3 (rowsI m.o), .rows 3 (rowsI m.v)])], M := M }) (S0.meas p) ?_ ?_
  ·
    refine .of' _ _ ⟨S0, _, _, hin, rfl, Nat.lt_succ_self _, hR, Nat.le_refl _, rfl⟩ ?_ ?_ ?_ <;> exact L_
  rintro n s' ⟨S, g, M, hi, hn, hng, hw, hM, rfl⟩
  clear hR
  try dsimp only at hM
  obtain ⟨g, rfl⟩ : ∃ g', g = g' + 1 := ⟨g - 1, by omega⟩
  simp only [mex] at hw
  have hH := hi.ok.H
  have hk0 := hi.k0
  have hk1 := hi.k1
  have hkk : ((S.k.toNat : Nat) : Int) = S.k := by omega
  try refine S_ ?_
  refine n_ ?_
  refine wpM_regionK [6,9,11,12,47] rfl fun Q1 hQ1 => ?_
  simp -implicitDefEqProofs (disch := omega) only [go_sem, pcs_len (B + 2) S hH, pcs_k (B + 2) S hH]
  refine hQ1 _ _ (S_ ?_);clear hQ1 Q1
  refine c_ (fun hc1 => ?_) fun hc1 => ?_
  ·
    have hai := act_in hD hi hc1
    have hat := hD.at' S.k.toNat (by omega)
    rw [if_pos hc1] at hw
    refine n_ ?_
    refine wpM_regionK [6,9,11,12,13] rfl fun Q1 hQ1 => ?_
    simp -implicitDefEqProofs (disch := omega) only [go_sem, pcs_len (B + 2) S hH, pcs_k (B + 2) S hH, hkk]
    refine hQ1 _ _ (S_ ?_);clear hQ1 Q1
    rw [actV_eq]
    refine n_ ?_
    refine wpM_regionK [6,9,11,12,13] rfl fun Q1 hQ1 => ?_
    simp -implicitDefEqProofs (disch := omega) only [go_sem, pcs_len (B + 2) S hH, pcs_k (B + 2) S hH, pcs_setk (B + 2) S hH, show IntKind.i64.wrap (S.k + 1) = S.k + 1 from wrap64 ⟨by omega, by omega⟩]
    refine hQ1 _ _ (S_ ?_);clear hQ1 Q1
    generalize hI : p.getD S.k.toNat default = i at *
    have hnx : ({ S with k := S.k + 1 } : PS) = S.nx := rfl
    have hnm : S.m = S.nx.m := rfl
    rw [hnx, hnm]
    refine n_ ?_
    refine wpM_regionK [6,9,11,12,65] rfl fun Q1 hQ1 => ?_
    refine S_ ?_
    refine call_fn (l := pfoot (B + 3) (B + 2) S.nx) (first := []) (cap := actCap i) (ps := [.ptr (B + 3) 0]) (doK (B + 3) (B + 2) (by omega) S.nx ⟨hH, hi.ok.m⟩ i S.k.toNat p.length (hI ▸ hat.ok) ?_ hi.n1 ?_ hi.n0 hi.F0 hi.F1) (enter_act i) rfl rfl T_ T_ T_ ?_
    · rw [← hI]; have := hat.tk; rw [hi.n] at this; exact this
    · rw [← hI]; have := hat.hi; unfold tD at this; rw [hi.n] at this; exact this
    rintro out rfl
    refine S_ ?_
    refine hQ1 _ _ (S_ ?_);clear hQ1 Q1
    refine c_ (fun hc2 => ?_) fun hc2 => ?_
    ·
      have hc2' : (S.nx.act i).2 = false := by simpa using hc2
      rw [if_neg (by rw [hc2']; simp)] at hw
      have hsx : (S.nx.act i).1.m.Six := by rw [hai.2 hc2']; exact hi.ok.m
      refine n_ ?_
      refine wpM_regionK [6,7,8] rfl fun Q1 hQ1 => ?_
      refine S_ ?_
      refine call_fn (l := mobj (B + 2) (S.nx.act i).1.m) (first := []) (cap := []) (ps := [.ptr (B + 2) 0, .int .i64 0, errV true]) (ended_ok (B + 2) (S.nx.act i).1.m hsx 0 true) Tryz.call44 rfl rfl rfl G_ T_ ?_
      rintro out ⟨x2, y2, z2, ⟨⟩, rfl⟩
      refine S_ ?_
      refine hQ1 _ _ (S_ ?_);clear hQ1 Q1
      refine wpM_frz [M, M + 1, M + 2] ((S.nx.act i).1.m.tb M (M + 1) (M + 2)) (by intro q hq; simp at hq; rcases hq with rfl | rfl | rfl <;> simp -implicitDefEqProofs (disch := omega) only [go_sem]) ((S.nx.act i).1.m.frz hsx T_ T_ T_) ?_
      simp -implicitDefEqProofs (disch := omega) only [go_sem, MM.tb]
      refine e_ Tryz.results23 ?_
      first
      | exact True.intro
      | rw [hcs, ← hw]
        repeat' apply And.intro
        all_goals first | rfl | trivial
    have hc2' : (S.nx.act i).2 = true := by simpa using hc2
    rw [if_pos hc2'] at hw
    obtain ⟨hin', hml⟩ := hai.1 hc2'
    refine n_ ?_
    refine .of' _ _ ⟨(S.nx.act i).1.meas p, by omega, (S.nx.act i).1, g, _, hin', rfl, by omega, hw, ?_, rfl⟩ ?_ ?_ ?_
    · exact M_
    all_goals exact L_
  rw [if_neg hc1] at hw
  refine n_ ?_
  refine wpM_regionK [6,7,8] rfl fun Q1 hQ1 => ?_
  simp -implicitDefEqProofs (disch := omega) only [go_sem, pcs_len (B + 2) S hH, pcs_F (B + 2) S hH]
  refine call_fn (l := mobj (B + 2) S.m) (first := []) (cap := []) (ps := [.ptr (B + 2) 0, .int .i64 S.F, errV false]) (ended_ok (B + 2) S.m hi.ok.m S.F false) Tryz.call44 rfl rfl rfl G_ T_ ?_
  rintro out ⟨x2, y2, z2, ⟨⟩, rfl⟩
  simp -implicitDefEqProofs (disch := omega) only [go_sem, pcs_len (B + 2) S hH, pcs_F (B + 2) S hH]
  refine hQ1 _ _ (S_ ?_);clear hQ1 Q1
  have hFn : ((S.F.toNat : Nat) : Int) = S.F := by have := hi.F0; omega
  refine wpM_frz [M, M + 1, M + 2] (S.m.tb M (M + 1) (M + 2)) (by intro q hq; simp at hq; rcases hq with rfl | rfl | rfl <;> simp -implicitDefEqProofs (disch := omega) only [go_sem]) (S.m.frz hi.ok.m T_ T_ T_) ?_
  simp -implicitDefEqProofs (disch := omega) only [go_sem, MM.tb]
  refine e_ Tryz.results23 ?_
  first
  | exact True.intro
  | rw [hcs, ← hw]
    simp only [endO, hFn]
    repeat' apply And.intro
    all_goals first | rfl | trivial
end Go.Proofs.YtmicbfojofcigaaGreatDoor
namespace Go.Proofs.YtmicbfojofcigaaGreatDoor
open Go Sg
set_option maxRecDepth 100000
set_option linter.unusedSimpArgs false
set_option linter.unusedVariables false
set_option linter.unusedSectionVars false
set_option maxHeartbeats 4000000
variable [ErrL]
def At (p : List GI) (k : Nat) (c : List GI) : Prop := ∃ a b, p = a ++ c ++ b ∧ a.length = k
theorem At.fst {p c d : List GI} {k : Nat} (h : At p k (c ++ d)) : At p k c := by
  obtain ⟨a, b, rfl, rfl⟩ := h
  exact ⟨a, d ++ b, by simp, rfl⟩
theorem At.snd {p c d : List GI} {k : Nat} (h : At p k (c ++ d)) : At p (k + c.length) d := by
  obtain ⟨a, b, rfl, rfl⟩ := h
  exact ⟨a ++ c, b, by simp, by simp⟩
theorem At.one {p : List GI} {i : GI} {k : Nat} (h : At p k [i]) : k < p.length ∧ p.getD k default = i := by
  obtain ⟨a, b, rfl, rfl⟩ := h
  refine ⟨by simp, by simp [List.getD]⟩
theorem At.len {p c : List GI} {k : Nat} (h : At p k c) : k + c.length ≤ p.length := by
  obtain ⟨a, b, rfl, rfl⟩ := h
  simp
theorem tellB_of {L : List Int} {k : Nat} {v : Int} (hk : k < L.length) (h : L.getD k 0 = -1 ∨ L.getD k 0 = v) : tellB L k v = true := by
  unfold tellB tellL
  rcases h with h | h
  · rw [if_pos (by rw [h]; rfl)]
    simp [List.getD, hk]
  · split
    · simp [List.getD, hk]
    · rw [h]; simp
theorem tellL_at {L : List Int} {k : Nat} {v : Int} (hk : k < L.length) (h : L.getD k 0 = -1 ∨ L.getD k 0 = v) : (tellL L k v).getD k 0 = v := eq_of_beq (tellB_of hk h)
theorem tellL_ne {L : List Int} {k j : Nat} {v : Int} (h : j ≠ k) : (tellL L k v).getD j 0 = L.getD j 0 := by
  unfold tellL
  split
  · simp only [List.getD, List.getElem?_set]; rw [if_neg (Ne.symm h)]
  · rfl
theorem stepI_ok {i : GI} {N k : Nat} {L : List Int} (hok : i.ok k N = true) (hk : k < N) (hl : L.length = N + 1) (hL : 0 ≤ L.getD k 0) (ht : i.takes ≤ L.getD k 0) (hi : tD i L k ≤ 12)
    (hg : i.goes = true → L.getD i.n.toNat 0 = -1 ∨ L.getD i.n.toNat 0 = tD i L k) (hf : i.follows = true → L.getD (k + 1) 0 = -1 ∨ L.getD (k + 1) 0 = tD i L k) :
    ∃ L', stepI i N L k = some L' ∧ L'.length = N + 1 ∧ (i.goes = true → L'.getD i.n.toNat 0 = tD i L k) ∧ (i.follows = true → L'.getD (k + 1) 0 = tD i L k) ∧ ∀ j, (i.goes = true → j ≠ i.n.toNat) → (i.follows = true → j ≠ k + 1) → L'.getD j 0 = L.getD j 0 := by
  have hb0 : bad0D i N L k = false := by
    simp only [bad0D, hok, Bool.not_true, Bool.false_or, Bool.or_eq_false_iff, decide_eq_false_iff_not, beq_eq_false_iff_ne]
    omega
  have gi := fun hg => goes_in (i := i) (k := k) (n := N) hk hok hg
  have hb1 : bad1D i L (tD i L k) = false := by
    simp only [bad1D, Bool.or_eq_false_iff, decide_eq_false_iff_not]
    refine ⟨by omega, ?_⟩
    cases hgo : i.goes with
    | false => rfl
    | true => rw [tellB_of (by rw [hl]; exact (gi hgo).2) (hg hgo)]; rfl
  have hL1 : L1D i L (tD i L k) = if i.goes then tellL L i.n.toNat (tD i L k) else L := by
    unfold L1D; rw [show decide (tD i L k > 12) = false by simp; omega]; simp
  have hf1 : i.follows = true → (L1D i L (tD i L k)).getD (k + 1) 0 = -1 ∨ (L1D i L (tD i L k)).getD (k + 1) 0 = tD i L k := by
    intro h
    rw [hL1]
    split
    · rename_i hgo
      by_cases e : k + 1 = i.n.toNat
      · right; rw [e]; exact tellL_at (by rw [hl]; exact (gi hgo).2) (hg hgo)
      · rw [tellL_ne e]; exact hf h
    · exact hf h
  have hlen1 : (L1D i L (tD i L k)).length = N + 1 := by rw [L1D_len, hl]
  have hb2 : bad2D i L k (tD i L k) = false := by
    simp only [bad2D, hb1, Bool.false_or]
    cases hfo : i.follows with
    | false => rfl
    | true => rw [tellB_of (by rw [hlen1]; omega) (hf1 hfo)]; rfl
  have hL2 : L2D i L k (tD i L k) = if i.follows then tellL (L1D i L (tD i L k)) (k + 1) (tD i L k) else L1D i L (tD i L k) := by
    unfold L2D; rw [hb1]; simp
  refine ⟨L2D i L k (tD i L k), by rw [stepI, if_neg (by rw [hb0]; simp), if_neg (by rw [hb2]; simp)], by rw [L2D_len, hl], fun h => ?_, fun h => ?_, fun j h1 h2 => ?_⟩
  · have e1 : (L1D i L (tD i L k)).getD i.n.toNat 0 = tD i L k := by rw [hL1, if_pos h]; exact tellL_at (by rw [hl]; exact (gi h).2) (hg h)
    rw [hL2]
    split
    · rename_i hfo
      by_cases e : i.n.toNat = k + 1
      · rw [e]; exact tellL_at (by rw [hlen1]; omega) (hf1 hfo)
      · rw [tellL_ne e]; exact e1
    · exact e1
  · rw [hL2, if_pos h]; exact tellL_at (by rw [hlen1]; omega) (hf1 h)
  · have e1 : (L1D i L (tD i L k)).getD j 0 = L.getD j 0 := by
      rw [hL1]; split
      · rename_i hgo; exact tellL_ne (h1 hgo)
      · rfl
    rw [hL2]; split
    · rename_i hfo; rw [tellL_ne (h2 hfo), e1]
    · exact e1
theorem run_one {p : List GI} {i : GI} {k : Nat} {L : List Int} (hp : At p k [i]) (hr : runD' p k = some L) (hl : L.length = p.length + 1) (hok : i.ok k p.length = true) (hL : 0 ≤ L.getD k 0) (ht : i.takes ≤ L.getD k 0) (hi : tD i L k ≤ 12)
    (hg : i.goes = true → L.getD i.n.toNat 0 = -1 ∨ L.getD i.n.toNat 0 = tD i L k) (hf : i.follows = true → L.getD (k + 1) 0 = -1 ∨ L.getD (k + 1) 0 = tD i L k) :
    ∃ L', runD' p (k + 1) = some L' ∧ L'.length = p.length + 1 ∧ (i.goes = true → L'.getD i.n.toNat 0 = tD i L k) ∧ (i.follows = true → L'.getD (k + 1) 0 = tD i L k) ∧ ∀ j, (i.goes = true → j ≠ i.n.toNat) → (i.follows = true → j ≠ k + 1) → L'.getD j 0 = L.getD j 0 := by
  obtain ⟨h1, h2⟩ := hp.one
  obtain ⟨L', a, b⟩ := stepI_ok (i := i) (N := p.length) (k := k) (L := L) hok h1 hl hL ht hi hg hf
  refine ⟨L', ?_, b⟩
  rw [runD', hr]
  show stepD p L k = _
  rw [stepD, h2]
  exact a
theorem form_inv2 {d : Nat} {e : Ex} (h : formD (d + 1) e = true) (k : Nat) (n : Int) : (lastI e).ok k n = true ∧ (lastI e).goes = false ∧ (lastI e).follows = true ∧ (lastI e).takes = e.kids.length ∧ (lastI e).gives = 1 ∧ e.kids.length ≤ 2 ∧ ∀ x ∈ e.kids, formD d x = true := by
  simp only [formD] at h
  split at h
  · cases h
  · rename_i h1
    split at h
    · cases h
    · rename_i h2
      split at h
      · cases h
      · rename_i h3
        have h1' : kidsN e.kind = (e.kids.length : Int) := by simpa using h1
        have hall := List.all_eq_true.1 h
        simp only [Bool.or_eq_true, Bool.and_eq_true, not_or, not_and, beq_iff_eq, bne_iff_ne, ne_eq, Bool.not_eq_true', Bool.not_eq_false, Decidable.not_not] at h2 h3
        by_cases q1 : e.kind = 1
        · have hk : e.kids.length = 0 := by have := h1'; rw [q1] at this; simp [kidsN] at this; omega
          refine ⟨?_, ?_, ?_, ?_, ?_, by omega, hall⟩
          · have := h2.1 q1
            simp [lastI, q1, GI.ok, isNum_cut, GI.noA, A0, this]
          all_goals simp [lastI, q1, GI.goes, GI.follows, GI.takes, GI.gives, hk]
        by_cases q2 : e.kind = 2
        · have hk : e.kids.length = 0 := by have := h1'; rw [q2] at this; simp [kidsN] at this; omega
          refine ⟨?_, ?_, ?_, ?_, ?_, by omega, hall⟩
          · have := h3.1 q2
            simp [lastI, q2, GI.ok, this]
          all_goals simp [lastI, q2, GI.goes, GI.follows, GI.takes, GI.gives, hk]
        by_cases q10 : e.kind = 10
        · have hk : e.kids.length = 1 := by have := h1'; rw [q10] at this; simp [kidsN] at this; omega
          refine ⟨?_, ?_, ?_, ?_, ?_, by omega, hall⟩
          · simp [lastI, q10, GI.ok, GI.noA, A0]
          all_goals simp [lastI, q10, GI.goes, GI.follows, GI.takes, GI.gives, hk]
        · have hr : 3 ≤ e.kind ∧ e.kind ≤ 9 := by
            unfold kidsN at h1'
            simp only [q1, q2, q10, beq_iff_eq, Bool.or_eq_true, or_self, if_false, Bool.and_eq_true, decide_eq_true_eq] at h1'
            split at h1'
            · omega
            · omega
          have hk : e.kids.length = 2 := by
            unfold kidsN at h1'
            simp only [q1, q2, q10, beq_iff_eq, Bool.or_eq_true, or_self, if_false, Bool.and_eq_true, decide_eq_true_eq] at h1'
            rw [if_pos (by omega)] at h1'
            omega
          refine ⟨?_, ?_, ?_, ?_, ?_, by omega, hall⟩
          · simp [lastI, q1, q2, q10, GI.ok, isTwo, GI.noA, A0]; omega
          all_goals simp [lastI, q1, q2, q10, GI.goes, GI.follows, GI.takes, GI.gives, hk]
theorem ex_run (p : List GI) : ∀ d : Nat, (∀ e : Ex, formD d e = true → ∀ (k : Nat) (n : Int) (L : List Int), At p k e.cd → runD' p k = some L → L.length = p.length + 1 → L.getD k 0 = n → 0 ≤ n → n + d ≤ 12 → (∀ j, k < j → j ≤ k + e.cd.length → L.getD j 0 = -1) →
      ∃ L', runD' p (k + e.cd.length) = some L' ∧ L'.length = p.length + 1 ∧ L'.getD (k + e.cd.length) 0 = n + 1 ∧ ∀ j, j ≤ k ∨ k + e.cd.length < j → L'.getD j 0 = L.getD j 0) ∧
    (∀ l : List Ex, (∀ x ∈ l, formD d x = true) → ∀ (k : Nat) (n : Int) (L : List Int), At p k (Ex.cdL l) → runD' p k = some L → L.length = p.length + 1 → L.getD k 0 = n → 0 ≤ n → n + l.length + d ≤ 13 → (∀ j, k < j → j ≤ k + (Ex.cdL l).length → L.getD j 0 = -1) →
      ∃ L', runD' p (k + (Ex.cdL l).length) = some L' ∧ L'.length = p.length + 1 ∧ L'.getD (k + (Ex.cdL l).length) 0 = n + l.length ∧ ∀ j, j ≤ k ∨ k + (Ex.cdL l).length < j → L'.getD j 0 = L.getD j 0) := by
  intro d
  have lst : ∀ d, (∀ e : Ex, formD d e = true → ∀ (k : Nat) (n : Int) (L : List Int), At p k e.cd → runD' p k = some L → L.length = p.length + 1 → L.getD k 0 = n → 0 ≤ n → n + d ≤ 12 → (∀ j, k < j → j ≤ k + e.cd.length → L.getD j 0 = -1) →
      ∃ L', runD' p (k + e.cd.length) = some L' ∧ L'.length = p.length + 1 ∧ L'.getD (k + e.cd.length) 0 = n + 1 ∧ ∀ j, j ≤ k ∨ k + e.cd.length < j → L'.getD j 0 = L.getD j 0) →
    (∀ l : List Ex, (∀ x ∈ l, formD d x = true) → ∀ (k : Nat) (n : Int) (L : List Int), At p k (Ex.cdL l) → runD' p k = some L → L.length = p.length + 1 → L.getD k 0 = n → 0 ≤ n → n + l.length + d ≤ 13 → (∀ j, k < j → j ≤ k + (Ex.cdL l).length → L.getD j 0 = -1) →
      ∃ L', runD' p (k + (Ex.cdL l).length) = some L' ∧ L'.length = p.length + 1 ∧ L'.getD (k + (Ex.cdL l).length) 0 = n + l.length ∧ ∀ j, j ≤ k ∨ k + (Ex.cdL l).length < j → L'.getD j 0 = L.getD j 0) := by
    intro d he l
    induction l with
    | nil =>
      intro _ k n L hp hr hl hn h0 h1 hj
      exact ⟨L, hr, hl, by simpa [Ex.cdL] using hn, fun _ _ => rfl⟩
    | cons e l ih =>
      intro hf k n L hp hr hl hn h0 h1 hj
      simp only [Ex.cdL, List.length_append, List.length_cons] at hp hj h1 ⊢
      obtain ⟨L1, a1, a2, a3, a4⟩ := he e (hf e (by simp)) k n L hp.fst hr hl hn h0 (by omega) (fun j g1 g2 => hj j g1 (by omega))
      obtain ⟨L2, b1, b2, b3, b4⟩ := ih (fun x hx => hf x (by simp [hx])) (k + e.cd.length) (n + 1) L1 hp.snd a1 a2 a3 (by omega) (by omega) (fun j g1 g2 => by rw [a4 j (.inr g1)]; exact hj j (by omega) (by omega))
      refine ⟨L2, by rw [← Nat.add_assoc]; exact b1, b2, by rw [← Nat.add_assoc, b3]; omega, fun j g => ?_⟩
      rw [b4 j (by omega), a4 j (by omega)]
  refine ⟨?_, lst d ?_⟩
  all_goals
    induction d with
    | zero => intro e h; simp [formD] at h
    | succ d ih =>
      intro e hf k n L hp hr hl hn h0 h1 hj
      obtain ⟨f1, f2, f3, f4, f5, f6, f7⟩ := form_inv2 hf (k + (Ex.cdL e.kids).length) p.length
      rw [Ex.cd_eq] at hp hj ⊢
      simp only [List.length_append, List.length_cons, List.length_nil] at hj ⊢
      obtain ⟨L1, a1, a2, a3, a4⟩ := lst d ih e.kids f7 k n L hp.fst hr hl hn h0 (by omega) (fun j g1 g2 => hj j g1 (by omega))
      have ht : tD (lastI e) L1 (k + (Ex.cdL e.kids).length) = n + 1 := by unfold tD; rw [a3, f4, f5]; omega
      obtain ⟨L2, b1, b2, b3, b4, b5⟩ := run_one hp.snd a1 a2 f1 (by rw [a3]; omega) (by rw [a3, f4]; omega) (by rw [ht]; omega) (fun h => by rw [f2] at h; cases h) (fun _ => .inl (by
        rw [a4 _ (.inr (by omega))]; exact hj _ (by omega) (by omega)))
      refine ⟨L2, by rw [← Nat.add_assoc]; exact b1, b2, ?_, fun j g => ?_⟩
      · have := b4 f3
        rw [ht] at this
        rw [← Nat.add_assoc, Nat.zero_add]; exact this
      · rw [b5 j (fun h => by rw [f2] at h; cases h) (fun _ => by omega), a4 j (by omega)]
def StR (p c : List GI) (k : Nat) : Prop := ∀ L, runD' p k = some L → L.length = p.length + 1 → L.getD k 0 = 0 → (∀ j, k < j → j < k + c.length → L.getD j 0 = -1) → (L.getD (k + c.length) 0 = -1 ∨ L.getD (k + c.length) 0 = 0) →
  ∃ L', runD' p (k + c.length) = some L' ∧ L'.length = p.length + 1 ∧ L'.getD (k + c.length) 0 = 0 ∧ ∀ j, j < k ∨ k + c.length < j ∨ j = k → L'.getD j 0 = L.getD j 0
theorem stR_list (p : List GI) (l : List Sm) (h : ∀ s ∈ l, ∀ k, At p k (s.cd k) → StR p (s.cd k) k) : ∀ k, At p k (Sm.cdL l k) → StR p (Sm.cdL l k) k := by
  induction l with
  | nil =>
    intro k _ L hr hl hz _ _
    exact ⟨L, hr, hl, by simpa [Sm.cdL] using hz, fun _ _ => rfl⟩
  | cons s l ih =>
    intro k hp L hr hl hz hj he
    simp only [Sm.cdL, List.length_append] at hp hj he ⊢
    generalize hc : (s.cd k) = c at *
    generalize hd : Sm.cdL l (k + c.length) = d at *
    have hs : StR p c k := hc ▸ h s (by simp) k (by rw [hc]; exact hp.fst)
    have ih' : StR p d (k + c.length) := hd ▸ ih (fun s hs => h s (by simp [hs])) (k + c.length) (by rw [hd]; exact hp.snd)
    have hend : L.getD (k + c.length) 0 = -1 ∨ L.getD (k + c.length) 0 = 0 := by
      by_cases h0 : d.length = 0
      · rw [h0, Nat.add_zero] at he; exact he
      · by_cases hc0 : c.length = 0
        · right; rw [hc0, Nat.add_zero]; exact hz
        · left; exact hj _ (by omega) (by omega)
    obtain ⟨L1, a1, a2, a3, a4⟩ := hs L hr hl hz (fun j g1 g2 => hj j g1 (by omega)) hend
    obtain ⟨L2, b1, b2, b3, b4⟩ := ih' L1 a1 a2 a3 (fun j g1 g2 => by rw [a4 j (by omega)]; exact hj j (by omega) (by omega)) (by
      by_cases h0 : d.length = 0
      · right; rw [h0, Nat.add_zero]; exact a3
      · rw [a4 _ (by omega), Nat.add_assoc]; exact he)
    refine ⟨L2, by rw [← Nat.add_assoc]; exact b1, b2, by rw [← Nat.add_assoc]; exact b3, fun j g => ?_⟩
    by_cases hjk : j = k + c.length
    · subst hjk
      rw [b4 _ (by omega)]
      by_cases hc0 : c.length = 0
      · rw [a4 _ (by omega)]
      · omega
    · rw [b4 j (by omega), a4 j (by omega)]
theorem ex_run' {p : List GI} {e : Ex} (he : e.ok = true) {k : Nat} {L : List Int} (hp : At p k e.cd) (hr : runD' p k = some L) (hl : L.length = p.length + 1) (hn : L.getD k 0 = 0) (hj : ∀ j, k < j → j ≤ k + e.cd.length → L.getD j 0 = -1) :
    ∃ L', runD' p (k + e.cd.length) = some L' ∧ L'.length = p.length + 1 ∧ L'.getD (k + e.cd.length) 0 = 1 ∧ ∀ j, j ≤ k ∨ k + e.cd.length < j → L'.getD j 0 = L.getD j 0 := by
  simp only [Ex.ok, Bool.and_eq_true] at he
  have := (ex_run p 6).1 e he.1 k 0 L hp hr hl hn (by omega) (by omega) hj
  simpa using this
theorem cd_pos (e : Ex) : 0 < e.cd.length := by rw [Ex.cd_len]; exact e.sz_pos
theorem sm_run (p : List GI) : ∀ (d : Nat) (l : List Sm), formS d l = true → ∀ k, At p k (Sm.cdL l k) → StR p (Sm.cdL l k) k := by
  intro d
  induction d with
  | zero =>
    intro l hf k hp
    simp only [formS, beq_iff_eq] at hf
    have : l = [] := List.eq_nil_of_length_eq_zero hf
    subst this
    exact stR_list p [] (fun s hs => by simp at hs) k hp
  | succ d ih =>
    intro l hf
    refine stR_list p l fun s hs k hp => ?_
    have hf := List.all_eq_true.1 hf s hs
    simp only [Bool.and_eq_true] at hf
    obtain ⟨⟨⟨hpl, hok⟩, hth⟩, hel⟩ := hf
    have hA := ih s.th hth
    have hB := ih s.el hel
    have hE := cd_pos s.e
    intro L hr hl hz hj he
    rw [Sm.cd_eq] at hp hj he ⊢
    unfold Sm.plain at hpl
    split
    ·
      rename_i q1
      rw [if_pos q1] at hp hj he
      simp only [q1, if_true, Bool.and_eq_true, bne_iff_ne, ne_eq] at hpl
      simp only [List.length_append, List.length_cons, List.length_nil, Nat.zero_add] at hj he ⊢
      obtain ⟨L1, a1, a2, a3, a4⟩ := ex_run' hok hp.fst hr hl hz (fun j g1 g2 => hj j g1 (by omega))
      have ht : tD ⟨3, 0, s.to'⟩ L1 (k + s.e.cd.length) = 0 := by unfold tD; rw [a3]; simp [GI.takes, GI.gives]
      obtain ⟨L2, b1, b2, b3, b4, b5⟩ := run_one hp.snd a1 a2 (by simp [GI.ok, hpl.1.1.1]; exact hpl.1.1.2) (by omega) (by rw [a3]; simp [GI.takes]) (by rw [ht]; omega) (fun h => by simp [GI.goes] at h) (fun _ => by rw [ht, a4 _ (.inr (by omega))]; exact he)
      refine ⟨L2, by rw [← Nat.add_assoc]; exact b1, b2, ?_, fun j g => ?_⟩
      · have := b4 rfl
        rw [ht] at this
        rw [← Nat.add_assoc]; exact this
      · rw [b5 j (fun h => by simp [GI.goes] at h) (fun _ => by omega), a4 j (by omega)]
    rename_i q1
    rw [if_neg q1] at hp hj he
    split
    ·
      rename_i q2
      rw [if_pos q2] at hp hj he
      generalize hAe : Sm.cdL s.th (k + s.e.cd.length + 1) = A at *
      generalize hBe : Sm.cdL s.el (k + s.e.cd.length + 1 + A.length + 1) = C at *
      have h6 := hp.fst.fst.fst.snd
      have hAp := hp.fst.fst.snd
      have h7 := hp.fst.snd
      have hBp := hp.snd
      have hEp := hp.fst.fst.fst.fst
      have hplen := hp.len
      simp only [List.length_append, List.length_cons, List.length_nil, Nat.zero_add, ← Nat.add_assoc] at h6 hAp h7 hBp hj he hplen ⊢
      generalize hEl : s.e.cd.length = e at *
      have hA' := hA (k + e + 1) (by rw [hAe]; exact hAp)
      have hB' := hB (k + e + 1 + A.length + 1) (by rw [hBe]; exact hBp)
      rw [hAe] at hA'
      rw [hBe] at hB'
      obtain ⟨L1, a1, a2, a3, a4⟩ := ex_run' hok hEp hr hl hz (fun j g1 g2 => hj j g1 (by omega))
      rw [hEl] at a1 a3 a4
      have ht : tD ⟨6, (k + e + 1 + A.length + 1 : Nat), A0⟩ L1 (k + e) = 0 := by unfold tD; rw [a3]; simp [GI.takes, GI.gives]
      have hnn : ((((k + e + 1 + A.length + 1 : Nat) : Int)).toNat) = k + e + 1 + A.length + 1 := by omega
      have e1 : ∀ j, k < j → j < k + e + 1 + A.length + 1 + C.length → k + e < j → L1.getD j 0 = -1 := fun j g1 g2 g3 => by rw [a4 _ (.inr g3)]; exact hj j g1 g2
      obtain ⟨L2, b1, b2, b3, b4, b5⟩ := run_one h6 a1 a2 (by simp [GI.ok, GI.noA, A0]; omega) (by omega) (by rw [a3]; simp [GI.takes]) (by rw [ht]; omega) (fun _ => by
          rw [ht]
          show L1.getD (((k + e + 1 + A.length + 1 : Nat) : Int)).toNat 0 = -1 ∨ _
          rw [hnn]
          by_cases h0 : C.length = 0
          · rw [a4 _ (.inr (by omega))]; rw [h0, Nat.add_zero] at he; exact he
          · left; exact e1 _ (by omega) (by omega) (by omega)) (fun _ => by
          left; exact e1 _ (by omega) (by omega) (by omega))
      have b3 := b3 rfl
      have b4 := b4 rfl
      rw [ht] at b3 b4
      change L2.getD (((k + e + 1 + A.length + 1 : Nat) : Int)).toNat 0 = 0 at b3
      have b5 : ∀ j, j ≠ k + e + 1 + A.length + 1 → j ≠ k + e + 1 → L2.getD j 0 = L1.getD j 0 := fun j g1 g2 => b5 j (fun _ => by show j ≠ (((k + e + 1 + A.length + 1 : Nat) : Int)).toNat; rw [hnn]; exact g1) (fun _ => g2)
      rw [hnn] at b3
      obtain ⟨L3, c1, c2, c3, c4⟩ := hA' L2 b1 b2 b4 (fun j g1 g2 => by rw [b5 j (by omega) (by omega)]; exact e1 j (by omega) (by omega) (by omega)) (by
        by_cases h0 : A.length = 0
        · right; rw [h0, Nat.add_zero]; exact b4
        · left; rw [b5 _ (by omega) (by omega)]; exact e1 _ (by omega) (by omega) (by omega))
      have hn3 : ((((k + e + 1 + A.length + 1 + C.length : Nat) : Int)).toNat) = k + e + 1 + A.length + 1 + C.length := by omega
      have ht3 : tD ⟨7, (k + e + 1 + A.length + 1 + C.length : Nat), A0⟩ L3 (k + e + 1 + A.length) = 0 := by unfold tD; rw [c3]; simp [GI.takes, GI.gives]
      have hend : L3.getD (k + e + 1 + A.length + 1 + C.length) 0 = -1 ∨ L3.getD (k + e + 1 + A.length + 1 + C.length) 0 = 0 := by
        rw [c4 _ (by omega)]
        by_cases h0 : C.length = 0
        · right; rw [h0, Nat.add_zero]; exact b3
        · rw [b5 _ (by omega) (by omega), a4 _ (.inr (by omega))]; exact he
      obtain ⟨L4, d1, d2, d3, d4, d5⟩ := run_one h7 c1 c2 (by simp [GI.ok, GI.noA, A0]; omega) (by omega) (by rw [c3]; simp [GI.takes]) (by rw [ht3]; omega) (fun _ => by
          rw [ht3]
          show L3.getD (((k + e + 1 + A.length + 1 + C.length : Nat) : Int)).toNat 0 = -1 ∨ _
          rw [hn3]; exact hend) (fun h => by simp [GI.follows] at h)
      have d3 := d3 rfl
      rw [ht3] at d3
      change L4.getD (((k + e + 1 + A.length + 1 + C.length : Nat) : Int)).toNat 0 = 0 at d3
      have d5 : ∀ j, j ≠ k + e + 1 + A.length + 1 + C.length → L4.getD j 0 = L3.getD j 0 := fun j g1 => d5 j (fun _ => by show j ≠ (((k + e + 1 + A.length + 1 + C.length : Nat) : Int)).toNat; rw [hn3]; exact g1) (fun h => by simp [GI.follows] at h)
      rw [hn3] at d3
      obtain ⟨L5, f1, f2, f3, f4⟩ := hB' L4 d1 d2 (by
          by_cases h0 : C.length = 0
          · rw [h0, Nat.add_zero] at d3; exact d3
          · rw [d5 _ (by omega), c4 _ (by omega)]; exact b3) (fun j g1 g2 => by rw [d5 j (by omega), c4 j (by omega), b5 j (by omega) (by omega)]; exact e1 j (by omega) (by omega) (by omega)) (.inr d3)
      refine ⟨L5, f1, f2, f3, fun j g => ?_⟩
      rw [f4 j (by omega), d5 j (by omega), c4 j (by omega), b5 j (by omega) (by omega), a4 j (by omega)]
    rename_i q2
    rw [if_neg q2] at hp hj he
    split
    ·
      rename_i q3
      rw [if_pos q3] at hp hj he
      generalize hAe : Sm.cdL s.th (k + s.e.cd.length + 1) = A at *
      have h6 := hp.fst.fst.snd
      have hAp := hp.fst.snd
      have h8 := hp.snd
      have hEp := hp.fst.fst.fst
      have hplen := hp.len
      simp only [List.length_append, List.length_cons, List.length_nil, Nat.zero_add, ← Nat.add_assoc] at h6 hAp h8 hj he hplen ⊢
      generalize hEl : s.e.cd.length = e at *
      have hA' := hA (k + e + 1) (by rw [hAe]; exact hAp)
      rw [hAe] at hA'
      obtain ⟨L1, a1, a2, a3, a4⟩ := ex_run' hok hEp hr hl hz (fun j g1 g2 => hj j g1 (by omega))
      rw [hEl] at a1 a3 a4
      have ht : tD ⟨6, (k + e + 1 + A.length + 1 : Nat), A0⟩ L1 (k + e) = 0 := by unfold tD; rw [a3]; simp [GI.takes, GI.gives]
      have hnn : ((((k + e + 1 + A.length + 1 : Nat) : Int)).toNat) = k + e + 1 + A.length + 1 := by omega
      have e1 : ∀ j, k + e < j → j < k + e + 1 + A.length + 1 → L1.getD j 0 = -1 := fun j g1 g2 => by rw [a4 _ (.inr g1)]; exact hj j (by omega) g2
      obtain ⟨L2, b1, b2, b3, b4, b5⟩ := run_one h6 a1 a2 (by simp [GI.ok, GI.noA, A0]; omega) (by omega) (by rw [a3]; simp [GI.takes]) (by rw [ht]; omega) (fun _ => by
          rw [ht]
          show L1.getD (((k + e + 1 + A.length + 1 : Nat) : Int)).toNat 0 = -1 ∨ _
          rw [hnn, a4 _ (.inr (by omega))]; exact he) (fun _ => by
          left; exact e1 _ (by omega) (by omega))
      have b3 := b3 rfl
      have b4 := b4 rfl
      rw [ht] at b3 b4
      change L2.getD (((k + e + 1 + A.length + 1 : Nat) : Int)).toNat 0 = 0 at b3
      have b5 : ∀ j, j ≠ k + e + 1 + A.length + 1 → j ≠ k + e + 1 → L2.getD j 0 = L1.getD j 0 := fun j g1 g2 => b5 j (fun _ => by show j ≠ (((k + e + 1 + A.length + 1 : Nat) : Int)).toNat; rw [hnn]; exact g1) (fun _ => g2)
      rw [hnn] at b3
      obtain ⟨L3, c1, c2, c3, c4⟩ := hA' L2 b1 b2 b4 (fun j g1 g2 => by rw [b5 j (by omega) (by omega)]; exact e1 j (by omega) (by omega)) (by
        by_cases h0 : A.length = 0
        · right; rw [h0, Nat.add_zero]; exact b4
        · left; rw [b5 _ (by omega) (by omega)]; exact e1 _ (by omega) (by omega))
      have hn3 : (((k : Nat) : Int)).toNat = k := by omega
      have ht3 : tD ⟨8, (k : Nat), A0⟩ L3 (k + e + 1 + A.length) = 0 := by unfold tD; rw [c3]; simp [GI.takes, GI.gives]
      have hk0 : L3.getD k 0 = 0 := by rw [c4 _ (by omega), b5 _ (by omega) (by omega), a4 _ (by omega)]; exact hz
      obtain ⟨L4, d1, d2, d3, d4, d5⟩ := run_one h8 c1 c2 (by simp [GI.ok, GI.noA, A0]; omega) (by omega) (by rw [c3]; simp [GI.takes]) (by rw [ht3]; omega) (fun _ => by
          rw [ht3]
          show L3.getD (((k : Nat) : Int)).toNat 0 = -1 ∨ _
          rw [hn3]; exact .inr hk0) (fun h => by simp [GI.follows] at h)
      have d3 := d3 rfl
      rw [ht3] at d3
      change L4.getD (((k : Nat) : Int)).toNat 0 = 0 at d3
      rw [hn3] at d3
      have d5 : ∀ j, j ≠ k → L4.getD j 0 = L3.getD j 0 := fun j g1 => d5 j (fun _ => by show j ≠ (((k : Nat) : Int)).toNat; rw [hn3]; exact g1) (fun h => by simp [GI.follows] at h)
      refine ⟨L4, d1, d2, ?_, fun j g => ?_⟩
      · rw [d5 _ (by omega), c4 _ (by omega)]; exact b3
      · by_cases hjk : j = k
        · subst hjk; rw [d3, hz]
        · rw [d5 j hjk, c4 j (by omega), b5 j (by omega) (by omega), a4 j (by omega)]
    · rename_i q3
      simp only [q1, q2, q3] at hpl
      simp at hpl
theorem okC_codeOf {l : List Sm} (h : okS l = true) (hn : (codeOf l).length ≤ 400) : okC (codeOf l) = true := by
  have hc : codeOf l = Sm.cdL l 0 := by rw [codeOf, if_pos h]
  have hf : formS 4 l = true := by simp only [okS, Bool.and_eq_true] at h; exact h.2
  rw [hc] at hn ⊢
  generalize hp : Sm.cdL l 0 = p at *
  have hat : At p 0 (Sm.cdL l 0) := ⟨[], [], by simp [hp], rfl⟩
  have hst := sm_run p 4 l hf 0 hat
  rw [hp] at hst
  have g1 : ∀ j, 0 < j → ((List.replicate (p.length + 1) (-1 : Int)).set 0 0).getD j 0 = if j < p.length + 1 then -1 else 0 := by
    intro j hj
    obtain ⟨j, rfl⟩ : ∃ i, j = i + 1 := ⟨j - 1, by omega⟩
    simp only [List.getD, List.getElem?_set, List.getElem?_replicate]
    rw [if_neg (by omega)]
    split <;> rfl
  obtain ⟨L, a1, a2, a3, a4⟩ := hst ((List.replicate (p.length + 1) (-1)).set 0 0) rfl (by simp) (by simp [List.getD]) (fun j g2 g3 => by rw [g1 j g2, if_pos (by omega)]) (by
    by_cases h0 : p.length = 0
    · right; rw [h0]; simp [List.getD]
    · left; rw [g1 _ (by omega), if_pos (by omega)])
  rw [Nat.zero_add] at a1 a3
  have hd : depthsF p = some L := by rw [depthsF, if_neg (by omega)]; exact a1
  rw [okC, depV, hd]
  simp only [a3, beq_self_eq_true]
end Go.Proofs.YtmicbfojofcigaaGreatDoor
namespace Go.Proofs.YtmicbfojofcigaaGreatDoor
open Go Sg
set_option maxRecDepth 100000
set_option linter.unusedSimpArgs false
set_option linter.unusedVariables false
set_option linter.unusedSectionVars false
set_option maxHeartbeats 4000000
variable [ErrL]
def Steps (p : List GI) (n : Nat) (S S' : PS) : Prop := ∀ g, mex p (g + n) S = mex p g S'
theorem Steps.refl (p : List GI) (S : PS) : Steps p 0 S S := fun g => rfl
theorem Steps.trans {p : List GI} {n n' : Nat} {S S' S'' : PS} (h : Steps p n S S') (h' : Steps p n' S' S'') : Steps p (n' + n) S S'' := fun g => by
  rw [← Nat.add_assoc, h, h']
theorem Steps.one {p : List GI} {i : GI} {k : Nat} {S : PS} (hp : At p k [i]) (hk : S.k = k) (h : (S.nx.act i).2 = true) : Steps p 1 S (S.nx.act i).1 := fun g => by
  obtain ⟨h1, h2⟩ := hp.one
  have e : p.getD S.k.toNat default = i := by rw [hk]; exact h2
  show mex p (g + 1) S = _
  rw [mex, if_pos (by omega), e, if_pos h]
structure Ev (p : List GI) (k' : Nat) (S : PS) (vs : List Int) (S' : PS) : Prop where
  ok : S'.Ok
  k : S'.k = k'
  n : S'.n = S.n + vs.length
  F : S'.F = S.F
  m : S'.m = S.m
  lo : ∀ j < S.n.toNat, S'.H.getD j 0 = S.H.getD j 0
  hi : ∀ i < vs.length, S'.H.getD (S.n.toNat + i) 0 = vs.getD i 0
theorem getD_set_eq (l : List Int) (k : Nat) (v : Int) (h : k < l.length) : (l.set k v).getD k 0 = v := by simp [List.getD, h]
theorem getD_set_ne' (l : List Int) (k j : Nat) (v : Int) (h : j ≠ k) : (l.set k v).getD j 0 = l.getD j 0 := by
  simp only [List.getD, List.getElem?_set]; rw [if_neg (Ne.symm h)]
theorem ev_last {p : List GI} {d : Nat} {e : Ex} (hf : formD (d + 1) e = true) {k : Nat} {S S1 : PS} (hp : At p k [lastI e]) (hn : 0 ≤ S.n) (hn1 : S.n < 12) (h : Ev p k S (Ex.ofL S.m e.kids) S1) : ∃ S', Steps p 1 S1 S' ∧ Ev p (k + 1) S [e.of S.m] S' := by
  obtain ⟨f1, f2, f3, f4, f5, f6, f7⟩ := form_inv2 hf k p.length
  have hlen : (Ex.ofL S.m e.kids).length = e.kids.length := by simp [Ex.ofL_map]
  obtain ⟨hok, hk, hnn, hF, hm, hlo, hhi⟩ := h
  have hH := hok.H
  rw [hlen] at hnn hhi
  have key : ∀ v, (S1.nx.act (lastI e)).2 = true → (S1.nx.act (lastI e)).1.H = S1.H.set S.n.toNat v → (S1.nx.act (lastI e)).1.n = S.n + 1 → (S1.nx.act (lastI e)).1.k = S1.k + 1 → (S1.nx.act (lastI e)).1.F = S1.F → (S1.nx.act (lastI e)).1.m = S1.m → v = e.of S.m →
      ∃ S', Steps p 1 S1 S' ∧ Ev p (k + 1) S [e.of S.m] S' := by
    intro v g1 g2 g3 g4 g5 g6 g7
    subst g7
    refine ⟨_, Steps.one hp hk g1, ⟨⟨by rw [g2]; simp [hH], by rw [g6]; exact hok.m⟩, by rw [g4, hk]; omega, by rw [g3]; rfl, by rw [g5, hF], by rw [g6, hm], fun j hj => ?_, fun i hi => ?_⟩⟩
    · rw [g2, getD_set_ne' _ _ _ _ (by omega)]; exact hlo j hj
    · have : i = 0 := by simpa using hi
      subst this
      rw [g2, Nat.add_zero, getD_set_eq _ _ _ (by omega)]; rfl
  simp only [formD] at hf
  have hkn : kidsN e.kind = (e.kids.length : Int) := by
    split at hf
    · cases hf
    · rename_i h1; simpa using h1
  rw [Ex.of_eq] at key
  rw [Ex.of_eq]
  by_cases q1 : e.kind = 1
  · have hk0 : e.kids.length = 0 := by have := hkn; rw [q1] at this; simp [kidsN] at this; omega
    refine key e.n ?_ ?_ ?_ ?_ ?_ ?_ ?_
    all_goals simp [lastI, q1, PS.act, PS.nx, PS.push]
    · rw [show S1.n = S.n by omega]
    · omega
  by_cases q2 : e.kind = 2
  · have hk0 : e.kids.length = 0 := by have := hkn; rw [q2] at this; simp [kidsN] at this; omega
    refine key (S.m.get e.a) ?_ ?_ ?_ ?_ ?_ ?_ ?_
    all_goals simp [lastI, q2, PS.act, PS.nx, PS.push, hm]
    · rw [show S1.n = S.n by omega]
    · omega
  by_cases q10 : e.kind = 10
  · have hk0 : e.kids.length = 1 := by have := hkn; rw [q10] at this; simp [kidsN] at this; omega
    have ht : S1.nx.top = (Ex.ofL S.m e.kids).getD 0 0 := by
      have := hhi 0 (by omega)
      rw [Nat.add_zero] at this
      rw [← this]
      show S1.H.getD (S1.n - 1).toNat 0 = _
      rw [show (S1.n - 1).toNat = S.n.toNat by omega]
    refine key (numIs (!(S1.nx.top != 0))) ?_ ?_ ?_ ?_ ?_ ?_ ?_
    · simp [lastI, q10, PS.act]
    · simp only [lastI, q10, PS.act, Int.reduceBEq, Bool.false_eq_true, if_false, if_true, PS.push, PS.pop, PS.nx]
      rw [show (S1.n - 1).toNat = S.n.toNat by omega]
    · simp only [lastI, q10, PS.act, Int.reduceBEq, Bool.false_eq_true, if_false, if_true, PS.push, PS.pop, PS.nx]
      omega
    · simp [lastI, q10, PS.act, PS.push, PS.pop, PS.nx]
    · simp [lastI, q10, PS.act, PS.push, PS.pop, PS.nx]
    · simp [lastI, q10, PS.act, PS.push, PS.pop, PS.nx]
    · rw [ht]; simp [q10]
  · have hk0 : e.kids.length = 2 := by
      have h1' := hkn
      unfold kidsN at h1'
      simp only [q1, q2, q10, beq_iff_eq, Bool.or_eq_true, or_self, if_false, Bool.and_eq_true, decide_eq_true_eq] at h1'
      split at h1'
      · omega
      · omega
    have ht : S1.nx.pop.top = (Ex.ofL S.m e.kids).getD 0 0 := by
      have := hhi 0 (by omega)
      rw [Nat.add_zero] at this
      rw [← this]
      show S1.H.getD (S1.n - 1 - 1).toNat 0 = _
      rw [show (S1.n - 1 - 1).toNat = S.n.toNat by omega]
    have ht2 : S1.nx.top = (Ex.ofL S.m e.kids).getD 1 0 := by
      have := hhi 1 (by omega)
      rw [← this]
      show S1.H.getD (S1.n - 1).toNat 0 = _
      rw [show (S1.n - 1).toNat = S.n.toNat + 1 by omega]
    refine key (two e.kind S1.nx.pop.top S1.nx.top) ?_ ?_ ?_ ?_ ?_ ?_ ?_
    · simp [lastI, q1, q2, q10, PS.act]
    · simp [lastI, q1, q2, q10, PS.act, PS.push]
      show S1.H.set (S1.n - 1 - 1).toNat _ = _
      rw [show (S1.n - 1 - 1).toNat = S.n.toNat by omega]
    · simp [lastI, q1, q2, q10, PS.act, PS.push, PS.pop, PS.nx]
      omega
    · simp [lastI, q1, q2, q10, PS.act, PS.push, PS.pop, PS.nx]
    · simp [lastI, q1, q2, q10, PS.act, PS.push, PS.pop, PS.nx]
    · simp [lastI, q1, q2, q10, PS.act, PS.push, PS.pop, PS.nx]
    · rw [ht, ht2]; simp [q1, q2, q10]
theorem ev_list {p : List GI} {d : Nat} (he : ∀ e : Ex, formD d e = true → ∀ (k : Nat) (S : PS), At p k e.cd → S.Ok → S.k = k → 0 ≤ S.n → S.n + d ≤ 12 → ∃ n S', Steps p n S S' ∧ Ev p (k + e.cd.length) S [e.of S.m] S') :
    ∀ l : List Ex, (∀ x ∈ l, formD d x = true) → ∀ (k : Nat) (S : PS), At p k (Ex.cdL l) → S.Ok → S.k = k → 0 ≤ S.n → S.n + l.length + d ≤ 13 → ∃ n S', Steps p n S S' ∧ Ev p (k + (Ex.cdL l).length) S (Ex.ofL S.m l) S' := by
  intro l
  induction l with
  | nil =>
    intro _ k S _ hok hk _ _
    exact ⟨0, S, Steps.refl p S, ⟨hok, by simpa [Ex.cdL] using hk, by simp [Ex.ofL], rfl, rfl, fun _ _ => rfl, fun i hi => by simp [Ex.ofL] at hi⟩⟩
  | cons e l ih =>
    intro hf k S hp hok hk hn0 hn
    simp only [Ex.cdL, List.length_append, List.length_cons] at hp hn ⊢
    obtain ⟨n1, S1, s1, v1⟩ := he e (hf e (by simp)) k S hp.fst hok hk hn0 (by omega)
    have hn1 := v1.n
    simp only [List.length_cons, List.length_nil] at hn1
    obtain ⟨n2, S2, s2, v2⟩ := ih (fun x hx => hf x (by simp [hx])) (k + e.cd.length) S1 hp.snd v1.ok v1.k (by omega) (by omega)
    refine ⟨_, S2, s1.trans s2, ⟨v2.ok, by rw [v2.k]; omega, ?_, by rw [v2.F, v1.F], by rw [v2.m, v1.m], fun j hj => ?_, fun i hi => ?_⟩⟩
    · rw [v2.n, hn1, v1.m]; simp only [Ex.ofL, List.length_cons]; omega
    · rw [v2.lo j (by omega), v1.lo j hj]
    · cases i with
      | zero =>
        have := v1.hi 0 (by simp)
        rw [v2.lo _ (by omega), this]; rfl
      | succ i =>
        have := v2.hi i (by rw [v1.m]; simpa [Ex.ofL] using hi)
        rw [show S.n.toNat + (i + 1) = S1.n.toNat + i by omega, this, v1.m]
        rfl
theorem ev_ok (p : List GI) : ∀ (d : Nat) (e : Ex), formD d e = true → ∀ (k : Nat) (S : PS), At p k e.cd → S.Ok → S.k = k → 0 ≤ S.n → S.n + d ≤ 12 → ∃ n S', Steps p n S S' ∧ Ev p (k + e.cd.length) S [e.of S.m] S' := by
  intro d
  induction d with
  | zero => intro e h; simp [formD] at h
  | succ d ih =>
    intro e hf k S hp hok hk hn0 hn
    obtain ⟨f1, f2, f3, f4, f5, f6, f7⟩ := form_inv2 hf k p.length
    rw [Ex.cd_eq] at hp ⊢
    obtain ⟨n1, S1, s1, v1⟩ := ev_list ih e.kids f7 k S hp.fst hok hk hn0 (by omega)
    obtain ⟨S2, s2, v2⟩ := ev_last hf hp.snd hn0 (by omega) v1
    refine ⟨_, S2, s1.trans s2, ?_⟩
    simpa [Nat.add_assoc] using v2
def Res (p : List GI) (k' : Nat) (S : PS) (R : MM × Nat × Bool) : Prop :=
  (R.2.2 = false → ∃ n S', Steps p n S S' ∧ S'.Ok ∧ S'.k = k' ∧ S'.n = 0 ∧ S'.F = R.2.1 ∧ S'.m = R.1) ∧ (R.2.2 = true → ∃ n S', (∀ g, mex p (g + n) S = (S', true)) ∧ S'.m = R.1)
theorem Res.pre {p : List GI} {k' n : Nat} {S S1 : PS} {R : MM × Nat × Bool} (h : Steps p n S S1) (hr : Res p k' S1 R) : Res p k' S R := by
  refine ⟨fun hb => ?_, fun hb => ?_⟩
  · obtain ⟨n2, S', a, b⟩ := hr.1 hb
    exact ⟨_, S', h.trans a, b⟩
  · obtain ⟨n2, S', a, b⟩ := hr.2 hb
    exact ⟨n2 + n, S', fun g => by rw [← Nat.add_assoc, h, a], b⟩
theorem Res.post {p : List GI} {k' k2 : Nat} {S : PS} {R : MM × Nat × Bool} (hr : Res p k' S R) (h : R.2.2 = false → ∀ S' : PS, S'.Ok → S'.k = k' → S'.n = 0 → S'.F = R.2.1 → S'.m = R.1 → Res p k2 S' R) : Res p k2 S R := by
  refine ⟨fun hb => ?_, hr.2⟩
  obtain ⟨n, S', a, b1, b2, b3, b4, b5⟩ := hr.1 hb
  exact ((h hb S' b1 b2 b3 b4 b5).pre a).1 hb
def Does (p : List GI) (c : List GI) (k : Nat) (f : MM → Nat → MM × Nat × Bool) : Prop := ∀ (S : PS) (F : Nat), S.Ok → S.k = k → S.n = 0 → S.F = F → Res p (k + c.length) S (f S.m F)
theorem does_list (p : List GI) (l : List Sm) (h : ∀ s ∈ l, ∀ k, At p k (s.cd k) → Does p (s.cd k) k s.ex) : ∀ k, At p k (Sm.cdL l k) → Does p (Sm.cdL l k) k (Sm.exL l) := by
  induction l with
  | nil =>
    intro k _ S F hok hk hn hF
    refine ⟨fun _ => ⟨0, S, Steps.refl p S, hok, by simpa [Sm.cdL] using hk, hn, by simpa [Sm.exL] using hF, by simp [Sm.exL]⟩, fun hb => by simp [Sm.exL] at hb⟩
  | cons s l ih =>
    intro k hp S F hok hk hn hF
    simp only [Sm.cdL, List.length_append] at hp ⊢
    have hs := h s (by simp) k hp.fst S F hok hk hn hF
    simp only [Sm.exL]
    split
    · rename_i hb
      exact ⟨fun h => (by rw [hb] at h; cases h), hs.2⟩
    · rename_i hb
      have hb : (s.ex S.m F).2.2 = false := by simpa using hb
      obtain ⟨n, S', a, b1, b2, b3, b4, b5⟩ := hs.1 hb
      have := ih (fun s hs => h s (by simp [hs])) (k + (s.cd k).length) hp.snd S' (s.ex S.m F).2.1 b1 b2 b3 b4
      rw [b5, Nat.add_assoc] at this
      exact this.pre a
theorem ev_top {p : List GI} {e : Ex} (he : e.ok = true) {k : Nat} {S : PS} (hp : At p k e.cd) (hok : S.Ok) (hk : S.k = k) (hn : S.n = 0) : ∃ n S', Steps p n S S' ∧ S'.Ok ∧ S'.k = ((k + e.cd.length : Nat) : Int) ∧ S'.n = 1 ∧ S'.F = S.F ∧ S'.m = S.m ∧ S'.nx.top = e.of S.m := by
  simp only [Ex.ok, Bool.and_eq_true] at he
  obtain ⟨n, S', a, v⟩ := ev_ok p 6 e he.1 k S hp hok hk (by omega) (by omega)
  have h1 := v.n
  simp only [List.length_cons, List.length_nil] at h1
  refine ⟨n, S', a, v.ok, v.k, by omega, v.F, v.m, ?_⟩
  have := v.hi 0 (by simp)
  rw [hn] at this
  show S'.H.getD (S'.n - 1).toNat 0 = _
  rw [show (S'.n - 1).toNat = 0 by omega]
  exact this
theorem Steps.one' {p : List GI} {i : GI} {k : Nat} {S S' : PS} (hp : At p k [i]) (hk : S.k = k) (h : S.nx.act i = (S', true)) : Steps p 1 S S' := by
  have := Steps.one hp hk (by rw [h])
  rw [h] at this; exact this
theorem act_skip (S : PS) (T : Int) : S.nx.act ⟨6, T, A0⟩ = (if S.nx.top == 0 then { S.nx.pop with k := T } else S.nx.pop, true) := by
  simp [PS.act]
theorem act_jump (S : PS) (T : Int) : S.nx.act ⟨7, T, A0⟩ = ({ S.nx with k := T }, true) := by simp [PS.act]
theorem act_back (S : PS) (T : Int) : S.nx.act ⟨8, T, A0⟩ = (if S.F == 0 then S.nx else { S.nx with F := S.F - 1, k := T }, S.F != 0) := by simp [PS.act, PS.nx]
theorem act_store (S : PS) (a : AD) : S.nx.act ⟨3, 0, a⟩ = ({ S.nx.pop with m := S.m.put a S.nx.top }, true) := by simp [PS.act, PS.nx]
theorem does_wh {p : List GI} {e : Ex} (he : e.ok = true) {A : List GI} {k : Nat} {b : MM → Nat → MM × Nat × Bool} (hble : ∀ m F, (b m F).2.1 ≤ F) (hE : At p k e.cd) (h6 : At p (k + e.cd.length) [⟨6, (k + e.cd.length + 1 + A.length + 1 : Nat), A0⟩]) (hA : Does p A (k + e.cd.length + 1) b) (h8 : At p (k + e.cd.length + 1 + A.length) [⟨8, (k : Nat), A0⟩]) :
    ∀ (g : Nat) (S : PS) (F : Nat), F < g → S.Ok → S.k = k → S.n = 0 → S.F = F → Res p (k + e.cd.length + 1 + A.length + 1) S (wh (fun m => e.of m != 0) b g S.m F) := by
  intro g
  induction g with
  | zero => intro S F h; omega
  | succ g ih =>
    intro S F hg hok hk hn hF
    obtain ⟨n1, S1, s1, v1, v2, v3, v4, v5, v6⟩ := ev_top he hE hok hk hn
    refine Res.pre s1 ?_
    have st := Steps.one' h6 v2 (act_skip S1 _)
    rw [v6] at st
    refine Res.pre st ?_
    simp only [wh]
    by_cases h0 : (e.of S.m == 0) = true
    ·
      have hc : ¬ (e.of S.m != 0) = true := by simpa [bne] using h0
      rw [if_pos h0, if_neg hc]
      refine ⟨fun _ => ⟨0, _, Steps.refl p _, ⟨v1.H, v1.m⟩, rfl, by show S1.n - 1 = 0; omega, by show S1.F = _; rw [v4, hF], v5⟩, fun hb => by cases hb⟩
    · have hc : (e.of S.m != 0) = true := by simpa [bne] using h0
      rw [if_neg h0, if_pos hc]
      have hb := hA S1.nx.pop F ⟨v1.H, v1.m⟩ (by show S1.k + 1 = _; omega) (by show S1.n - 1 = 0; omega) (by show S1.F = _; rw [v4, hF])
      rw [show S1.nx.pop.m = S.m from v5] at hb
      have hle := hble S.m F
      generalize b S.m F = R at *
      split
      · rename_i hbt
        exact ⟨fun h => (by rw [hbt] at h; cases h), hb.2⟩
      · rename_i hbf
        have hbf : R.2.2 = false := by simpa using hbf
        obtain ⟨n3, S3, a, b1, b2, b3, b4, b5⟩ := hb.1 hbf
        obtain ⟨i1, i2⟩ := h8.one
        have e3 : p.getD S3.k.toNat default = ⟨8, (k : Nat), A0⟩ := by rw [b2]; exact i2
        have e4 : S3.k < p.length := by rw [b2]; omega
        split
        · rename_i hF0
          have hS3F : (S3.F == 0) = true := by rw [b4, hF0]; rfl
          refine ⟨fun h => (by cases h), fun _ => ⟨1 + n3, S3.nx, fun g => ?_, b5⟩⟩
          rw [← Nat.add_assoc, a]
          show mex p (g + 1) S3 = _
          rw [mex, if_pos e4, e3, act_back]
          simp only [bne, hS3F, if_true, Bool.not_true, Bool.false_eq_true, if_false]
        · rename_i hF0
          have hS3F : (S3.F == 0) = false := by rw [b4]; simp; omega
          have st2 : Steps p 1 S3 { S3.nx with F := S3.F - 1, k := (k : Nat) } := Steps.one' h8 b2 (by rw [act_back]; simp only [bne, hS3F, Bool.false_eq_true, if_false, Bool.not_false])
          refine Res.pre (a.trans st2) ?_
          have := ih { S3.nx with F := S3.F - 1, k := (k : Nat) } (R.2.1 - 1) (by omega) ⟨b1.H, b1.m⟩ rfl b3 (by show S3.F - 1 = _; omega)
          rw [show ({ S3.nx with F := S3.F - 1, k := (k : Nat) } : PS).m = R.1 from b5] at this
          exact this
theorem sm_does (p : List GI) : ∀ (d : Nat) (l : List Sm), formS d l = true → ∀ k, At p k (Sm.cdL l k) → Does p (Sm.cdL l k) k (Sm.exL l) := by
  intro d
  induction d with
  | zero =>
    intro l hf k hp
    simp only [formS, beq_iff_eq] at hf
    have : l = [] := List.eq_nil_of_length_eq_zero hf
    subst this
    exact does_list p [] (fun s hs => by simp at hs) k hp
  | succ d ih =>
    intro l hf
    refine does_list p l fun s hs k hp => ?_
    have hf := List.all_eq_true.1 hf s hs
    simp only [Bool.and_eq_true] at hf
    obtain ⟨⟨⟨hpl, hok⟩, hth⟩, hel⟩ := hf
    have hA := ih s.th hth
    have hB := ih s.el hel
    intro S F hS hk hn hF
    rw [Sm.cd_eq] at hp ⊢
    rw [Sm.ex_eq]
    unfold Sm.plain at hpl
    split
    ·
      rename_i q1
      rw [if_pos q1] at hp
      obtain ⟨n1, S1, s1, v1, v2, v3, v4, v5, v6⟩ := ev_top hok hp.fst hS hk hn
      have st := Steps.one' hp.snd v2 (act_store S1 s.to')
      rw [v6, v5] at st
      refine Res.pre (s1.trans st) ⟨fun _ => ⟨0, _, Steps.refl p _, ⟨v1.H, MM.put_six hS.m _ _⟩, ?_, by show S1.n - 1 = 0; omega, by show S1.F = _; rw [v4, hF], rfl⟩, fun hb => by cases hb⟩
      show S1.k + 1 = _
      simp only [List.length_append, List.length_cons, List.length_nil]
      omega
    rename_i q1
    rw [if_neg q1] at hp
    by_cases q2 : (s.kind == 2) = true
    ·
      have q3 : ¬ (s.kind == 3) = true := by rw [eq_of_beq q2]; decide
      rw [if_pos q2, if_neg q3]
      rw [if_pos q2] at hp
      generalize hAe : Sm.cdL s.th (k + s.e.cd.length + 1) = A at *
      generalize hBe : Sm.cdL s.el (k + s.e.cd.length + 1 + A.length + 1) = C at *
      have h6 := hp.fst.fst.fst.snd
      have hAp := hp.fst.fst.snd
      have h7 := hp.fst.snd
      have hBp := hp.snd
      have hEp := hp.fst.fst.fst.fst
      simp only [List.length_append, List.length_cons, List.length_nil, Nat.zero_add, ← Nat.add_assoc] at h6 hAp h7 hBp ⊢
      have hA' := hA (k + s.e.cd.length + 1) (by rw [hAe]; exact hAp)
      have hB' := hB (k + s.e.cd.length + 1 + A.length + 1) (by rw [hBe]; exact hBp)
      rw [hAe] at hA'
      rw [hBe] at hB'
      obtain ⟨n1, S1, s1, v1, v2, v3, v4, v5, v6⟩ := ev_top hok hEp hS hk hn
      refine Res.pre s1 ?_
      have st := Steps.one' h6 v2 (act_skip S1 _)
      rw [v6] at st
      refine Res.pre st ?_
      by_cases h0 : (s.e.of S.m == 0) = true
      · have hc : ¬ (s.e.of S.m != 0) = true := by simpa [bne] using h0
        rw [if_pos h0, if_neg hc]
        have := hB' { S1.nx.pop with k := ((k + s.e.cd.length + 1 + A.length + 1 : Nat) : Int) } F ⟨v1.H, v1.m⟩ rfl (by show S1.n - 1 = 0; omega) (by show S1.F = _; rw [v4, hF])
        rw [show ({ S1.nx.pop with k := ((k + s.e.cd.length + 1 + A.length + 1 : Nat) : Int) } : PS).m = S.m from v5] at this
        exact this
      · have hc : (s.e.of S.m != 0) = true := by simpa [bne] using h0
        rw [if_neg h0, if_pos hc]
        have hb := hA' S1.nx.pop F ⟨v1.H, v1.m⟩ (by show S1.k + 1 = _; omega) (by show S1.n - 1 = 0; omega) (by show S1.F = _; rw [v4, hF])
        rw [show S1.nx.pop.m = S.m from v5] at hb
        refine hb.post fun hbf S3 b1 b2 b3 b4 b5 => ?_
        have st2 := Steps.one' h7 b2 (act_jump S3 _)
        refine Res.pre st2 ⟨fun _ => ⟨0, _, Steps.refl p _, ⟨b1.H, b1.m⟩, rfl, b3, b4, b5⟩, fun h => by rw [hbf] at h; cases h⟩
    · rw [if_neg q2]
      rw [if_neg q2] at hp
      by_cases q3 : (s.kind == 3) = true
      · rw [if_pos q3, if_pos q3]
        rw [if_pos q3] at hp
        generalize hAe : Sm.cdL s.th (k + s.e.cd.length + 1) = A at *
        have h6 := hp.fst.fst.snd
        have hAp := hp.fst.snd
        have h8 := hp.snd
        have hEp := hp.fst.fst.fst
        simp only [List.length_append, List.length_cons, List.length_nil, Nat.zero_add, ← Nat.add_assoc] at h6 hAp h8 ⊢
        have hA' := hA (k + s.e.cd.length + 1) (by rw [hAe]; exact hAp)
        rw [hAe] at hA'
        exact does_wh hok (fun m F => Sm.exL_le s.th m F) hEp h6 hA' h8 (F + 1) S F (Nat.lt_succ_self F) hS hk hn hF
      · simp only [q1, q2, q3] at hpl
        simp at hpl
theorem mex_gas {p : List GI} {D : List Int} (hD : DOk p D) : ∀ (g : Nat) (S : PS), S.In p D → S.meas p < g → ∀ g', S.meas p < g' → mex p g S = mex p g' S := by
  intro g
  induction g with
  | zero => intro S _ h; omega
  | succ g ih =>
    intro S hi h g' h'
    obtain ⟨g', rfl⟩ : ∃ n, g' = n + 1 := ⟨g' - 1, by omega⟩
    rw [mex, mex]
    split
    · rename_i hk
      obtain ⟨a, b⟩ := act_in hD hi hk
      split
      · rename_i hb
        obtain ⟨a1, a2⟩ := a hb
        exact ih _ a1 (by omega) g' (by omega)
      · rfl
    · rfl
theorem runC_codeOf (m : MM) (l : List Sm) (F : Int) (hl : okS l = true) (hc : okC (codeOf l) = true) : runC m (codeOf l) F = runS m l F := by
  have hcond : runCok m (codeOf l) F = runOk m l F := by simp only [runCok, runOk, hl, hc]
  rw [runC, runS, hcond]
  split
  · rename_i hr
    simp only [runOk, Bool.and_eq_true, decide_eq_true_eq] at hr
    obtain ⟨⟨⟨h1, h2⟩, h3⟩, h4⟩ := hr
    obtain ⟨D, hD⟩ := okC_D hc
    have hsix := MM.ok_six h1
    have hin := start_in (F := F) hD hsix h3 h4
    have hcd : codeOf l = Sm.cdL l 0 := by rw [codeOf, if_pos hl]
    have hf : formS 4 l = true := by simp only [okS, Bool.and_eq_true] at hl; exact hl.2
    have hdo := sm_does (codeOf l) 4 l hf 0 ⟨[], [], by simp [hcd], rfl⟩ (PS.start m F) F.toNat ⟨rfl, hsix⟩ rfl rfl (by show F = _; omega)
    rw [Nat.zero_add, ← hcd] at hdo
    rw [show (PS.start m F).m = m from rfl] at hdo
    generalize hR : Sm.exL l m F.toNat = R at *
    have hgas : ∀ n, (PS.start m F).meas (codeOf l) < n → mexR m (codeOf l) F = mex (codeOf l) n (PS.start m F) := fun n hn => mex_gas hD _ _ hin (Nat.lt_succ_self _) n hn
    cases hb : R.2.2
    · obtain ⟨n, S', a, b1, b2, b3, b4, b5⟩ := hdo.1 hb
      have e1 := hgas ((PS.start m F).meas (codeOf l) + 1 + n) (by omega)
      have a1 := a ((PS.start m F).meas (codeOf l) + 1)
      rw [a1] at e1
      rw [mex, if_neg (by omega)] at e1
      rw [e1]
      simp only [endO, hb, b5, b4, Int.toNat_natCast]
    · obtain ⟨n, S', a, b5⟩ := hdo.2 hb
      have e1 := hgas ((PS.start m F).meas (codeOf l) + 1 + n) (by omega)
      rw [a] at e1
      rw [e1]
      simp only [endO, hb, b5, if_true]
  · rfl
end Go.Proofs.YtmicbfojofcigaaGreatDoor
namespace Go.Proofs.YtmicbfojofcigaaGreatDoor
open Go Sg
set_option maxRecDepth 100000
set_option linter.unusedSimpArgs false
set_option linter.unusedVariables false
set_option linter.unusedSectionVars false
set_option maxHeartbeats 4000000
variable [ErrL]
def mxI (l : List Int) : Nat → Int
  | 0 => l.getD 0 0
  | i + 1 => if l.getD i 0 > mxI l i then l.getD i 0 else mxI l i
theorem max_ok (l : List Int) (h : 0 < l.length) (hl : l.length ≤ 1099511627776) : PureF Tryz.prog 56 [.rows 3 (rowsI l)] [.int .i64 (mxI l l.length)] := by
  refine pureF_of Tryz.func56 rfl Tryz.ntmps56 (by simp) T_ ?_
  intro f0 B Q hQ
  refine g_ [0] ?_
  refine g_ [0,7] ?_
  refine c_ (fun hc0 => ?_) fun hc0 => ?_
  · exfalso; omega
  refine g_ [0,3] ?_
  refine g_ [0,3,4] ?_
  refine n_ ?_
  refine wpM_loopS (fun s r s' => ∃ i : Nat, 1 ≤ i ∧ i + r = l.length ∧ s' = { s with env := setE 4 (.int .i64 (i : Nat)) (setE 3 (.int .i64 (mxI l i)) s.env) }) (l.length - 1) ?_ ?_
  ·
    have h1 : l.getD 0 0 = mxI l 1 := by simp [mxI]
    rw [h1]
    refine .of' _ _ ⟨1, Nat.le_refl _, by omega, rfl⟩ ?_ ?_ ?_ <;> exact L_
  rintro r s' ⟨i, hi1, hir, rfl⟩
  try refine S_ ?_
  refine g_ [0,3,4,15] ?_
  refine c_ (fun hc1 => ?_) fun hc1 => ?_
  ·
    have hil : i < l.length := by omega
    refine g_ [0,3,4] ?_
    refine g_ [0,3,4] ?_
    have h1 : (if l.getD i 0 > mxI l i then l.getD i 0 else mxI l i) = mxI l (i + 1) := rfl
    rw [h1]
    refine .of' _ _ ⟨r - 1, by omega, i + 1, by omega, by omega, rfl⟩ ?_ ?_ ?_ <;> exact L_
  refine g_ [2] ?_
  refine e_ Tryz.results56 ?_
  first
  | exact True.intro
  | have : i = l.length := by omega
    rw [this]
@[go_sem] theorem zeroI : ((0 : Nat) : Int) = 0 := rfl
@[go_sem] theorem repl0_one : List.replicate 1 (0 : Int) = [0] := rfl
end Go.Proofs.YtmicbfojofcigaaGreatDoor
namespace Go.Proofs.YtmicbfojofcigaaGreatDoor
open Go Sg
set_option maxRecDepth 100000
set_option linter.unusedSimpArgs false
set_option linter.unusedVariables false
set_option linter.unusedSectionVars false
set_option maxHeartbeats 4000000
variable [ErrL]
mutual
def Sm.cln : Sm → Nat
  | .mk k _ e th el => if k == 1 then e.sz + 1 else if k == 2 then e.sz + 1 + Sm.clnL th + 1 + Sm.clnL el else if k == 3 then e.sz + 1 + Sm.clnL th + 1 else e.sz
def Sm.clnL : List Sm → Nat | [] => 0 | s :: l => s.cln + Sm.clnL l
end
theorem Sm.cln_eq (s : Sm) : s.cln = if s.kind == 1 then s.e.sz + 1 else if s.kind == 2 then s.e.sz + 1 + Sm.clnL s.th + 1 + Sm.clnL s.el else if s.kind == 3 then s.e.sz + 1 + Sm.clnL s.th + 1 else s.e.sz := by cases s; simp only [Sm.cln, Sm.kind, Sm.e, Sm.th, Sm.el] <;> rfl
theorem Sm.clnL_app (l r : List Sm) : Sm.clnL (l ++ r) = Sm.clnL l + Sm.clnL r := by
  induction l with
  | nil => simp [Sm.clnL]
  | cons s l ih => simp only [List.cons_append, Sm.clnL, ih]; omega
mutual
theorem Sm.cd_cln : (s : Sm) → (k : Nat) → (s.cd k).length = s.cln
  | .mk kd a e th el, k => by
    simp only [Sm.cd, Sm.cln]
    repeat' split
    all_goals simp only [List.length_append, List.length_cons, List.length_nil, Ex.cd_len, Sm.cdL_cln th, Sm.cdL_cln el]
theorem Sm.cdL_cln : (l : List Sm) → (k : Nat) → (Sm.cdL l k).length = Sm.clnL l
  | [], k => rfl
  | s :: l, k => by simp only [Sm.cdL, Sm.clnL, List.length_append, Sm.cd_cln s, Sm.cdL_cln l]
end
theorem rb_cln (s : Sm) : Sm.clnL (rb s) ≤ s.cln := by
  have := s.cln_eq
  unfold rb
  split
  · simp [Sm.clnL]
  · split
    · rename_i h
      simp only [Bool.and_eq_true] at h
      have h1 : s.kind = 2 := by simpa using h.1.1
      rw [this, if_neg (by simp [h1]), if_pos (by simp [h1])]; omega
    · split
      · rename_i h
        simp only [Bool.and_eq_true] at h
        have h1 : s.kind = 2 := by simpa using h.1
        rw [this, if_neg (by simp [h1]), if_pos (by simp [h1])]; omega
      · simp [Sm.clnL]
mutual
theorem Sm.sl_cln : (s : Sm) → Sm.clnL s.sl ≤ s.cln
  | .mk k a e th el => by
    rw [Sm.sl]
    refine Nat.le_trans (rb_cln _) ?_
    simp only [Sm.cln]
    have := Sm.slL_cln th
    have := Sm.slL_cln el
    have := e.slim_sz
    repeat' split
    all_goals omega
theorem Sm.slL_cln : (l : List Sm) → Sm.clnL (Sm.slL l) ≤ Sm.clnL l
  | [] => Nat.le_refl _
  | s :: l => by
    simp only [Sm.slL, Sm.clnL_app, Sm.clnL]
    have := Sm.sl_cln s
    have := Sm.slL_cln l
    omega
end
theorem codeOf_slL {l : List Sm} (h : okS l = true) : (codeOf (Sm.slL l)).length ≤ (codeOf l).length := by
  rw [codeOf, codeOf, if_pos h, if_pos (slL_ok h), Sm.cdL_cln, Sm.cdL_cln]
  exact Sm.slL_cln l
end Go.Proofs.YtmicbfojofcigaaGreatDoor
namespace Go.Proofs.YtmicbfojofcigaaGreatDoor
open Go Sg
set_option maxRecDepth 100000
set_option linter.unusedSimpArgs false
set_option linter.unusedVariables false
set_option linter.unusedSectionVars false
set_option maxHeartbeats 4000000
variable [ErrL]
theorem okC_dep {p : List GI} (h : okC p = true) : DOk p (depV p).1 ∧ (depV p).1.length = p.length + 1 := by
  have h2 := h
  unfold okC depV at h
  split at h
  · rename_i L hL
    have hV : (depV p).1 = L := by rw [depV, hL]
    rw [hV]
    unfold depthsF at hL
    split at hL
    · cases hL
    · rename_i hn
      obtain ⟨a, b, c⟩ := runD_at _ _ hL
      exact ⟨⟨b, eq_of_beq h, by omega, c⟩, a⟩
  · cases h
mutual
def Ex.dp : Ex → Int | .mk _ _ _ l => max (Ex.dpL l) 1
def Ex.dpL : List Ex → Int | [] => 0 | e :: l => max e.dp (1 + Ex.dpL l)
end
theorem Ex.dp_eq (e : Ex) : e.dp = max (Ex.dpL e.kids) 1 := by cases e; simp only [Ex.dp, Ex.kids]
theorem Ex.dp_pos (e : Ex) : 1 ≤ e.dp := by rw [Ex.dp_eq]; omega
theorem Ex.dpL_pos (l : List Ex) : 0 ≤ Ex.dpL l := by
  cases l with
  | nil => simp [Ex.dpL]
  | cons e l => simp only [Ex.dpL]; have := e.dp_pos; omega
mutual
def Sm.dp : Sm → Int
  | .mk k _ e th el => if k == 1 then e.dp else if k == 2 then max e.dp (max (Sm.dpL th) (Sm.dpL el)) else max e.dp (Sm.dpL th)
def Sm.dpL : List Sm → Int | [] => 0 | s :: l => max s.dp (Sm.dpL l)
end
theorem Sm.dp_eq (s : Sm) : s.dp = if s.kind == 1 then s.e.dp else if s.kind == 2 then max s.e.dp (max (Sm.dpL s.th) (Sm.dpL s.el)) else max s.e.dp (Sm.dpL s.th) := by cases s; simp only [Sm.dp, Sm.kind, Sm.e, Sm.th, Sm.el] <;> rfl
theorem Sm.dp_pos (s : Sm) : 1 ≤ s.dp := by
  rw [Sm.dp_eq]
  have := s.e.dp_pos
  repeat' split
  all_goals omega
theorem Sm.dpL_pos (l : List Sm) : 0 ≤ Sm.dpL l := by
  cases l with
  | nil => simp [Sm.dpL]
  | cons e l => simp only [Sm.dpL]; have := e.dp_pos; omega
theorem Sm.dpL_app (l r : List Sm) : Sm.dpL (l ++ r) = max (Sm.dpL l) (Sm.dpL r) := by
  induction l with
  | nil => simp only [List.nil_append, Sm.dpL]; have := Sm.dpL_pos r; omega
  | cons s l ih => simp only [List.cons_append, Sm.dpL, ih]; omega
theorem dp_num (n : Int) : (numX n).dp = 1 := by simp only [numX, Ex.dp, Ex.dpL]; omega
theorem dp_kid {e : Ex} {i : Nat} (h : i < e.kids.length) : (e.kids.getD i default).dp ≤ e.dp := by
  rw [Ex.dp_eq e]
  have key : ∀ (l : List Ex) (i : Nat), i < l.length → (l.getD i default).dp ≤ Ex.dpL l := by
    intro l
    induction l with
    | nil => intro i h; simp at h
    | cons e l ih =>
      intro i h
      cases i with
      | zero => simp only [List.getD_cons_zero, Ex.dpL]; omega
      | succ i =>
        simp only [List.getD_cons_succ, Ex.dpL]
        have := ih i (by simpa using h)
        omega
  have := key e.kids i h
  omega
theorem slimN_dp (e : Ex) : (slimN e).dp ≤ e.dp := by
  have hp := e.dp_pos
  unfold slimN
  split
  · rw [dp_num]; exact hp
  · split
    · rename_i h2
      have h2' : e.kids.length = 2 := by simp at h2; omega
      have h0 := dp_kid (e := e) (i := 0) (by omega)
      have h1 := dp_kid (e := e) (i := 1) (by omega)
      unfold slim2
      repeat' split
      all_goals first | (rw [dp_num]; exact hp) | exact h0 | exact h1 | exact Int.le_refl _
    · exact Int.le_refl _
mutual
theorem Ex.slim_dp : (e : Ex) → e.slim.dp ≤ e.dp
  | .mk k n a l => by
    rw [Ex.slim]
    refine Int.le_trans (slimN_dp _) ?_
    simp only [Ex.dp]
    have := Ex.slimL_dp l
    omega
theorem Ex.slimL_dp : (l : List Ex) → Ex.dpL (Ex.slimL l) ≤ Ex.dpL l
  | [] => Int.le_refl _
  | e :: l => by
    simp only [Ex.slimL, Ex.dpL]
    have := Ex.slim_dp e
    have := Ex.slimL_dp l
    omega
end
theorem rb_dp (s : Sm) : Sm.dpL (rb s) ≤ s.dp := by
  have h1 := s.dp_pos
  have h2 := s.dp_eq
  unfold rb
  split
  · simp only [Sm.dpL]; omega
  · split
    · rename_i h
      simp only [Bool.and_eq_true] at h
      have hk : s.kind = 2 := by simpa using h.1.1
      rw [if_neg (by simp [hk]), if_pos (by simp [hk])] at h2
      omega
    · split
      · rename_i h
        simp only [Bool.and_eq_true] at h
        have hk : s.kind = 2 := by simpa using h.1
        rw [if_neg (by simp [hk]), if_pos (by simp [hk])] at h2
        omega
      · simp only [Sm.dpL]; omega
mutual
theorem Sm.sl_dp : (s : Sm) → Sm.dpL s.sl ≤ s.dp
  | .mk k a e th el => by
    rw [Sm.sl]
    refine Int.le_trans (rb_dp _) ?_
    simp only [Sm.dp]
    have := Sm.slL_dp th
    have := Sm.slL_dp el
    have := e.slim_dp
    repeat' split
    all_goals omega
theorem Sm.slL_dp : (l : List Sm) → Sm.dpL (Sm.slL l) ≤ Sm.dpL l
  | [] => Int.le_refl _
  | s :: l => by
    simp only [Sm.slL, Sm.dpL_app, Sm.dpL]
    have := Sm.sl_dp s
    have := Sm.slL_dp l
    omega
end
def Sprd (D : List Int) (k len : Nat) (z M : Int) : Prop := D.getD (k + len) 0 = z ∧ (∀ j, k ≤ j → j ≤ k + len → D.getD j 0 ≤ M) ∧ ∃ j, k ≤ j ∧ j ≤ k + len ∧ D.getD j 0 = M
theorem Sprd.join {D : List Int} {k a b : Nat} {z1 z2 M1 M2 : Int} (h1 : Sprd D k a z1 M1) (h2 : Sprd D (k + a) b z2 M2) : Sprd D k (a + b) z2 (max M1 M2) := by
  obtain ⟨a1, a2, j1, a3, a4, a5⟩ := h1
  obtain ⟨b1, b2, j2, b3, b4, b5⟩ := h2
  refine ⟨by rw [← Nat.add_assoc]; exact b1, fun j g1 g2 => ?_, ?_⟩
  · by_cases hj : j ≤ k + a
    · have := a2 j g1 hj; omega
    · have := b2 j (by omega) (by omega); omega
  · by_cases hm : M2 ≤ M1
    · exact ⟨j1, a3, by omega, by omega⟩
    · exact ⟨j2, by omega, by omega, by omega⟩
theorem Sprd.one {D : List Int} {k : Nat} {n z : Int} (h0 : D.getD k 0 = n) (h1 : D.getD (k + 1) 0 = z) : Sprd D k 1 z (max n z) := by
  refine ⟨h1, fun j g1 g2 => ?_, ?_⟩
  · by_cases hj : j = k
    · subst hj; omega
    · have : j = k + 1 := by omega
      subst this; omega
  · by_cases hm : z ≤ n
    · exact ⟨k, Nat.le_refl _, by omega, by omega⟩
    · exact ⟨k + 1, by omega, Nat.le_refl _, by omega⟩
theorem Sprd.cast {D : List Int} {k len : Nat} {z M M' : Int} (h : Sprd D k len z M) (e : M = M') : Sprd D k len z M' := e ▸ h
theorem ex_dep {p : List GI} {D : List Int} (hD : DOk p D) (d : Nat) : (∀ e : Ex, formD d e = true → ∀ (k : Nat) (n : Int), At p k e.cd → D.getD k 0 = n → Sprd D k e.cd.length (n + 1) (n + e.dp)) := by
  have lst : ∀ d, (∀ e : Ex, formD d e = true → ∀ (k : Nat) (n : Int), At p k e.cd → D.getD k 0 = n → Sprd D k e.cd.length (n + 1) (n + e.dp)) →
      ∀ l : List Ex, (∀ x ∈ l, formD d x = true) → ∀ (k : Nat) (n : Int), At p k (Ex.cdL l) → D.getD k 0 = n → Sprd D k (Ex.cdL l).length (n + l.length) (n + Ex.dpL l) := by
    intro d he l
    induction l with
    | nil =>
      intro _ k n _ hn
      have e0 : (Ex.cdL []).length = 0 := rfl
      rw [e0]
      refine ⟨by rw [Nat.add_zero, hn]; simp, fun j g1 g2 => ?_, ⟨k, Nat.le_refl _, by omega, by rw [hn]; simp [Ex.dpL]⟩⟩
      have : j = k := by omega
      subst this
      rw [hn]; simp [Ex.dpL]
    | cons e l ih =>
      intro hf k n hp hn
      simp only [Ex.cdL] at hp
      have h1 := he e (hf e (by simp)) k n hp.fst hn
      have h2 := ih (fun x hx => hf x (by simp [hx])) (k + e.cd.length) (n + 1) hp.snd h1.1
      have h3 := h1.join h2
      simp only [Ex.cdL, Ex.dpL, List.length_append, List.length_cons]
      have e1 : n + 1 + (l.length : Int) = n + ((l.length + 1 : Nat) : Int) := by omega
      rw [← e1]
      exact h3.cast (by omega)
  induction d with
  | zero => intro e h; simp [formD] at h
  | succ d ih =>
    intro e hf k n hp hn
    obtain ⟨f1, f2, f3, f4, f5, f6, f7⟩ := form_inv2 hf (k + (Ex.cdL e.kids).length) p.length
    rw [Ex.cd_eq] at hp ⊢
    have h1 := lst d ih e.kids f7 k n hp.fst hn
    obtain ⟨g1, g2⟩ := hp.snd.one
    have hat := hD.at' _ g1
    have hfo := hat.fo (by rw [g2]; exact f3)
    rw [g2] at hfo
    have ht : tD (lastI e) D (k + (Ex.cdL e.kids).length) = n + 1 := by unfold tD; rw [h1.1, f4, f5]; omega
    rw [ht] at hfo
    have h2 := h1.join (Sprd.one h1.1 hfo)
    simp only [List.length_append, List.length_cons, List.length_nil]
    have hpos := Ex.dpL_pos e.kids
    have hl : (e.kids.length : Int) ≤ max (Ex.dpL e.kids) 1 := by
      have := h1.2.1 (k + (Ex.cdL e.kids).length) (by omega) (Nat.le_refl _)
      rw [h1.1] at this
      omega
    have hl2 : (n + (e.kids.length : Int)) ≤ n + Ex.dpL e.kids := by
      have := h1.2.1 (k + (Ex.cdL e.kids).length) (by omega) (Nat.le_refl _)
      rw [h1.1] at this
      exact this
    refine h2.cast ?_
    rw [Ex.dp_eq]
    omega
theorem Sprd.nil {D : List Int} {k : Nat} {n : Int} (h : D.getD k 0 = n) : Sprd D k 0 n n := by
  refine ⟨by rw [Nat.add_zero]; exact h, fun j g1 g2 => ?_, ⟨k, Nat.le_refl _, by omega, h⟩⟩
  have : j = k := by omega
  subst this; omega
theorem sm_dep {p : List GI} {D : List Int} (hD : DOk p D) : ∀ (d : Nat) (l : List Sm), formS d l = true → ∀ k, At p k (Sm.cdL l k) → D.getD k 0 = 0 → Sprd D k (Sm.cdL l k).length 0 (Sm.dpL l) := by
  have lst : ∀ l : List Sm, (∀ s ∈ l, ∀ k, At p k (s.cd k) → D.getD k 0 = 0 → Sprd D k (s.cd k).length 0 s.dp) → ∀ k, At p k (Sm.cdL l k) → D.getD k 0 = 0 → Sprd D k (Sm.cdL l k).length 0 (Sm.dpL l) := by
    intro l
    induction l with
    | nil => intro _ k _ hz; exact Sprd.nil hz
    | cons s l ih =>
      intro h k hp hz
      simp only [Sm.cdL] at hp
      have h1 := h s (by simp) k hp.fst hz
      have h2 := ih (fun s hs => h s (by simp [hs])) _ hp.snd h1.1
      simp only [Sm.cdL, Sm.dpL, List.length_append]
      exact h1.join h2
  intro d
  induction d with
  | zero =>
    intro l hf k hp hz
    simp only [formS, beq_iff_eq] at hf
    have : l = [] := List.eq_nil_of_length_eq_zero hf
    subst this
    exact Sprd.nil hz
  | succ d ih =>
    intro l hf
    refine lst l fun s hs k hp hz => ?_
    have hf := List.all_eq_true.1 hf s hs
    simp only [Bool.and_eq_true] at hf
    obtain ⟨⟨⟨hpl, hok⟩, hth⟩, hel⟩ := hf
    have hA := ih s.th hth
    have hB := ih s.el hel
    have hdp := s.dp_eq
    have hep := s.e.dp_pos
    have htp := Sm.dpL_pos s.th
    have hlp := Sm.dpL_pos s.el
    have hE : At p k s.e.cd → Sprd D k s.e.cd.length 1 s.e.dp := fun h => by
      have := ex_dep hD 6 s.e (ok_form hok) k 0 h hz
      simpa using this
    rw [Sm.cd_eq] at hp ⊢
    unfold Sm.plain at hpl
    split
    · rename_i q1
      rw [if_pos q1] at hp hdp
      have h1 := hE hp.fst
      obtain ⟨g1, g2⟩ := hp.snd.one
      have hfo := (hD.at' _ g1).fo (by rw [g2]; rfl)
      rw [g2] at hfo
      have ht : tD ⟨3, 0, s.to'⟩ D (k + s.e.cd.length) = 0 := by unfold tD; rw [h1.1]; simp [GI.takes, GI.gives]
      rw [ht] at hfo
      have h2 := h1.join (Sprd.one h1.1 hfo)
      simp only [List.length_append, List.length_cons, List.length_nil]
      exact h2.cast (by rw [hdp]; omega)
    rename_i q1
    rw [if_neg q1] at hp hdp
    split
    · rename_i q2
      rw [if_pos q2] at hp hdp
      generalize hEl : s.e.cd = E at *
      generalize hAl : Sm.cdL s.th (k + E.length + 1) = A at *
      generalize hBl : Sm.cdL s.el (k + E.length + 1 + A.length + 1) = Bc at *
      have h1 := hE hp.fst.fst.fst.fst
      obtain ⟨g1, g2⟩ := hp.fst.fst.fst.snd.one
      have hat := hD.at' _ g1
      have ht : tD (p.getD (k + E.length) default) D (k + E.length) = 0 := by rw [g2]; unfold tD; rw [h1.1]; simp [GI.takes, GI.gives]
      have hfo := hat.fo (by rw [g2]; rfl)
      have hgo := hat.go (by rw [g2]; rfl)
      rw [ht] at hfo hgo
      rw [g2] at hgo
      have hA1 := hp.fst.fst.snd
      have eA : k + (E ++ [(⟨6, (k + E.length + 1 + A.length + 1 : Nat), A0⟩ : GI)]).length = k + E.length + 1 := by simp; omega
      rw [eA] at hA1
      have h2 := hA (k + E.length + 1) (by rw [hAl]; exact hA1) hfo
      rw [hAl] at h2
      have hJ := hp.fst.snd
      have eJ : k + (E ++ [(⟨6, (k + E.length + 1 + A.length + 1 : Nat), A0⟩ : GI)] ++ A).length = k + E.length + 1 + A.length := by simp; omega
      rw [eJ] at hJ
      obtain ⟨j1, j2⟩ := hJ.one
      have hjt := hD.at' _ j1
      have hB1 := hp.snd
      have eB : k + (E ++ [(⟨6, (k + E.length + 1 + A.length + 1 : Nat), A0⟩ : GI)] ++ A ++ [(⟨7, (k + E.length + 1 + A.length + 1 + Bc.length : Nat), A0⟩ : GI)]).length = k + E.length + 1 + A.length + 1 := by simp; omega
      rw [eB] at hB1
      have hgo' : D.getD (k + E.length + 1 + A.length + 1) 0 = 0 := by
        have e : ((k + E.length + 1 + A.length + 1 : Nat) : Int).toNat = k + E.length + 1 + A.length + 1 := by omega
        have := hgo
        dsimp only at this
        rw [e] at this
        exact this
      have h3 := hB (k + E.length + 1 + A.length + 1) (by rw [hBl]; exact hB1) hgo'
      rw [hBl] at h3
      have c1 := h1.join (Sprd.one h1.1 hfo)
      have c2 := c1.join (by rw [Nat.add_assoc] at h2; exact h2)
      have e3 : D.getD (k + (E.length + 1 + A.length)) 0 = 0 := by rw [show k + (E.length + 1 + A.length) = k + E.length + 1 + A.length from by omega]; exact h2.1
      have e4 : D.getD (k + (E.length + 1 + A.length) + 1) 0 = 0 := by rw [show k + (E.length + 1 + A.length) + 1 = k + E.length + 1 + A.length + 1 from by omega]; exact hgo'
      have c3 := c2.join (Sprd.one e3 e4)
      have c4 := c3.join (by rw [show k + (E.length + 1 + A.length + 1) = k + E.length + 1 + A.length + 1 from by omega]; exact h3)
      have el : (E ++ [(⟨6, (k + E.length + 1 + A.length + 1 : Nat), A0⟩ : GI)] ++ A ++ [(⟨7, (k + E.length + 1 + A.length + 1 + Bc.length : Nat), A0⟩ : GI)] ++ Bc).length = E.length + 1 + A.length + 1 + Bc.length := by simp; omega
      rw [el]
      exact c4.cast (by rw [hdp]; omega)
    · rename_i q2
      rw [if_neg q2] at hp hdp
      have q3 : (s.kind == 3) = true := by
        rw [if_neg q1, if_neg q2] at hpl
        split at hpl
        · assumption
        · cases hpl
      rw [if_pos q3] at hp ⊢
      generalize hEl : s.e.cd = E at *
      generalize hAl : Sm.cdL s.th (k + E.length + 1) = A at *
      have h1 := hE hp.fst.fst.fst
      obtain ⟨g1, g2⟩ := hp.fst.fst.snd.one
      have hat := hD.at' _ g1
      have ht : tD (p.getD (k + E.length) default) D (k + E.length) = 0 := by rw [g2]; unfold tD; rw [h1.1]; simp [GI.takes, GI.gives]
      have hfo := hat.fo (by rw [g2]; rfl)
      have hgo := hat.go (by rw [g2]; rfl)
      rw [ht] at hfo hgo
      rw [g2] at hgo
      have hA1 := hp.fst.snd
      have eA : k + (E ++ [(⟨6, (k + E.length + 1 + A.length + 1 : Nat), A0⟩ : GI)]).length = k + E.length + 1 := by simp; omega
      rw [eA] at hA1
      have h2 := hA (k + E.length + 1) (by rw [hAl]; exact hA1) hfo
      rw [hAl] at h2
      have hgo' : D.getD (k + E.length + 1 + A.length + 1) 0 = 0 := by
        have e : ((k + E.length + 1 + A.length + 1 : Nat) : Int).toNat = k + E.length + 1 + A.length + 1 := by omega
        have := hgo
        dsimp only at this
        rw [e] at this
        exact this
      have c1 := h1.join (Sprd.one h1.1 hfo)
      have c2 := c1.join (by rw [Nat.add_assoc] at h2; exact h2)
      have e3 : D.getD (k + (E.length + 1 + A.length)) 0 = 0 := by rw [show k + (E.length + 1 + A.length) = k + E.length + 1 + A.length from by omega]; exact h2.1
      have e4 : D.getD (k + (E.length + 1 + A.length) + 1) 0 = 0 := by rw [show k + (E.length + 1 + A.length) + 1 = k + E.length + 1 + A.length + 1 from by omega]; exact hgo'
      have c3 := c2.join (Sprd.one e3 e4)
      have el : (E ++ [(⟨6, (k + E.length + 1 + A.length + 1 : Nat), A0⟩ : GI)] ++ A ++ [(⟨8, (k : Nat), A0⟩ : GI)]).length = E.length + 1 + A.length + 1 := by simp; omega
      rw [el]
      exact c3.cast (by rw [hdp]; omega)
theorem mxI_le {L : List Int} {M : Int} {n : Nat} (h0 : L.getD 0 0 ≤ M) (h : ∀ j, j < n → L.getD j 0 ≤ M) : mxI L n ≤ M := by
  induction n with
  | zero => exact h0
  | succ n ih =>
    simp only [mxI]
    have := ih fun j hj => h j (by omega)
    have := h n (by omega)
    split <;> omega
theorem le_mxI {L : List Int} {n j : Nat} (hj : j < n) : L.getD j 0 ≤ mxI L n := by
  induction n with
  | zero => omega
  | succ n ih =>
    simp only [mxI]
    by_cases hjn : j = n
    · subst hjn; split <;> omega
    · have := ih (by omega)
      split <;> omega
def depC (p : List GI) : Int := if (depV p).2 then mxI (depV p).1 (depV p).1.length else -1
theorem depC_codeOf {l : List Sm} (h : okS l = true) (hn : (codeOf l).length ≤ 400) : depC (codeOf l) = Sm.dpL l := by
  have hok := okC_codeOf h hn
  obtain ⟨hD, hlen⟩ := okC_dep hok
  have h4 : formS 4 l = true := by simp only [okS, Bool.and_eq_true] at h; exact h.2
  have hcd : codeOf l = Sm.cdL l 0 := by rw [codeOf, if_pos h]
  have hs := sm_dep hD 4 l h4 0 ⟨[], [], by simp [hcd], rfl⟩ hD.z
  rw [← hcd] at hs
  have hV : (depV (codeOf l)).2 = true := hok
  rw [depC, hV, if_pos rfl, hlen]
  obtain ⟨_, h2, j, _, j2, j3⟩ := hs
  refine Int.le_antisymm (mxI_le (h2 0 (by omega) (by omega)) fun j hj => h2 j (by omega) (by omega)) ?_
  rw [← j3]
  exact le_mxI (by omega)
end Go.Proofs.YtmicbfojofcigaaGreatDoor
namespace Go.Proofs.YtmicbfojofcigaaGreatDoor
open Go Sg
set_option maxRecDepth 100000
set_option linter.unusedSimpArgs false
set_option linter.unusedVariables false
set_option linter.unusedSectionVars false
set_option maxHeartbeats 4000000
variable [ErrL]
theorem codeDepth_ok (p : List GI) (hp : p.length ≤ 1000000000) : PureF Tryz.prog 26 [.rows 81 (insR p)] [.int .i64 (depC p)] := by
  refine pureF_of Tryz.func26 rfl Tryz.ntmps26 (by simp) T_ ?_
  intro f0 B Q hQ
  refine g_ [0] ?_
  refine n_ ?_
  refine wpM_regionK [3,4] rfl fun Q1 hQ1 => ?_
  refine S_ ?_
  refine cp_ (depths_ok p (by omega)) Tryz.call50 ?_
  refine hQ1 _ _ (S_ ?_);clear hQ1 Q1
  refine g_ [3,11] ?_
  refine c_ (fun hc0 => ?_) fun hc0 => ?_
  ·
    refine g_ [2] ?_
    refine e_ Tryz.results26 ?_
    first
    | exact True.intro
    | rw [depC, if_neg]
      intro h; rw [h] at hc0; cases hc0
  have hok : okC p = true := by
    show (depV p).2 = true
    simpa using hc0
  have hlen := (okC_dep hok).2
  refine n_ ?_
  refine wpM_regionK [2] rfl fun Q1 hQ1 => ?_
  refine S_ ?_
  refine cp_ (max_ok (depV p).1 (by omega) (by omega)) Tryz.call56 ?_
  refine hQ1 _ _ (S_ ?_);clear hQ1 Q1
  refine e_ Tryz.results26 ?_
  first
  | exact True.intro
  | rw [depC]; exact (if_pos hok).symm
theorem codeOf_len2 (l : List Sm) (h : Sm.szL l ≤ 1000000) : (codeOf l).length ≤ 2000000 := by
  unfold codeOf
  split
  · have := Sm.cdL_len l 0; omega
  · simp
theorem lawSCode_ok (code more : List Nat) (hcode : ∀ x ∈ code, x < 256) (hmore : ∀ x ∈ more, x < 256) : PureF Tryz.prog 8 [.rows 5 (u8s code), .rows 5 (u8s more)] [.bool true] := by
  refine pureF_of Tryz.func8 rfl Tryz.ntmps8 (by simp) T_ ?_
  intro f0 B Q hQ
  refine g_ [0,1] ?_
  refine gD_ [0,1,25] ?_
  refine c_ (fun hc0 => ?_) fun hc0 => ?_
  ·
    refine g_ [4] ?_
    refine e_ Tryz.results8 ?_
    first
    | exact True.intro
    | trivial
  have hl2 : code.length ≤ 1099511627776 ∧ more.length ≤ 1099511627776 := by
    have := hc0
    simp at this
    omega
  refine n_ ?_
  refine wpM_regionK [1,5] rfl fun Q1 hQ1 => ?_
  refine S_ ?_
  refine call_fn (l := []) (first := []) (cap := []) (ps := [.rows 5 (u8s code)]) (drawSlim_ok code hcode hl2.1) Tryz.call9 rfl rfl rfl G_ T_ ?_
  rintro out ⟨l, hsz, rfl⟩
  refine S_ ?_
  refine hQ1 _ _ (S_ ?_);clear hQ1 Q1
  refine n_ ?_
  have hz1 := slimT_sz l
  have hcl := codeOf_len2 l hsz
  refine wpM_regionK [1,5,6] rfl fun Q1 hQ1 => ?_
  refine S_ ?_
  refine cp_ (islimS_ok l (by omega)) Tryz.call10 ?_
  refine hQ1 _ _ (S_ ?_);clear hQ1 Q1
  refine n_ ?_
  refine wpM_regionK [1,5,6,45] rfl fun Q1 hQ1 => ?_
  simp (contextual := true) (maxSteps := 1000000) (implicitDefEqProofs := false) (disch := first | omega | (simp only [decide_eq_true_eq, decide_eq_false_iff_not, Bool.and_eq_true, Bool.or_eq_false_iff, Bool.not_eq_true'] at *; omega)) only [go_sem, same_self]
  refine call_p (sslimS_ok l (by omega)) Tryz.call12 rfl rfl rfl (by first | rfl | (simp -implicitDefEqProofs (disch := omega) only [go_sem] <;> rfl)) ?_
  simp (contextual := true) (maxSteps := 1000000) (implicitDefEqProofs := false) (disch := first | omega | (simp only [decide_eq_true_eq, decide_eq_false_iff_not, Bool.and_eq_true, Bool.or_eq_false_iff, Bool.not_eq_true'] at *; omega)) only [go_sem, same_self]
  refine call_p (smSame_ok _ (slimT l) (slimT l) rfl (by omega)) Tryz.call11 rfl rfl rfl (by first | rfl | (simp -implicitDefEqProofs (disch := omega) only [go_sem] <;> rfl)) ?_
  simp (contextual := true) (maxSteps := 1000000) (implicitDefEqProofs := false) (disch := first | omega | (simp only [decide_eq_true_eq, decide_eq_false_iff_not, Bool.and_eq_true, Bool.or_eq_false_iff, Bool.not_eq_true'] at *; omega)) only [go_sem, same_self]
  first | refine callG_p (fun hb => stmtsOk_ok l (by omega)) Tryz.call13 rfl rfl (fun hb => by simp -implicitDefEqProofs (disch := omega) only [go_sem]) (fun hb => by first | rfl | (simp -implicitDefEqProofs (disch := omega) only [go_sem, hb, gd_of hb] <;> rfl)) ?_ | refine call_p (stmtsOk_ok l (by omega)) Tryz.call13 rfl rfl rfl (by first | rfl | (simp -implicitDefEqProofs (disch := omega) only [go_sem] <;> rfl)) ?_
  simp (contextual := true) (maxSteps := 1000000) (implicitDefEqProofs := false) (disch := first | omega | (simp only [decide_eq_true_eq, decide_eq_false_iff_not, Bool.and_eq_true, Bool.or_eq_false_iff, Bool.not_eq_true'] at *; omega)) only [go_sem, same_self]
  first | refine callG_p (fun hb => icodeOf_ok l (by omega)) Tryz.call19 rfl rfl (fun hb => by simp -implicitDefEqProofs (disch := omega) only [go_sem]) (fun hb => by first | rfl | (simp -implicitDefEqProofs (disch := omega) only [go_sem, hb, gd_of hb] <;> rfl)) ?_ | refine call_p (icodeOf_ok l (by omega)) Tryz.call19 rfl rfl rfl (by first | rfl | (simp -implicitDefEqProofs (disch := omega) only [go_sem] <;> rfl)) ?_
  simp (contextual := true) (maxSteps := 1000000) (implicitDefEqProofs := false) (disch := first | omega | (simp only [decide_eq_true_eq, decide_eq_false_iff_not, Bool.and_eq_true, Bool.or_eq_false_iff, Bool.not_eq_true'] at *; omega)) only [go_sem, same_self]
  refine hQ1 _ _ (S_ ?_);clear hQ1 Q1
  refine c_ (fun hc1 => ?_) fun hc1 => ?_
  ·
    refine n_ ?_
    refine wpM_regionK [4] rfl fun Q1 hQ1 => ?_
    refine S_ ?_
    refine cp_ (sslimS_ok l (by omega)) Tryz.call12 ?_
    refine cp_ (smSame_ok _ (slimT l) (slimT l) rfl (by omega)) Tryz.call11 ?_
    refine hQ1 _ _ (S_ ?_);clear hQ1 Q1
    refine e_ Tryz.results8 ?_
    first
    | exact True.intro
    | exact same_self _
  have hc1' := hc1
  simp only [Bool.or_eq_false_iff, Bool.not_eq_false', decide_eq_false_iff_not] at hc1'
  have hok : okS l = true := hc1'.1
  have hn : (codeOf l).length ≤ 400 := by have := hc1'.2; omega
  have hT := slimT_ok hok
  have hokT : okS (slimT l) = true := by rw [hT]; exact slL_ok hok
  have hnT : (codeOf (slimT l)).length ≤ 400 := by have := codeOf_slL hok; rw [hT]; omega
  have hr : ∀ m F, runC m (codeOf (slimT l)) F = runC m (codeOf l) F := by
    intro m F
    rw [runC_codeOf m _ F hokT (okC_codeOf hokT hnT), runC_codeOf m _ F hok (okC_codeOf hok hn), hT, runS_slL m hok]
  have hrs : ∀ m F, runC m (codeOf l) F = runS m l F := fun m F => runC_codeOf m _ F hok (okC_codeOf hok hn)
  have hdp : depC (codeOf (slimT l)) ≤ depC (codeOf l) := by
    rw [depC_codeOf hokT hnT, depC_codeOf hok hn, hT]
    exact Sm.slL_dp l
  refine n_ ?_
  refine wpM_regionK [5,6,7,9] rfl fun Q1 hQ1 => ?_
  refine S_ ?_
  refine call_fn (l := []) (first := []) (cap := []) (ps := [.rows 5 (u8s more)]) (drawRun_ok more hmore hl2.2) Tryz.call15 rfl rfl rfl G_ T_ ?_
  rintro out ⟨m, l9, F, ⟨hm, hsz9, hF0, hF1⟩, rfl⟩
  refine S_ ?_
  refine hQ1 _ _ (S_ ?_);clear hQ1 Q1
  refine n_ ?_
  refine wpM_regionK [6,7,9,10] rfl fun Q1 hQ1 => ?_
  refine S_ ?_
  refine cp_ (icodeOf_ok l (by omega)) Tryz.call19 ?_
  refine hQ1 _ _ (S_ ?_);clear hQ1 Q1
  refine n_ ?_
  refine wpM_regionK [7,9,10,11] rfl fun Q1 hQ1 => ?_
  refine S_ ?_
  refine cp_ (icodeOf_ok (slimT l) (by omega)) Tryz.call19 ?_
  refine hQ1 _ _ (S_ ?_);clear hQ1 Q1
  refine n_ ?_
  refine wpM_regionK [7,9,10,11,12,13,14] rfl fun Q1 hQ1 => ?_
  refine S_ ?_
  refine cp_ (icodeRun_ok m (codeOf l) F hm (by omega)) Tryz.call23 ?_
  refine hQ1 _ _ (S_ ?_);clear hQ1 Q1
  refine n_ ?_
  refine wpM_regionK [10,11,12,13,14,15,16,17] rfl fun Q1 hQ1 => ?_
  refine S_ ?_
  refine cp_ (icodeRun_ok m (codeOf (slimT l)) F hm (by omega)) Tryz.call23 ?_
  refine hQ1 _ _ (S_ ?_);clear hQ1 Q1
  rw [hr, hrs]
  refine n_ ?_
  refine wpM_regionK [4] rfl fun Q1 hQ1 => ?_
  refine SD_ ?_
  first | refine cg_ (fun hb => memSame_ok (runS m l F).1 (runS m l F).1 (runS_Sm2 m l F)) Tryz.call17 ?_ | refine cpD_ (memSame_ok (runS m l F).1 (runS m l F).1 (runS_Sm2 m l F)) Tryz.call17 ?_
  first | refine cg_ (fun hb => codeDepth_ok (codeOf (slimT l)) (by omega)) Tryz.call26 ?_ | refine cpD_ (codeDepth_ok (codeOf (slimT l)) (by omega)) Tryz.call26 ?_
  first | refine cg_ (fun hb => codeDepth_ok (codeOf l) (by omega)) Tryz.call26 ?_ | refine cpD_ (codeDepth_ok (codeOf l) (by omega)) Tryz.call26 ?_
  refine hQ1 _ _ (S_ ?_);clear hQ1 Q1
  refine e_ Tryz.results8 ?_
  first
  | exact True.intro
  | rw [beq_self_eq_true, beq_self_eq_true, memSame_self]
    simpa using hdp
end Go.Proofs.YtmicbfojofcigaaGreatDoor
