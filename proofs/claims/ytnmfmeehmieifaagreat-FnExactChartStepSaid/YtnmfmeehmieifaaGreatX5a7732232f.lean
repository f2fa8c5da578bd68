/- A part of a proof: lemmas and contracts of functions; the last text of the claim says what is proved. -/
import Derived.Test.YtnmfmeehmieifaaGreatX4ad4ad1387
set_option linter.unusedSectionVars false
set_option linter.unusedSimpArgs false
set_option linter.unusedVariables false
namespace Go.Proofs.YtnmfmeehmieifaaGreat
open Go Sg
set_option linter.unusedSectionVars false
variable [Glob]
set_option maxRecDepth 100000
set_option linter.unusedSimpArgs false
set_option maxHeartbeats 4000000
theorem mixed : Tryz.prog.follows .mixedOrders = true := by kernel_rfl
def ints (l : List Int) : List PV := l.map (PV.int .i64)
@[go_sem] theorem ints_len (l : List Int) : (ints l).length = l.length := by simp [ints]
@[go_sem] theorem ints_drop (l : List Int) (k : Nat) (h : k < l.length) : ((ints l).drop k)[0]? = some (.int .i64 (l.getD k 0)) := by
  simp [ints, List.getD, h]
structure Bs (bs : List Nat) : Prop where
  lt : ∀ x ∈ bs, x < 256
  len : bs.length ≤ 2000
theorem Bs.get {bs : List Nat} (h : Bs bs) (k : Nat) : bs.getD k 0 < 256 := by
  by_cases hk : k < bs.length
  · rw [List.getD_eq_getElem?_getD, List.getElem?_eq_getElem hk]; exact h.lt _ (List.getElem_mem hk)
  · rw [List.getD_eq_getElem?_getD, List.getElem?_eq_none (by omega)]; simp
end Go.Proofs.YtnmfmeehmieifaaGreat
namespace Go.Proofs.YtnmfmeehmieifaaGreat
open Go Sg
set_option linter.unusedSectionVars false
variable [Glob]
set_option maxRecDepth 100000
set_option linter.unusedSimpArgs false
set_option linter.unusedVariables false
set_option maxHeartbeats 4000000
def cut (n : Int) : Int := max (-1000000) (min 1000000 n)
theorem l1Max_ok (a b : Int) : PureF Tryz.prog 169 [.int .i64 a, .int .i64 b] [.int .i64 (max a b)] := by
  refine pureF_of Tryz.func169 rfl Tryz.ntmps169 (by simp) T_ ?_
  intro f0 B Q hQ
  refine g_ [0,1] ?_
  refine g_ [0,1,7] ?_
  refine c_ (fun hc0 => ?_) fun hc0 => ?_
  ·
    refine g_ [4] ?_
    refine e_ Tryz.results169 ?_
    first
    | exact True.intro
    | omega
  refine g_ [4] ?_
  refine e_ Tryz.results169 ?_
  first
  | exact True.intro
  | omega
theorem l1Min_ok (a b : Int) : PureF Tryz.prog 170 [.int .i64 a, .int .i64 b] [.int .i64 (min a b)] := by
  refine pureF_of Tryz.func170 rfl Tryz.ntmps170 (by simp) T_ ?_
  intro f0 B Q hQ
  refine g_ [0,1] ?_
  refine g_ [0,1,7] ?_
  refine c_ (fun hc0 => ?_) fun hc0 => ?_
  ·
    refine g_ [4] ?_
    refine e_ Tryz.results170 ?_
    first
    | exact True.intro
    | omega
  refine g_ [4] ?_
  refine e_ Tryz.results170 ?_
  first
  | exact True.intro
  | omega
theorem cut_ok (n : Int) : PureF Tryz.prog 143 [.int .i64 n] [.int .i64 (cut n)] := by
  refine pureF_of Tryz.func143 rfl Tryz.ntmps143 (by simp) T_ ?_
  intro f0 B Q hQ
  refine g_ [0] ?_
  refine n_ ?_
  refine wpM_regionK [2] rfl fun Q1 hQ1 => ?_
  refine S_ ?_
  refine cp_ (l1Min_ok 1000000 n) Tryz.call170 ?_
  refine cp_ (l1Max_ok (-1000000) (min 1000000 n)) Tryz.call169 ?_
  refine hQ1 _ _ (S_ ?_);clear hQ1 Q1
  refine e_ Tryz.results143 ?_
  first
  | exact True.intro
  | rfl
structure AD where
  kind : Int
  at' : Int
  deriving DecidableEq, Inhabited
def AD.cs (a : AD) : List PV := [.int .i64 a.kind, .int .i64 a.at']
@[go_sem] theorem AD.cs_eq (a : AD) : a.cs = [.int .i64 a.kind, .int .i64 a.at'] := rfl
theorem eqAD (d : Nat) (a b c e : Int) : eqA Tryz.prog (d + 2) 74 (.agg [.int .i64 a, .int .i64 b]) (.agg [.int .i64 c, .int .i64 e]) = some (a == c && b == e) := by
  unfold eqA
  simp only [Tryz.underlying74, Tryz.stoodInHeld74, Bool.false_eq_true, if_false, eqFs]
  simp -implicitDefEqProofs (disch := omega) only [go_sem, eqA, eqFs, ne_eq, String.reduceEq]
  cases h1 : a == c <;> cases h2 : b == e <;> simp [eqA, Tryz.underlying3, h1, h2]
@[go_sem] theorem neqAD (x y : Operand) (a b c e : Int) : binOpA Tryz.prog .neq 74 x y (.agg [.int .i64 a, .int .i64 b]) (.agg [.int .i64 c, .int .i64 e]) = some (.bool (!(a == c && b == e))) := by
  simp only [binOpA, Tryz.eqGuardType74]
  rw [eqAD 9998]; rfl
@[go_sem] theorem eqlAD (x y : Operand) (a b c e : Int) : binOpA Tryz.prog .eql 74 x y (.agg [.int .i64 a, .int .i64 b]) (.agg [.int .i64 c, .int .i64 e]) = some (.bool (a == c && b == e)) := by
  simp only [binOpA, Tryz.eqGuardType74]
  rw [eqAD 9998]; rfl
def AD.ok (a : AD) : Bool := decide (a.kind ≥ 1) && decide (a.kind ≤ 3) && decide (a.at' ≥ 0) && decide (a.at' < 6)
theorem addrOk_ok (a : AD) : PureF Tryz.prog 102 [.agg a.cs] [.bool a.ok] := by
  refine pureF_of Tryz.func102 rfl Tryz.ntmps102 (by simp) T_ ?_
  intro f0 B Q hQ
  refine g_ [1] ?_
  refine gD_ [2] ?_
  refine e_ Tryz.results102 ?_
  first
  | exact True.intro
  | rfl
inductive Ex where
  | mk (kind n : Int) (a : AD) (kids : List Ex)
  deriving Inhabited
def Ex.kind : Ex → Int | .mk k _ _ _ => k
def Ex.n : Ex → Int | .mk _ n _ _ => n
def Ex.a : Ex → AD | .mk _ _ a _ => a
def Ex.kids : Ex → List Ex | .mk _ _ _ l => l
mutual
def Ex.cs : Ex → List PV
  | .mk k n a l => [.int .i64 k, .int .i64 n, .int .i64 a.kind, .int .i64 a.at', .rows 77 (Ex.csL l)]
def Ex.csL : List Ex → List (List PV)
  | [] => []
  | e :: l => e.cs :: Ex.csL l
end
@[go_sem] theorem Ex.cs_eq (e : Ex) : e.cs = [.int .i64 e.kind, .int .i64 e.n, .int .i64 e.a.kind, .int .i64 e.a.at', .rows 77 (Ex.csL e.kids)] := by cases e; simp only [Ex.cs, Ex.kind, Ex.n, Ex.a, Ex.kids]
theorem Ex.csL_map (l : List Ex) : Ex.csL l = l.map Ex.cs := by
  induction l with
  | nil => rfl
  | cons e l ih => simp [Ex.csL, ih]
@[go_sem] theorem Ex.csL_len (l : List Ex) : (Ex.csL l).length = l.length := by simp [Ex.csL_map]
@[go_sem] theorem Ex.csL_get (l : List Ex) (k : Nat) (h : k < l.length) : (Ex.csL l).getD k [] = (l.getD k default).cs := by simp [Ex.csL_map, List.getD, h]
def kidsN (k : Int) : Int := if k == 1 || k == 2 then 0 else if k == 10 then 1 else if decide (k ≥ 3) && decide (k ≤ 9) then 2 else -1
theorem l3Kids_ok (k : Int) : PureF Tryz.prog 168 [.int .i64 k] [.int .i64 (kidsN k)] := by
  refine pureF_of Tryz.func168 rfl Tryz.ntmps168 (by simp) T_ ?_
  intro f0 B Q hQ
  refine g_ [0] ?_
  refine gD_ [0,3] ?_
  refine c_ (fun hc0 => ?_) fun hc0 => ?_
  ·
    refine g_ [2] ?_
    refine e_ Tryz.results168 ?_
    first
    | exact True.intro
    | simp [kidsN, *]
  refine g_ [0,10] ?_
  refine c_ (fun hc1 => ?_) fun hc1 => ?_
  ·
    refine g_ [2] ?_
    refine e_ Tryz.results168 ?_
    first
    | exact True.intro
    | simp [kidsN, *]
  refine gD_ [13] ?_
  refine c_ (fun hc2 => ?_) fun hc2 => ?_
  ·
    refine g_ [2] ?_
    refine e_ Tryz.results168 ?_
    first
    | exact True.intro
    | simp [kidsN, *]
  refine g_ [2] ?_
  refine e_ Tryz.results168 ?_
  first
  | exact True.intro
  | simp [kidsN, *]
end Go.Proofs.YtnmfmeehmieifaaGreat
namespace Go.Proofs.YtnmfmeehmieifaaGreat
open Go Sg
set_option linter.unusedSectionVars false
variable [Glob]
set_option maxRecDepth 100000
set_option linter.unusedSimpArgs false
set_option linter.unusedVariables false
set_option maxHeartbeats 4000000
mutual
def Ex.sz : Ex → Nat | .mk _ _ _ l => 1 + Ex.szL l
def Ex.szL : List Ex → Nat | [] => 0 | e :: l => e.sz + Ex.szL l
end
theorem Ex.sz_eq (e : Ex) : e.sz = 1 + Ex.szL e.kids := by cases e; simp only [Ex.sz, Ex.kids]
theorem Ex.sz_pos (e : Ex) : 0 < e.sz := by rw [Ex.sz_eq]; omega
theorem Ex.len_szL (l : List Ex) : l.length ≤ Ex.szL l := by
  induction l with
  | nil => simp
  | cons e l ih => simp only [List.length_cons, Ex.szL]; have := e.sz_pos; omega
theorem Ex.get_szL (l : List Ex) (k : Nat) (h : k < l.length) : (l.getD k default).sz ≤ Ex.szL l := by
  induction l generalizing k with
  | nil => simp at h
  | cons e l ih =>
    simp only [Ex.szL]
    cases k with
    | zero => simp
    | succ k =>
      have := ih k (by simpa using h)
      simp only [List.getD_cons_succ]; omega
theorem Ex.kid_sz {e : Ex} {k : Nat} (h : k < e.kids.length) : (e.kids.getD k default).sz < e.sz := by
  have := Ex.get_szL e.kids k h
  rw [Ex.sz_eq e]; omega
theorem Ex.kids_len (e : Ex) : e.kids.length < e.sz := by
  have := Ex.len_szL e.kids
  rw [Ex.sz_eq e]; omega
def formD : Nat → Ex → Bool
  | 0, _ => false
  | d + 1, e => if kidsN e.kind != (e.kids.length : Int) then false
    else if (e.kind == 1 && cut e.n != e.n) || (e.kind != 1 && e.n != 0) then false
    else if (e.kind == 2 && !e.a.ok) || (e.kind != 2 && !(e.a.kind == 0 && e.a.at' == 0)) then false
    else e.kids.all (formD d)
theorem take_all {α : Type} [Inhabited α] (p : α → Bool) (l : List α) (i : Nat) (h : i < l.length) : (l.take (i + 1)).all p = ((l.take i).all p && p (l.getD i default)) := by
  rw [List.take_succ_eq_append_getElem h, List.all_append]
  simp [List.getD, h]
theorem all_no {α : Type} [Inhabited α] {p : α → Bool} {l : List α} {i : Nat} (h : i < l.length) (hp : (!p (l.getD i default)) = true) : l.all p = false := by
  rw [List.all_eq_false]
  refine ⟨l.getD i default, ?_, by simpa using hp⟩
  rw [List.getD_eq_getElem?_getD, List.getElem?_eq_getElem h]; exact List.getElem_mem h
theorem all_yes {α : Type} [Inhabited α] {p : α → Bool} {l : List α} {i n : Nat} (hi : i + n = l.length) (h : ¬ (i : Int) < (l.length : Int)) (hp : (l.take i).all p = true) : l.all p = true := by
  have : i = l.length := by omega
  rwa [List.take_of_length_le (by omega)] at hp
theorem l3Form_ok (d : Nat) : ∀ (e : Ex) (deep : Int), deep.toNat = d → deep ≤ 1000000 → e.sz ≤ 1099511627776 → PureF Tryz.prog 141 [.agg e.cs, .int .i64 deep] [.bool (formD d e)] := by
  induction d with
  | zero =>
    intro e deep hd hdl hs
    have hlen := e.kids_len
    refine pureF_of Tryz.func141 rfl Tryz.ntmps141 (by simp) T_ ?_
    intro f0 B Q hQ
    have hlt : deep < 1 := by omega
    refine g_ [1,2] ?_
    refine n_ ?_
    refine dr_ mixed [1,2,16] 0 1 [B] [⟨[1],[],[],[],false⟩,⟨[6],[],[],[],false⟩,⟨[7],[],[],[],false⟩,⟨[2,8],[],[],[],false⟩,⟨[8,9],[0],[],[],false⟩,⟨[8,10],[],[],[],true⟩,⟨[2,8],[],[],[],false⟩,⟨[8,12],[0],[],[],false⟩,⟨[8,13],[],[],[],false⟩,⟨[8,11,14],[],[],[],false⟩,⟨[8,15],[],[],[],false⟩] [0,1,2,3,4,6,7,8,5,9,10] [[],[0],[0,1],[0,1,2],[0,1,2,3],[0,1,2,3,4],[0,1,2],[0,1,2,6],[0,1,2,6,7],[0,1,2,3,4,5,6,7,8],[0,1,2,3,4,5,6,7,8,9]] 1 ?_
    intro O A K hO hA hK;simp only [atL_cons,atL_nil,Nat.reduceAdd,Nat.zero_add] at hO hA
    refine SE_ ?_
    first | refine lg_ (fun hb => l3Kids_ok e.kind) Tryz.call168 ?_ | refine lpE_ (l3Kids_ok e.kind) Tryz.call168 ?_
    refine hK _ (S_ ?_);clear hK K hO hA O A
    refine c_ (fun hc0 => ?_) fun hc0 => ?_
    ·
      refine g_ [4] ?_
      refine e_ Tryz.results141 ?_
      first
      | exact True.intro
      | rfl
    simp [hlt] at hc0
  | succ d ih =>
    intro e deep hd hdl hs
    have hlen := e.kids_len
    refine pureF_of Tryz.func141 rfl Tryz.ntmps141 (by simp) T_ ?_
    intro f0 B Q hQ
    have hlt : decide (deep < 1) = false := by simp; omega
    refine g_ [1,2] ?_
    refine n_ ?_
    refine dr_ mixed [1,2,16] 0 1 [B] [⟨[1],[],[],[],false⟩,⟨[6],[],[],[],false⟩,⟨[7],[],[],[],false⟩,⟨[2,8],[],[],[],false⟩,⟨[8,9],[0],[],[],false⟩,⟨[8,10],[],[],[],true⟩,⟨[2,8],[],[],[],false⟩,⟨[8,12],[0],[],[],false⟩,⟨[8,13],[],[],[],false⟩,⟨[8,11,14],[],[],[],false⟩,⟨[8,15],[],[],[],false⟩] [0,1,2,3,4,6,7,8,5,9,10] [[],[0],[0,1],[0,1,2],[0,1,2,3],[0,1,2,3,4],[0,1,2],[0,1,2,6],[0,1,2,6,7],[0,1,2,3,4,5,6,7,8],[0,1,2,3,4,5,6,7,8,9]] 1 ?_
    intro O A K hO hA hK;simp only [atL_cons,atL_nil,Nat.reduceAdd,Nat.zero_add] at hO hA
    refine SE_ ?_
    first | refine lg_ (fun hb => l3Kids_ok e.kind) Tryz.call168 ?_ | refine lpE_ (l3Kids_ok e.kind) Tryz.call168 ?_
    refine hK _ (S_ ?_);clear hK K hO hA O A
    refine c_ (fun hc0 => ?_) fun hc0 => ?_
    ·
      rw [hlt, Bool.false_or] at hc0
      refine g_ [4] ?_
      refine e_ Tryz.results141 ?_
      first
      | exact True.intro
      | clear ih hQ
        simp only [formD, *, ↓reduceIte, Bool.false_eq_true] <;> first | exact (all_no hi2 hc4).symm | exact (all_yes hi hc3 hall).symm
    rw [hlt, Bool.false_or] at hc0
    refine n_ ?_
    refine dr_ mixed [1,2,37] 0 1 [B] [⟨[2],[],[],[],false⟩,⟨[17],[0],[],[],false⟩,⟨[18],[],[],[],false⟩,⟨[19],[],[],[],false⟩,⟨[2,20],[],[],[],false⟩,⟨[20,21],[0],[],[],false⟩,⟨[20,22],[],[],[],true⟩,⟨[2,20],[],[],[],false⟩,⟨[20,24],[0],[],[],false⟩,⟨[20,23,25],[],[],[],false⟩,⟨[20,26],[],[],[],false⟩,⟨[27],[],[],[],false⟩,⟨[2,28],[],[],[],false⟩,⟨[28,29],[0],[],[],false⟩,⟨[28,30],[],[],[],false⟩,⟨[28,31],[],[],[],false⟩,⟨[2,32],[],[],[],false⟩,⟨[32,33],[0],[],[],false⟩,⟨[32,34],[],[],[],false⟩,⟨[28,32,35],[],[],[],false⟩,⟨[28,36],[],[],[],false⟩] [0,1,2,3,4,5,7,8,6,9,10,11,12,13,14,15,16,17,18,19,20] [[],[0],[0,1],[0,1,2],[0,1,2,3],[0,1,2,3,4],[0,1,2,3,4,5],[0,1,2,3],[0,1,2,3,7],[0,1,2,3,4,5,6,7,8],[0,1,2,3,4,5,6,7,8,9],[0,1,2,3,4,5,6,7,8,9,10],[0,1,2,3,4,5,6,7,8,9,10,11],[0,1,2,3,4,5,6,7,8,9,10,11,12],[0,1,2,3,4,5,6,7,8,9,10,11,12,13],[0,1,2,3,4,5,6,7,8,9,10,11,12,13,14],[0,1,2,3,4,5,6,7,8,9,10,11,12,13,14,15],[0,1,2,3,4,5,6,7,8,9,10,11,12,13,14,15,16],[0,1,2,3,4,5,6,7,8,9,10,11,12,13,14,15,16,17],[0,1,2,3,4,5,6,7,8,9,10,11,12,13,14,15,16,17,18],[0,1,2,3,4,5,6,7,8,9,10,11,12,13,14,15,16,17,18,19]] 1 ?_
    intro O A K hO hA hK;simp only [atL_cons,atL_nil,Nat.reduceAdd,Nat.zero_add] at hO hA
    refine SE_ ?_
    first | refine lg_ (fun hb => cut_ok e.n) Tryz.call143 ?_ | refine lpE_ (cut_ok e.n) Tryz.call143 ?_
    refine hK _ (S_ ?_);clear hK K hO hA O A
    refine c_ (fun hc1 => ?_) fun hc1 => ?_
    ·
      refine g_ [4] ?_
      refine e_ Tryz.results141 ?_
      first
      | exact True.intro
      | clear ih hQ
        simp only [formD, *, ↓reduceIte, Bool.false_eq_true] <;> first | exact (all_no hi2 hc4).symm | exact (all_yes hi hc3 hall).symm
    refine n_ ?_
    refine wpM_regionK [1,2,57] rfl fun Q1 hQ1 => ?_
    refine SD_ ?_
    first | refine cg_ (fun hb => addrOk_ok e.a) Tryz.call102 ?_ | refine cpD_ (addrOk_ok e.a) Tryz.call102 ?_
    refine hQ1 _ _ (S_ ?_);clear hQ1 Q1
    refine c_ (fun hc2 => ?_) fun hc2 => ?_
    ·
      refine g_ [4] ?_
      refine e_ Tryz.results141 ?_
      first
      | exact True.intro
      | clear ih hQ
        simp only [formD, *, ↓reduceIte, Bool.false_eq_true] <;> first | exact (all_no hi2 hc4).symm | exact (all_yes hi hc3 hall).symm
    refine g_ [1,2,5] ?_
    refine n_ ?_
    refine wpM_loopS (fun s n s' => ∃ i M : Nat, i + n = e.kids.length ∧ s.M ≤ M ∧ (e.kids.take i).all (formD d) = true ∧ s' = { s with env := setE 5 (.int .i64 i) s.env, M := M }) (e.kids.length) ?_ ?_
    ·
      refine .of ⟨0, _, by omega, Nat.le_refl _, by simp, rfl⟩ ?_ ?_ ?_ rfl rfl (Nat.le_refl _) rfl <;> exact L_
    rintro n s' ⟨i, M, hi, hM, hall, rfl⟩
    try refine S_ ?_
    refine g_ [1,2,5,62] ?_
    refine c_ (fun hc3 => ?_) fun hc3 => ?_
    ·
      have hi2 : i < e.kids.length := by omega
      refine n_ ?_
      refine wpM_regionK [1,2,5,73] rfl fun Q1 hQ1 => ?_
      refine S_ ?_
      refine cp_ (ih (e.kids.getD i default) (deep - 1) (by omega) (by omega) (by have := Ex.kid_sz hi2; omega)) Tryz.call141 ?_
      refine hQ1 _ _ (S_ ?_);clear hQ1 Q1
      refine c_ (fun hc4 => ?_) fun hc4 => ?_
      ·
        refine g_ [4] ?_
        refine e_ Tryz.results141 ?_
        first
        | exact True.intro
        | clear ih hQ
          simp only [formD, *, ↓reduceIte, Bool.false_eq_true] <;> first | exact (all_no hi2 hc4).symm | exact (all_yes hi hc3 hall).symm
      refine g_ [1,2,5] ?_
      refine .of ⟨n - 1, by omega, i + 1, M, by omega, hM, ?_, rfl⟩ ?_ ?_ ?_ rfl rfl (Nat.le_refl _) rfl
      · rw [take_all _ _ _ hi2, hall]; simp at hc4; simp [hc4]
      all_goals exact L_
    refine g_ [4] ?_
    refine e_ Tryz.results141 ?_
    first
    | exact True.intro
    | clear ih hQ
      simp only [formD, *, ↓reduceIte, Bool.false_eq_true] <;> first | exact (all_no hi2 hc4).symm | exact (all_yes hi hc3 hall).symm
def manyD : Nat → Ex → Nat
  | 0, _ => 1
  | d + 1, e => 1 + (e.kids.map (manyD d)).sum
theorem manyD_le (d : Nat) : ∀ e : Ex, manyD d e ≤ e.sz := by
  induction d with
  | zero => intro e; exact e.sz_pos
  | succ d ih =>
    intro e
    have h : ∀ l : List Ex, (l.map (manyD d)).sum ≤ Ex.szL l := by
      intro l
      induction l with
      | nil => simp [Ex.szL]
      | cons x l ihl => simp only [List.map_cons, List.sum_cons, Ex.szL]; have := ih x; omega
    have := h e.kids
    rw [Ex.sz_eq]; simp only [manyD]; omega
theorem take_sum {α : Type} [Inhabited α] (f : α → Nat) (l : List α) (i : Nat) (h : i < l.length) : ((l.take (i + 1)).map f).sum = ((l.take i).map f).sum + f (l.getD i default) := by
  rw [List.take_succ_eq_append_getElem h, List.map_append, List.sum_append]
  simp [List.getD, h]
theorem take_sum_le {α : Type} (f : α → Nat) (l : List α) (i : Nat) : ((l.take i).map f).sum ≤ (l.map f).sum := by
  have : (l.map f).sum = ((l.take i).map f).sum + ((l.drop i).map f).sum := by rw [← List.sum_append, ← List.map_append, List.take_append_drop]
  omega
theorem l3Many_ok (d : Nat) : ∀ (e : Ex) (deep : Int), deep.toNat = d → deep ≤ 1000000 → e.sz ≤ 1099511627776 → PureF Tryz.prog 142 [.agg e.cs, .int .i64 deep] [.int .i64 (manyD d e : Nat)] := by
  induction d with
  | zero =>
    intro e deep hd hdl hs
    have hlen := e.kids_len
    refine pureF_of Tryz.func142 rfl Tryz.ntmps142 (by simp) T_ ?_
    intro f0 B Q hQ
    have hlt : decide (deep > 0) = false := by simp; omega
    refine g_ [1,2] ?_
    refine g_ [1,2,5] ?_
    refine g_ [1,2,5,6] ?_
    refine n_ ?_
    refine wpM_loopS (fun s n s' => s' = s) (0) ?_ ?_
    ·
      exact .here rfl
    rintro n s' rfl
    try refine S_ ?_
    refine gD_ [1,2,5,6,15] ?_
    refine c_ (fun hc0 => ?_) fun hc0 => ?_
    · simp [hlt] at hc0
    refine g_ [4] ?_
    refine e_ Tryz.results142 ?_
    first
    | exact True.intro
    | rfl
  | succ d ih =>
    intro e deep hd hdl hs
    have hlen := e.kids_len
    refine pureF_of Tryz.func142 rfl Tryz.ntmps142 (by simp) T_ ?_
    intro f0 B Q hQ
    have hlt : decide (deep > 0) = true := by simp; omega
    have hmx := manyD_le (d + 1) e
    refine g_ [1,2] ?_
    refine g_ [1,2,5] ?_
    refine g_ [1,2,5,6] ?_
    refine n_ ?_
    refine wpM_loopS (fun s n s' => ∃ i M : Nat, i + n = e.kids.length ∧ s.M ≤ M ∧ s' = { s with env := setE 6 (.int .i64 (i : Nat)) (setE 5 (.int .i64 ((1 + ((e.kids.take i).map (manyD d)).sum : Nat) : Int)) s.env), M := M }) (e.kids.length) ?_ ?_
    ·
      refine .of ⟨0, _, by omega, Nat.le_refl _, rfl⟩ ?_ ?_ ?_ rfl rfl (Nat.le_refl _) rfl <;> exact L_
    rintro n s' ⟨i, M, hi, hM, rfl⟩
    try refine S_ ?_
    refine n_ ?_
    refine wpM_regionK [1,2,5,6,15] rfl fun Q1 hQ1 => ?_
    simp (contextual := true) (maxSteps := 1000000) (implicitDefEqProofs := false) (disch := first | omega | (simp only [decide_eq_true_eq, decide_eq_false_iff_not, Bool.and_eq_true, Bool.or_eq_false_iff, Bool.not_eq_true'] at *; omega)) only [go_sem, hlt, Bool.and_true]
    refine hQ1 _ _ (S_ ?_);clear hQ1 Q1
    refine c_ (fun hc0 => ?_) fun hc0 => ?_
    ·
      have hi2 : i < e.kids.length := by omega
      have hsum := take_sum (manyD d) e.kids i hi2
      have hle := take_sum_le (manyD d) e.kids (i + 1)
      simp only [manyD] at hmx
      rw [hsum] at hle
      refine n_ ?_
      refine wpM_regionK [1,2,5,6] rfl fun Q1 hQ1 => ?_
      refine S_ ?_
      refine cp_ (ih (e.kids.getD i default) (deep - 1) (by omega) (by omega) (by have := Ex.kid_sz hi2; omega)) Tryz.call142 ?_
      refine hQ1 _ _ (S_ ?_);clear hQ1 Q1
      refine g_ [1,2,5,6] ?_
      refine .of ⟨n - 1, by omega, i + 1, M, by omega, hM, rfl⟩ ?_ ?_ ?_ rfl rfl (Nat.le_refl _) rfl
      · simp -implicitDefEqProofs (disch := omega) only [go_sem, PV.int.injEq]
        rw [hsum]
        constructor <;> omega
      all_goals exact L_
    refine g_ [4] ?_
    refine e_ Tryz.results142 ?_
    first
    | exact True.intro
    | have hie : i = e.kids.length := by omega
      simp only [manyD]
      rw [hie, List.take_of_length_le (Nat.le_refl _)]
def Ex.ok (e : Ex) : Bool := formD 6 e && decide (manyD 6 e ≤ 14)
theorem exprOk_ok (e : Ex) (hs : e.sz ≤ 1099511627776) : PureF Tryz.prog 101 [.agg e.cs] [.bool e.ok] := by
  refine pureF_of Tryz.func101 rfl Tryz.ntmps101 (by simp) T_ ?_
  intro f0 B Q hQ
  refine g_ [1] ?_
  refine n_ ?_
  refine wpM_regionK [2] rfl fun Q1 hQ1 => ?_
  refine SD_ ?_
  refine cpD_ (l3Form_ok 6 e 6 rfl (by omega) hs) Tryz.call141 ?_
  first | refine cg_ (fun hb => l3Many_ok 6 e 6 rfl (by omega) hs) Tryz.call142 ?_ | refine cpD_ (l3Many_ok 6 e 6 rfl (by omega) hs) Tryz.call142 ?_
  refine hQ1 _ _ (S_ ?_);clear hQ1 Q1
  refine e_ Tryz.results101 ?_
  first
  | exact True.intro
  | have : decide ((manyD 6 e : Int) ≤ 14) = decide (manyD 6 e ≤ 14) := by simp; omega
    simp only [Ex.ok, this]
end Go.Proofs.YtnmfmeehmieifaaGreat
namespace Go.Proofs.YtnmfmeehmieifaaGreat
open Go Sg
set_option linter.unusedSectionVars false
variable [Glob]
set_option maxRecDepth 100000
set_option linter.unusedSimpArgs false
set_option linter.unusedVariables false
set_option maxHeartbeats 4000000
def rowsI (l : List Int) : List (List PV) := l.map fun x => [.int .i64 x]
def rowsB (l : List Bool) : List (List PV) := l.map fun x => [.bool x]
@[go_sem] theorem rowsI_len (l : List Int) : (rowsI l).length = l.length := by simp [rowsI]
@[go_sem] theorem rowsI_getD (l : List Int) (k : Nat) (h : k < l.length) : (rowsI l).getD k [] = [.int .i64 (l.getD k 0)] := by simp [rowsI, List.getD, h]
@[go_sem] theorem rowsB_len (l : List Bool) : (rowsB l).length = l.length := by simp [rowsB]
@[go_sem] theorem rowsB_getD (l : List Bool) (k : Nat) (h : k < l.length) : (rowsB l).getD k [] = [.bool (l.getD k false)] := by simp [rowsB, List.getD, h]
structure MM where
  i : List Int
  o : List Int
  v : List Int
  deriving DecidableEq, Inhabited
def MM.cs (m : MM) : List PV := [.rows 3 (rowsI m.i), .rows 3 (rowsI m.o), .rows 3 (rowsI m.v)]
@[go_sem] theorem MM.cs_eq (m : MM) : m.cs = [.rows 3 (rowsI m.i), .rows 3 (rowsI m.o), .rows 3 (rowsI m.v)] := rfl
def listOk (l : List Int) : Bool := l.all (fun x => !(cut x != x)) && (l.length : Int) == 6
theorem take_all' {α : Type} (p : α → Bool) (l : List α) (z : α) (i : Nat) (h : i < l.length) : (l.take (i + 1)).all p = ((l.take i).all p && p (l.getD i z)) := by
  rw [List.take_succ_eq_append_getElem h, List.all_append]
  simp [List.getD, h]
theorem all_no' {α : Type} {p : α → Bool} {l : List α} {z : α} {i : Nat} (h : i < l.length) (hp : p (l.getD i z) = false) : l.all p = false := by
  rw [List.all_eq_false]
  refine ⟨l.getD i z, ?_, by simpa using hp⟩
  rw [List.getD_eq_getElem?_getD, List.getElem?_eq_getElem h]; exact List.getElem_mem h
theorem all_yes' {α : Type} {p : α → Bool} {l : List α} {i n : Nat} (hi : i + n = l.length) (h : ¬ (i : Int) < (l.length : Int)) (hp : (l.take i).all p = true) : l.all p = true := by
  have : i = l.length := by omega
  rwa [List.take_of_length_le (by omega)] at hp
theorem l2List_ok (l : List Int) (hl : l.length ≤ 1099511627776) : PureF Tryz.prog 103 [.rows 3 (rowsI l)] [.bool (listOk l)] := by
  refine pureF_of Tryz.func103 rfl Tryz.ntmps103 (by simp) T_ ?_
  intro f0 B Q hQ
  refine g_ [0] ?_
  refine g_ [0,3] ?_
  refine n_ ?_
  refine wpM_loopS (fun s n s' => ∃ (i0 M0 : Nat) , i0 + n = l.length ∧ s.M ≤ M0 ∧ ((l.take i0).all (fun x => !(cut x != x)) = true) ∧ s' = { s with env := setE 3 (.int .i64 (i0 : Nat)) s.env, M := M0 }) (l.length) ?_ ?_
  ·
    refine .of' _ _ ⟨0, _, by omega, Nat.le_refl _, by simp, rfl⟩ ?_ ?_ ?_ <;> exact L_
  rintro n0 s' ⟨i0, M0, hi0, hM0, hv0, rfl⟩
  try dsimp only at hM0
  try refine S_ ?_
  refine g_ [0,3,7] ?_
  refine c_ (fun hc0 => ?_) fun hc0 => ?_
  ·
    have hl0 : i0 < l.length := by omega
    refine n_ ?_
    refine dr_ mixed [0,3,19] 0 0 [] [⟨[0],[],[],[],false⟩,⟨[3],[],[],[],false⟩,⟨[10,11],[],[],[],false⟩,⟨[12],[],[],[],false⟩,⟨[13],[],[],[],true⟩,⟨[0],[],[],[],false⟩,⟨[3],[],[],[],false⟩,⟨[15,16],[],[],[],false⟩,⟨[17],[],[],[],false⟩,⟨[14,18],[],[],[],false⟩] [0,1,2,3,5,6,7,8,4,9] [[],[],[0,1],[0,1,2],[0,1,2,3],[],[],[5,6],[5,6,7],[0,1,2,3,4,5,6,7,8]] 0 ?_
    intro O A K hO hA hK;simp only [atL_cons,atL_nil,Nat.reduceAdd,Nat.zero_add] at hO hA
    refine SO_ ?_
    refine lp_ (cut_ok (l.getD i0 0)) Tryz.call143 ?_
    refine hK _ (S_ ?_);clear hK K hO hA O A
    refine c_ (fun hc1 => ?_) fun hc1 => ?_
    ·
      refine g_ [2] ?_
      refine e_ Tryz.results103 ?_
      first
      | exact True.intro
      | first | (rw [listOk, all_no' (z := 0) hl0 (by simpa using hc1)]; rfl) | (rw [listOk, all_yes' hi0 hc0 hv0]; rfl)
    refine g_ [0,3] ?_
    refine .of' _ _ ⟨n0 - 1, by omega, i0 + 1, _, by omega, M_, ?_, rfl⟩ L_ L_ L_
    rw [take_all' _ _ 0 _ hl0, hv0, hc1]; rfl
  refine g_ [2] ?_
  refine e_ Tryz.results103 ?_
  first
  | exact True.intro
  | first | (rw [listOk, all_no' (z := 0) hl0 (by simpa using hc1)]; rfl) | (rw [listOk, all_yes' hi0 hc0 hv0]; rfl)
def MM.ok (m : MM) : Bool := listOk m.i && listOk m.o && listOk m.v
structure MM.Sm (m : MM) : Prop where
  i : m.i.length ≤ 1099511627776
  o : m.o.length ≤ 1099511627776
  v : m.v.length ≤ 1099511627776
theorem memOk_ok (m : MM) (hm : m.Sm) : PureF Tryz.prog 57 [.agg m.cs] [.bool m.ok] := by
  refine pureF_of Tryz.func57 rfl Tryz.ntmps57 (by simp) T_ ?_
  intro f0 B Q hQ
  refine g_ [1] ?_
  refine n_ ?_
  refine wpM_regionK [2] rfl fun Q1 hQ1 => ?_
  refine SD_ ?_
  refine cpD_ (l2List_ok m.i hm.i) Tryz.call103 ?_
  first | refine cg_ (fun hb => l2List_ok m.o hm.o) Tryz.call103 ?_ | refine cpD_ (l2List_ok m.o hm.o) Tryz.call103 ?_
  first | refine cg_ (fun hb => l2List_ok m.v hm.v) Tryz.call103 ?_ | refine cpD_ (l2List_ok m.v hm.v) Tryz.call103 ?_
  refine hQ1 _ _ (S_ ?_);clear hQ1 Q1
  refine e_ Tryz.results57 ?_
  first
  | exact True.intro
  | rfl
theorem add_ok (a b : Int) : PureF Tryz.prog 171 [.int .i64 a, .int .i64 b] [.int .i64 (cut (cut a + cut b))] := by
  have ha : -1000000 ≤ cut a ∧ cut a ≤ 1000000 := by unfold cut; omega
  have hb : -1000000 ≤ cut b ∧ cut b ≤ 1000000 := by unfold cut; omega
  refine pureF_of Tryz.func171 rfl Tryz.ntmps171 (by simp) T_ ?_
  intro f0 B Q hQ
  refine g_ [0,1] ?_
  refine n_ ?_
  refine wpM_regionK [4] rfl fun Q1 hQ1 => ?_
  refine S_ ?_
  refine cp_ (cut_ok a) Tryz.call143 ?_
  refine cp_ (cut_ok b) Tryz.call143 ?_
  refine cp_ (cut_ok (cut a + cut b)) Tryz.call143 ?_
  refine hQ1 _ _ (S_ ?_);clear hQ1 Q1
  refine e_ Tryz.results171 ?_
  first
  | exact True.intro
  | rfl
end Go.Proofs.YtnmfmeehmieifaaGreat
namespace Go.Proofs.YtnmfmeehmieifaaGreat
open Go Sg
set_option linter.unusedSectionVars false
variable [Glob]
set_option maxRecDepth 100000
set_option linter.unusedSimpArgs false
set_option linter.unusedVariables false
set_option maxHeartbeats 4000000
theorem cut_bd (a : Int) : -1000000 ≤ cut a ∧ cut a ≤ 1000000 := by unfold cut; omega
theorem cut_mul (a b : Int) : -1000000000000 ≤ cut a * cut b ∧ cut a * cut b ≤ 1000000000000 := by
  have ha := cut_bd a
  have hb := cut_bd b
  have h1 : (cut a * cut b).natAbs ≤ 1000000 * 1000000 := by
    rw [Int.natAbs_mul]
    exact Nat.mul_le_mul (by omega) (by omega)
  omega
theorem sub_ok (a b : Int) : PureF Tryz.prog 172 [.int .i64 a, .int .i64 b] [.int .i64 (cut (cut a - cut b))] := by
  have ha := cut_bd a
  have hb := cut_bd b
  refine pureF_of Tryz.func172 rfl Tryz.ntmps172 (by simp) T_ ?_
  intro f0 B Q hQ
  refine g_ [0,1] ?_
  refine n_ ?_
  refine wpM_regionK [4] rfl fun Q1 hQ1 => ?_
  refine S_ ?_
  refine cp_ (cut_ok a) Tryz.call143 ?_
  refine cp_ (cut_ok b) Tryz.call143 ?_
  refine cp_ (cut_ok (cut a - cut b)) Tryz.call143 ?_
  refine hQ1 _ _ (S_ ?_);clear hQ1 Q1
  refine e_ Tryz.results172 ?_
  first
  | exact True.intro
  | rfl
theorem mul_ok (a b : Int) : PureF Tryz.prog 173 [.int .i64 a, .int .i64 b] [.int .i64 (cut (cut a * cut b))] := by
  have ha := cut_mul a b
  refine pureF_of Tryz.func173 rfl Tryz.ntmps173 (by simp) T_ ?_
  intro f0 B Q hQ
  refine g_ [0,1] ?_
  refine n_ ?_
  refine wpM_regionK [4] rfl fun Q1 hQ1 => ?_
  refine S_ ?_
  refine cp_ (cut_ok a) Tryz.call143 ?_
  refine cp_ (cut_ok b) Tryz.call143 ?_
  refine cp_ (cut_ok (cut a * cut b)) Tryz.call143 ?_
  refine hQ1 _ _ (S_ ?_);clear hQ1 Q1
  refine e_ Tryz.results173 ?_
  first
  | exact True.intro
  | rfl
def numIs (b : Bool) : Int := if b then 1 else 0
theorem is_ok (b : Bool) : PureF Tryz.prog 121 [.bool b] [.int .i64 (numIs b)] := by
  refine pureF_of Tryz.func121 rfl Tryz.ntmps121 (by simp) T_ ?_
  intro f0 B Q hQ
  refine g_ [0] ?_
  refine g_ [3] ?_
  refine c_ (fun hc0 => ?_) fun hc0 => ?_
  ·
    refine g_ [2] ?_
    refine e_ Tryz.results121 ?_
    first
    | exact True.intro
    | simp [numIs, *]
  refine g_ [2] ?_
  refine e_ Tryz.results121 ?_
  first
  | exact True.intro
  | simp [numIs, *]
theorem on_ok (a : Int) : PureF Tryz.prog 85 [.int .i64 a] [.bool (a != 0)] := by
  refine pureF_of Tryz.func85 rfl Tryz.ntmps85 (by simp) T_ ?_
  intro f0 B Q hQ
  refine g_ [0] ?_
  refine g_ [2] ?_
  refine e_ Tryz.results85 ?_
  first
  | exact True.intro
  | rfl
def two (k a b : Int) : Int := if k == 3 then cut (cut a + cut b) else if k == 4 then cut (cut a - cut b) else if k == 5 then cut (cut a * cut b)
  else if k == 6 then numIs (decide (a < b)) else if k == 7 then numIs (a == b) else if k == 8 then numIs (a != 0 && b != 0) else numIs (a != 0 || b != 0)
theorem two_ok (k a b : Int) : PureF Tryz.prog 145 [.int .i64 k, .int .i64 a, .int .i64 b] [.int .i64 (two k a b)] := by
  refine pureF_of Tryz.func145 rfl Tryz.ntmps145 (by simp) T_ ?_
  intro f0 B Q hQ
  refine g_ [0,1,2] ?_
  refine g_ [1,2,7] ?_
  refine g_ [1,2,7,8] ?_
  refine c_ (fun hc0 => ?_) fun hc0 => ?_
  ·
    refine n_ ?_
    refine wpM_regionK [6] rfl fun Q1 hQ1 => ?_
    refine S_ ?_
    refine cp_ (add_ok a b) Tryz.call171 ?_
    refine hQ1 _ _ (S_ ?_);clear hQ1 Q1
    refine e_ Tryz.results145 ?_
    first
    | exact True.intro
    | simp only [two, *, ↓reduceIte, Bool.false_eq_true]
  refine g_ [1,2,7,13] ?_
  refine c_ (fun hc1 => ?_) fun hc1 => ?_
  ·
    refine n_ ?_
    refine wpM_regionK [6] rfl fun Q1 hQ1 => ?_
    refine S_ ?_
    refine cp_ (sub_ok a b) Tryz.call172 ?_
    refine hQ1 _ _ (S_ ?_);clear hQ1 Q1
    refine e_ Tryz.results145 ?_
    first
    | exact True.intro
    | simp only [two, *, ↓reduceIte, Bool.false_eq_true]
  refine g_ [1,2,7,18] ?_
  refine c_ (fun hc2 => ?_) fun hc2 => ?_
  ·
    refine n_ ?_
    refine wpM_regionK [6] rfl fun Q1 hQ1 => ?_
    refine S_ ?_
    refine cp_ (mul_ok a b) Tryz.call173 ?_
    refine hQ1 _ _ (S_ ?_);clear hQ1 Q1
    refine e_ Tryz.results145 ?_
    first
    | exact True.intro
    | simp only [two, *, ↓reduceIte, Bool.false_eq_true]
  refine g_ [1,2,7,23] ?_
  refine c_ (fun hc3 => ?_) fun hc3 => ?_
  ·
    refine n_ ?_
    refine wpM_regionK [6] rfl fun Q1 hQ1 => ?_
    refine S_ ?_
    refine cp_ (is_ok (decide (a < b))) Tryz.call121 ?_
    refine hQ1 _ _ (S_ ?_);clear hQ1 Q1
    refine e_ Tryz.results145 ?_
    first
    | exact True.intro
    | simp only [two, *, ↓reduceIte, Bool.false_eq_true]
  refine g_ [1,2,7,29] ?_
  refine c_ (fun hc4 => ?_) fun hc4 => ?_
  ·
    refine n_ ?_
    refine wpM_regionK [6] rfl fun Q1 hQ1 => ?_
    refine S_ ?_
    refine cp_ (is_ok (a == b)) Tryz.call121 ?_
    refine hQ1 _ _ (S_ ?_);clear hQ1 Q1
    refine e_ Tryz.results145 ?_
    first
    | exact True.intro
    | simp only [two, *, ↓reduceIte, Bool.false_eq_true]
  refine g_ [1,2,35] ?_
  refine c_ (fun hc5 => ?_) fun hc5 => ?_
  ·
    refine n_ ?_
    refine wpM_regionK [6] rfl fun Q1 hQ1 => ?_
    refine SD_ ?_
    refine cpD_ (on_ok a) Tryz.call85 ?_
    first | refine cg_ (fun hb => on_ok b) Tryz.call85 ?_ | refine cpD_ (on_ok b) Tryz.call85 ?_
    refine cpD_ (is_ok (a != 0 && b != 0)) Tryz.call121 ?_
    refine hQ1 _ _ (S_ ?_);clear hQ1 Q1
    refine e_ Tryz.results145 ?_
    first
    | exact True.intro
    | simp only [two, *, ↓reduceIte, Bool.false_eq_true]
  refine n_ ?_
  refine wpM_regionK [6] rfl fun Q1 hQ1 => ?_
  refine SD_ ?_
  refine cpD_ (on_ok a) Tryz.call85 ?_
  first | refine cg_ (fun hb => on_ok b) Tryz.call85 ?_ | refine cpD_ (on_ok b) Tryz.call85 ?_
  refine cpD_ (is_ok (a != 0 || b != 0)) Tryz.call121 ?_
  refine hQ1 _ _ (S_ ?_);clear hQ1 Q1
  refine e_ Tryz.results145 ?_
  first
  | exact True.intro
  | simp only [two, *, ↓reduceIte, Bool.false_eq_true]
def MM.get (m : MM) (a : AD) : Int := if a.kind == 1 then m.i.getD a.at'.toNat 0 else if a.kind == 2 then m.o.getD a.at'.toNat 0 else m.v.getD a.at'.toNat 0
theorem AD.ok_at {a : AD} (h : a.ok = true) : 0 ≤ a.at' ∧ a.at' < 6 := by
  simp only [AD.ok, Bool.and_eq_true, decide_eq_true_eq] at h; omega
structure MM.Six (m : MM) : Prop where
  i : m.i.length = 6
  o : m.o.length = 6
  v : m.v.length = 6
theorem MM.ok_six {m : MM} (h : m.ok = true) : m.Six := by
  simp only [MM.ok, listOk, Bool.and_eq_true, beq_iff_eq] at h
  exact ⟨by omega, by omega, by omega⟩
theorem get_ok (m : MM) (a : AD) (hm : m.Six) (ha : a.ok = true) : PureF Tryz.prog 144 [.agg m.cs, .agg a.cs] [.int .i64 (m.get a)] := by
  have h1 := hm.i
  have h2 := hm.o
  have h3 := hm.v
  have h4 := AD.ok_at ha
  refine pureF_of Tryz.func144 rfl Tryz.ntmps144 (by simp) T_ ?_
  intro f0 B Q hQ
  refine g_ [2,3] ?_
  refine g_ [2,3,6] ?_
  refine g_ [2,3,6,7] ?_
  refine c_ (fun hc0 => ?_) fun hc0 => ?_
  ·
    refine g_ [4] ?_
    refine e_ Tryz.results144 ?_
    first
    | exact True.intro
    | simp only [MM.get, *, ↓reduceIte, Bool.false_eq_true]
  refine g_ [2,3,15] ?_
  refine c_ (fun hc1 => ?_) fun hc1 => ?_
  ·
    refine g_ [4] ?_
    refine e_ Tryz.results144 ?_
    first
    | exact True.intro
    | simp only [MM.get, *, ↓reduceIte, Bool.false_eq_true]
  refine g_ [4] ?_
  refine e_ Tryz.results144 ?_
  first
  | exact True.intro
  | simp only [MM.get, *, ↓reduceIte, Bool.false_eq_true]
mutual
def Ex.of (m : MM) : Ex → Int
  | .mk k n a l => if k == 1 then n else if k == 2 then m.get a else if k == 10 then numIs (!((Ex.ofL m l).getD 0 0 != 0)) else two k ((Ex.ofL m l).getD 0 0) ((Ex.ofL m l).getD 1 0)
def Ex.ofL (m : MM) : List Ex → List Int
  | [] => []
  | e :: l => e.of m :: Ex.ofL m l
end
theorem Ex.ofL_map (m : MM) (l : List Ex) : Ex.ofL m l = l.map (Ex.of m) := by
  induction l with
  | nil => rfl
  | cons e l ih => simp [Ex.ofL, ih]
theorem Ex.ofL_get (m : MM) (l : List Ex) (k : Nat) (h : k < l.length) : (Ex.ofL m l).getD k 0 = (l.getD k default).of m := by simp [Ex.ofL_map, List.getD, h]
theorem Ex.of_eq (m : MM) (e : Ex) : e.of m = if e.kind == 1 then e.n else if e.kind == 2 then m.get e.a else if e.kind == 10 then numIs (!((Ex.ofL m e.kids).getD 0 0 != 0)) else two e.kind ((Ex.ofL m e.kids).getD 0 0) ((Ex.ofL m e.kids).getD 1 0) := by
  cases e; rfl
theorem form_inv {d : Nat} {e : Ex} (h : formD (d + 1) e = true) : kidsN e.kind = (e.kids.length : Int) ∧ (e.kind = 2 → e.a.ok = true) ∧ (∀ i, i < e.kids.length → formD d (e.kids.getD i default) = true) := by
  simp only [formD] at h
  split at h
  · cases h
  · rename_i h1
    split at h
    · cases h
    · split at h
      · cases h
      · rename_i h2 h3
        refine ⟨by simpa using h1, fun hk => ?_, fun i hi => ?_⟩
        · simp only [Bool.or_eq_true, Bool.and_eq_true, not_or, not_and, beq_iff_eq, bne_iff_ne] at h3
          have := h3.1 hk; simpa using this
        · rw [List.all_eq_true] at h
          refine h _ ?_
          rw [List.getD_eq_getElem?_getD, List.getElem?_eq_getElem hi]; exact List.getElem_mem hi
theorem kidsN_two {k : Int} (h1 : (k == 1) = false) (h2 : (k == 2) = false) (h3 : (k == 10) = false) (h : 0 ≤ kidsN k) : kidsN k = 2 := by
  simp only [kidsN, h1, h2, h3, Bool.or_false, Bool.false_eq_true, if_false] at h ⊢
  split
  · rfl
  · rename_i hh; rw [if_neg hh] at h; omega
theorem of_ok (m : MM) (hm : m.Six) (d : Nat) : ∀ (e : Ex), formD d e = true → PureF Tryz.prog 105 [.agg e.cs, .agg m.cs] [.int .i64 (e.of m)] := by
  induction d with
  | zero => intro e h; cases h
  | succ d ih =>
    intro e he
    obtain ⟨hk, ha, hkids⟩ := form_inv he
    refine pureF_of Tryz.func105 rfl Tryz.ntmps105 (by simp) T_ ?_
    intro f0 B Q hQ
    refine g_ [2,3] ?_
    refine g_ [2,3,6] ?_
    refine g_ [2,3,6,7] ?_
    refine c_ (fun hc0 => ?_) fun hc0 => ?_
    ·
      refine g_ [4] ?_
      refine e_ Tryz.results105 ?_
      first
      | exact True.intro
      | rw [Ex.of_eq m e]
        first | rw [Ex.ofL_get _ _ 0 hl1, Ex.ofL_get _ _ 1 hl2] | rw [Ex.ofL_get _ _ 0 hl1] | skip
        simp only [*, ↓reduceIte, Bool.false_eq_true]
    refine g_ [2,3,6,11] ?_
    refine c_ (fun hc1 => ?_) fun hc1 => ?_
    ·
      refine n_ ?_
      refine wpM_regionK [4] rfl fun Q1 hQ1 => ?_
      refine S_ ?_
      refine cp_ (get_ok m e.a hm (ha (by simpa using hc1))) Tryz.call144 ?_
      refine hQ1 _ _ (S_ ?_);clear hQ1 Q1
      refine e_ Tryz.results105 ?_
      first
      | exact True.intro
      | rw [Ex.of_eq m e]
        first | rw [Ex.ofL_get _ _ 0 hl1, Ex.ofL_get _ _ 1 hl2] | rw [Ex.ofL_get _ _ 0 hl1] | skip
        simp only [*, ↓reduceIte, Bool.false_eq_true]
    refine g_ [2,3,17] ?_
    refine c_ (fun hc2 => ?_) fun hc2 => ?_
    ·
      have hkn : kidsN e.kind = 1 := by have : e.kind = 10 := by simpa using hc2
                                        rw [this]; rfl
      have hl1 : 0 < e.kids.length := by omega
      refine n_ ?_
      refine dr_ mixed [4] 0 2 [B, B+1] [⟨[2],[],[],[],false⟩,⟨[19],[0],[],[],false⟩,⟨[20],[],[],[],false⟩,⟨[21],[],[],[],false⟩,⟨[3],[1],[],[],false⟩,⟨[22,23],[],[],[],true⟩,⟨[24],[],[],[],true⟩,⟨[25],[],[],[],false⟩,⟨[26],[],[],[],true⟩,⟨[27],[],[],[],false⟩] [0,1,2,3,4,5,6,7,8,9] [[],[0],[0,1],[0,1,2],[],[0,1,2,3,4],[0,1,2,3,4,5],[0,1,2,3,4,5,6],[0,1,2,3,4,5,6,7],[0,1,2,3,4,5,6,7,8]] 2 ?_
      intro O A K hO hA hK;simp only [atL_cons,atL_nil,Nat.reduceAdd,Nat.zero_add] at hO hA
      refine SO_ ?_
      refine lp_ (ih (e.kids.getD 0 default) (hkids 0 hl1)) Tryz.call105 ?_
      refine lp_ (on_ok ((e.kids.getD 0 default).of m)) Tryz.call85 ?_
      refine lp_ (is_ok (!((e.kids.getD 0 default).of m != 0))) Tryz.call121 ?_
      refine hK _ (S_ ?_);clear hK K hO hA O A
      refine e_ Tryz.results105 ?_
      first
      | exact True.intro
      | rw [Ex.of_eq m e]
        first | rw [Ex.ofL_get _ _ 0 hl1, Ex.ofL_get _ _ 1 hl2] | rw [Ex.ofL_get _ _ 0 hl1] | skip
        simp only [*, ↓reduceIte, Bool.false_eq_true]
    have hkn : kidsN e.kind = 2 := kidsN_two hc0 hc1 hc2 (by omega)
    have hl1 : 0 < e.kids.length := by omega
    have hl2 : 1 < e.kids.length := by omega
    refine n_ ?_
    refine dr_ mixed [4] 0 2 [B, B+1] [⟨[2],[],[],[],false⟩,⟨[28],[0],[],[],false⟩,⟨[2],[],[],[],false⟩,⟨[30],[0],[],[],false⟩,⟨[31],[],[],[],false⟩,⟨[32],[],[],[],false⟩,⟨[3],[1],[],[],false⟩,⟨[33,34],[],[],[],true⟩,⟨[2],[],[],[],false⟩,⟨[36],[0],[],[],false⟩,⟨[37],[],[],[],false⟩,⟨[38],[],[],[],false⟩,⟨[3],[1],[],[],false⟩,⟨[39,40],[],[],[],true⟩,⟨[29,35,41],[],[],[],true⟩,⟨[42],[],[],[],false⟩] [0,1,2,3,4,5,6,8,9,10,11,12,7,13,14,15] [[],[0],[],[2],[2,3],[2,3,4],[],[2,3,4,5,6],[],[8],[8,9],[8,9,10],[],[2,3,4,5,6,7,8,9,10,11,12],[0,1,2,3,4,5,6,7,8,9,10,11,12,13],[0,1,2,3,4,5,6,7,8,9,10,11,12,13,14]] 2 ?_
    intro O A K hO hA hK;simp only [atL_cons,atL_nil,Nat.reduceAdd,Nat.zero_add] at hO hA
    refine SO_ ?_
    refine lp_ (ih (e.kids.getD 0 default) (hkids 0 hl1)) Tryz.call105 ?_
    refine lp_ (ih (e.kids.getD 1 default) (hkids 1 hl2)) Tryz.call105 ?_
    refine lp_ (two_ok e.kind ((e.kids.getD 0 default).of m) ((e.kids.getD 1 default).of m)) Tryz.call145 ?_
    refine hK _ (S_ ?_);clear hK K hO hA O A
    refine e_ Tryz.results105 ?_
    first
    | exact True.intro
    | rw [Ex.of_eq m e]
      first | rw [Ex.ofL_get _ _ 0 hl1, Ex.ofL_get _ _ 1 hl2] | rw [Ex.ofL_get _ _ 0 hl1] | skip
      simp only [*, ↓reduceIte, Bool.false_eq_true]
end Go.Proofs.YtnmfmeehmieifaaGreat
namespace Go.Proofs.YtnmfmeehmieifaaGreat
open Go Sg
set_option linter.unusedSectionVars false
variable [Glob]
set_option maxRecDepth 100000
set_option linter.unusedSimpArgs false
set_option linter.unusedVariables false
set_option maxHeartbeats 4000000
def bls (l : List Bool) : List PV := l.map PV.bool
@[go_sem] theorem bls_len (l : List Bool) : (bls l).length = l.length := by simp [bls]
@[go_sem] theorem rowsB_flat (l : List Bool) : (rowsB l).flatten = bls l := by
  induction l with
  | nil => rfl
  | cons x l ih => simp only [rowsB, bls, List.map_cons, List.flatten_cons] at ih ⊢; rw [ih]; rfl
@[go_sem] theorem rowsI_flat (l : List Int) : (rowsI l).flatten = ints l := by
  induction l with
  | nil => rfl
  | cons x l ih => simp only [rowsI, ints, List.map_cons, List.flatten_cons] at ih ⊢; rw [ih]; rfl
@[go_sem] theorem idsL_ints (p : Nat → Prop) (l : List Int) : PV.idsL p (ints l) = True := by
  induction l with
  | nil => simp [ints, PV.idsL]
  | cons x l ih => simp only [ints, List.map_cons, PV.idsL, PV.ids, true_and] at ih ⊢; exact ih
@[go_sem] theorem idsL_bls (p : Nat → Prop) (l : List Bool) : PV.idsL p (bls l) = True := by
  induction l with
  | nil => simp [bls, PV.idsL]
  | cons x l ih => simp only [bls, List.map_cons, PV.idsL, PV.ids, true_and] at ih ⊢; exact ih
@[go_sem] theorem renL_ints (p : Nat → Nat) (l : List Int) : PV.renL p (ints l) = ints l := by
  induction l with
  | nil => rfl
  | cons x l ih => simp only [ints, List.map_cons, PV.renL, PV.ren] at ih ⊢; rw [ih]
@[go_sem] theorem renL_bls (p : Nat → Nat) (l : List Bool) : PV.renL p (bls l) = bls l := by
  induction l with
  | nil => rfl
  | cons x l ih => simp only [bls, List.map_cons, PV.renL, PV.ren] at ih ⊢; rw [ih]
theorem ints_nil : ([] : List PV) = ints [] := rfl
@[go_sem] theorem bls_drop (l : List Bool) (k : Nat) (h : k < l.length) : ((bls l).drop k)[0]? = some (.bool (l.getD k false)) := by simp [bls, List.getD, h]
@[go_sem high] theorem splice_bls (l : List Bool) (k : Nat) (b : Bool) (h : k < l.length) : splice (bls l) k [.bool b] = bls (l.set k b) := by
  simp only [splice, bls, List.length_cons, List.length_nil]
  rw [List.map_set, List.set_eq_take_append_cons_drop, if_pos (by simpa using h)]; simp
@[go_sem high] theorem splice_ints (l : List Int) (k : Nat) (b : Int) (h : k < l.length) : splice (ints l) k [.int .i64 b] = ints (l.set k b) := by
  simp only [splice, ints, List.length_cons, List.length_nil]
  rw [List.map_set, List.set_eq_take_append_cons_drop, if_pos (by simpa using h)]; simp
@[go_sem] theorem ints_app (l : List Int) (x : Int) : ints l ++ [.int .i64 x] = ints (l ++ [x]) := by simp [ints]
theorem rowsOf_ints {f : Nat → Option AObj} {id : Nat} {T : TypeId} {l : List Int} (h : f id = some (.cells T (ints l))) : RowsOf Tryz.prog f 3 id 0 l.length (rowsI l) := by
  refine ⟨by rw [cellsOf3]; omega, by simp [rowsI], ?_, T, _, h, ?_, ?_⟩
  · intro c hc
    simp only [rowsI, List.mem_map] at hc
    obtain ⟨x, _, rfl⟩ := hc
    rw [cellsOf3]; exact ⟨rfl, rfl⟩
  · rw [cellsOf3]; simp [ints]
  · rw [cellsOf3, rowsI_flat]; simp [ints, List.take_of_length_le]
theorem rowsOf_bls {f : Nat → Option AObj} {id : Nat} {T : TypeId} {l : List Bool} (h : f id = some (.cells T (bls l))) : RowsOf Tryz.prog f 4 id 0 l.length (rowsB l) := by
  refine ⟨by rw [cellsOf4]; omega, by simp [rowsB], ?_, T, _, h, ?_, ?_⟩
  · intro c hc
    simp only [rowsB, List.mem_map] at hc
    obtain ⟨x, _, rfl⟩ := hc
    rw [cellsOf4]; exact ⟨rfl, rfl⟩
  · rw [cellsOf4]; simp [bls]
  · rw [cellsOf4, rowsB_flat]; simp [bls, List.take_of_length_le]
@[go_sem] theorem ints_nil' : ints [] = [] := rfl
def ocs (x y z : Nat) : List PV := [.sl 3 x 0 6, .sl 3 y 0 6, .sl 3 z 0 6]
@[go_sem] theorem ocs_eq (x y z : Nat) : ocs x y z = [.sl 3 x 0 6, .sl 3 y 0 6, .sl 3 z 0 6] := rfl
def MM.ol (m : MM) (x y z : Nat) : List (Nat × AObj) := [(x, .cells 3 (ints m.i)), (y, .cells 3 (ints m.o)), (z, .cells 3 (ints m.v))]
@[go_sem] theorem MM.ol_eq (m : MM) (x y z : Nat) : m.ol x y z = [(x, .cells 3 (ints m.i)), (y, .cells 3 (ints m.o)), (z, .cells 3 (ints m.v))] := rfl
def MM.ou (m : MM) (x y z : Nat) : List (Nat × Option AObj) := [(x, some (.cells 3 (ints m.i))), (y, some (.cells 3 (ints m.o))), (z, some (.cells 3 (ints m.v)))]
@[go_sem] theorem MM.ou_eq (m : MM) (x y z : Nat) : m.ou x y z = [(x, some (.cells 3 (ints m.i))), (y, some (.cells 3 (ints m.o))), (z, some (.cells 3 (ints m.v)))] := rfl
def MM.tb (m : MM) (x y z : Nat) : List (TypeId × Nat × Nat × Nat × List (List PV)) := [(3, x, 0, 6, rowsI m.i), (3, y, 0, 6, rowsI m.o), (3, z, 0, 6, rowsI m.v)]
theorem MM.sub (m : MM) {x y z : Nat} (h1 : x ≠ y) (h2 : x ≠ z) (h3 : y ≠ z) : PV.subL (thOf (m.tb x y z)) (ocs x y z) = m.cs := by
  simp [ocs, MM.cs, PV.subL, PV.sub, thOf, MM.tb, h1, h2, h3]
theorem rowsOf_ints' {f : Nat → Option AObj} {id n : Nat} {T : TypeId} {l : List Int} (h : f id = some (.cells T (ints l))) (hn : l.length = n) : RowsOf Tryz.prog f 3 id 0 n (rowsI l) := by subst hn; exact rowsOf_ints h
theorem MM.tb_ok (m : MM) (hm : m.Six) {f : Nat → Option AObj} {x y z : Nat} (hx : f x = some (.cells 3 (ints m.i))) (hy : f y = some (.cells 3 (ints m.o))) (hz : f z = some (.cells 3 (ints m.v))) : ∀ q ∈ m.tb x y z, RowsOf Tryz.prog f q.1 q.2.1 q.2.2.1 q.2.2.2.1 q.2.2.2.2 := by
  intro q hq
  simp only [MM.tb, List.mem_cons, List.not_mem_nil, or_false] at hq
  rcases hq with rfl | rfl | rfl
  · exact rowsOf_ints' hx hm.i
  · exact rowsOf_ints' hy hm.o
  · exact rowsOf_ints' hz hm.v
theorem MM.frz (m : MM) (hm : m.Six) {f : Nat → Option AObj} {x y z : Nat} (hx : f x = some (.cells 3 (ints m.i))) (hy : f y = some (.cells 3 (ints m.o))) (hz : f z = some (.cells 3 (ints m.v))) : ∀ q ∈ m.tb x y z, q.2.1 ∈ [x, y, z] ∧ RowsOf Tryz.prog f q.1 q.2.1 q.2.2.1 q.2.2.2.1 q.2.2.2.2 := by
  intro q hq
  refine ⟨?_, m.tb_ok hm hx hy hz q hq⟩
  simp only [MM.tb, List.mem_cons, List.not_mem_nil, or_false] at hq
  rcases hq with rfl | rfl | rfl <;> simp
mutual
theorem sub_flatE (θ : TypeId → Nat → Nat → Nat → Option PV) : (e : Ex) → PV.subL θ e.cs = e.cs
  | .mk k n a l => by simp [Ex.cs, PV.subL, PV.sub]
end
theorem of_okO (m : MM) (hm : m.Six) {x y z : Nat} (h1 : x ≠ y) (h2 : x ≠ z) (h3 : y ≠ z) (e : Ex) (h : formD 6 e = true) : CallF Tryz.prog 105 [.agg e.cs, .agg (ocs x y z)] (m.ol x y z) 0 (fun _ o => o = { rs := [.int .i64 (e.of m)] }) := by
  refine CallF.borrow (m.tb x y z) rfl rfl (m.tb_ok hm (by simp [MM.ol, lk]) (by simp [MM.ol, lk, h1]) (by simp [MM.ol, lk, h2, h3])) ?_
  have := of_ok m hm 6 e h
  simp only [PV.subL, PV.sub, m.sub h1 h2 h3, sub_flatE]
  exact this
theorem sub_rowsB (θ : TypeId → Nat → Nat → Nat → Option PV) (e : TypeId) (r : List (List PV)) : PV.sub θ (.rows e r) = .rows e r := rfl
@[go_sem low] theorem rep_bls (n : Nat) : rep n [.bool false] = bls (List.replicate n false) := by
  induction n with
  | zero => rfl
  | succ n ih => simp only [rep, bls, List.replicate_succ, List.map_cons, List.flatten_cons] at ih ⊢; rw [ih]; rfl
@[go_sem low] theorem rep_ints (n : Nat) : rep n [.int .i64 0] = ints (List.replicate n 0) := by
  induction n with
  | zero => rfl
  | succ n ih => simp only [rep, ints, List.replicate_succ, List.map_cons, List.flatten_cons] at ih ⊢; rw [ih]; rfl
theorem rowsOf_bls' {f : Nat → Option AObj} {id n : Nat} {T : TypeId} (l : List Bool) (h : f id = some (.cells T (bls l))) (hn : l.length = n) : RowsOf Tryz.prog f 4 id 0 n (rowsB l) := by subst hn; exact rowsOf_bls h
theorem frz_bls {id n : Nat} {f : Nat → Option AObj} {T : TypeId} {l : List Bool} (h : f id = some (.cells T (bls l))) (hn : l.length = n) : ∀ x ∈ [((4 : TypeId), id, 0, n, rowsB l)], x.2.1 ∈ [id] ∧ RowsOf Tryz.prog f x.1 x.2.1 x.2.2.1 x.2.2.2.1 x.2.2.2.2 := by
  intro x hx
  simp only [List.mem_cons, List.not_mem_nil, or_false] at hx
  subst hx; subst hn
  exact ⟨by simp, rowsOf_bls h⟩
def MM.put (m : MM) (a : AD) (n : Int) : MM := if a.kind == 2 then { m with o := m.o.set a.at'.toNat (cut n) } else if a.kind == 3 then { m with v := m.v.set a.at'.toNat (cut n) } else m
theorem MM.put2 {m : MM} {a : AD} {n : Int} (h : (a.kind == 2) = true) : m.put a n = { m with o := m.o.set a.at'.toNat (cut n) } := by simp [MM.put, h]
theorem MM.put3 {m : MM} {a : AD} {n : Int} (h : (a.kind == 2) = false) (h3 : (a.kind == 3) = true) : m.put a n = { m with v := m.v.set a.at'.toNat (cut n) } := by simp [MM.put, h, h3]
theorem MM.put0 {m : MM} {a : AD} {n : Int} (h : (a.kind == 2) = false) (h3 : (a.kind == 3) = false) : m.put a n = m := by simp [MM.put, h, h3]
theorem MM.put_six {m : MM} (hm : m.Six) (a : AD) (n : Int) : (m.put a n).Six := by
  unfold MM.put
  split
  · exact ⟨hm.i, by simp [hm.o], hm.v⟩
  · split
    · exact ⟨hm.i, hm.o, by simp [hm.v]⟩
    · exact hm
theorem put_ok (m : MM) (a : AD) (n : Int) (x y z : Nat) (hm : m.Six) (h1 : x ≠ y) (h2 : x ≠ z) (h3 : y ≠ z) (ha : 0 ≤ a.at' ∧ a.at' < 6) :
    CallF Tryz.prog 120 [.agg (ocs x y z), .agg a.cs, .int .i64 n] (m.ol x y z) 0 (fun _ o => o = { rs := [.agg (ocs x y z)], u := (m.put a n).ou x y z }) := by
  have e1 := hm.i
  have e2 := hm.o
  have e3 := hm.v
  refine callF_of' Tryz.func120 rfl Tryz.ntmps120 (by simp) ?_
  intro f0 B ns Q hB hns hQ
  have hx : x < B := hB x (by simp [hasKey, lk, MM.ol])
  have hy : y < B := hB y (by simp [hasKey, lk, MM.ol, h1])
  have hz : z < B := hB z (by simp [hasKey, lk, MM.ol, h2, h3])
  obtain rfl : ns = [] := List.eq_nil_of_length_eq_zero hns
  refine g_ [2,3,4,6] ?_
  refine g_ [2,3,4,6,8] ?_
  refine g_ [2,3,4,6,8,9] ?_
  refine c_ (fun hc0 => ?_) fun hc0 => ?_
  ·
    refine dr_ mixed [3,6] 0 3 [B, B + 1, y] [⟨[3],[],[],[],false⟩,⟨[11],[0],[],[],false⟩,⟨[4],[],[],[],false⟩,⟨[13],[1],[],[],false⟩,⟨[2],[],[],[],false⟩,⟨[15],[],[],[],true⟩,⟨[12,14],[],[],[],false⟩,⟨[16,17],[2],[2],[],false⟩] [0,1,2,3,4,5,6,7] [[],[0],[],[2],[],[4],[0,1,2,3,4,5],[0,1,2,3,4,5,6]] 3 (htbl := by simp; omega) (hnm := by simp) ?_
    intro O A K hO hA hK;simp only [atL_cons,atL_nil,Nat.reduceAdd,Nat.zero_add] at hO hA
    refine SO_ ?_
    refine lp_ (cut_ok n) Tryz.call143 ?_
    refine hK _ (S_ ?_);clear hK K hO hA O A
    refine g_ [6] ?_
    refine wpM_ret ?_
    try refine S_ ?_
    first | rw [MM.put2 hc0] at hQ | rw [MM.put3 hc0 hc1] at hQ | rw [MM.put0 hc0 hc1] at hQ
    refine hQ _ _ (ret0 (MM.ou _ x y z) rfl rfl rfl (by rw [Tryz.results120] <;> simp (maxSteps := 1000000) -implicitDefEqProofs (disch := omega) only [go_sem] <;> rfl) rfl ?_ ?_ ?_ ?_)
    all_goals simp -implicitDefEqProofs (disch := omega) only [go_sem, h1, h2, h3, le_yes, true_or, or_true]
  refine g_ [2,3,4,6,18] ?_
  refine c_ (fun hc1 => ?_) fun hc1 => ?_
  ·
    refine dr_ mixed [3,6] 0 3 [B, B + 1, z] [⟨[3],[],[],[],false⟩,⟨[20],[0],[],[],false⟩,⟨[4],[],[],[],false⟩,⟨[22],[1],[],[],false⟩,⟨[2],[],[],[],false⟩,⟨[24],[],[],[],true⟩,⟨[21,23],[],[],[],false⟩,⟨[25,26],[2],[2],[],false⟩] [0,1,2,3,4,5,6,7] [[],[0],[],[2],[],[4],[0,1,2,3,4,5],[0,1,2,3,4,5,6]] 3 (htbl := by simp; omega) (hnm := by simp) ?_
    intro O A K hO hA hK;simp only [atL_cons,atL_nil,Nat.reduceAdd,Nat.zero_add] at hO hA
    refine SO_ ?_
    refine lp_ (cut_ok n) Tryz.call143 ?_
    refine hK _ (S_ ?_);clear hK K hO hA O A
    refine g_ [6] ?_
    refine wpM_ret ?_
    try refine S_ ?_
    first | rw [MM.put2 hc0] at hQ | rw [MM.put3 hc0 hc1] at hQ | rw [MM.put0 hc0 hc1] at hQ
    refine hQ _ _ (ret0 (MM.ou _ x y z) rfl rfl rfl (by rw [Tryz.results120] <;> simp (maxSteps := 1000000) -implicitDefEqProofs (disch := omega) only [go_sem] <;> rfl) rfl ?_ ?_ ?_ ?_)
    all_goals simp -implicitDefEqProofs (disch := omega) only [go_sem, h1, h2, h3, le_yes, true_or, or_true]
  refine g_ [6] ?_
  refine wpM_ret ?_
  try refine S_ ?_
  first | rw [MM.put2 hc0] at hQ | rw [MM.put3 hc0 hc1] at hQ | rw [MM.put0 hc0 hc1] at hQ
  refine hQ _ _ (ret0 (MM.ou _ x y z) rfl rfl rfl (by rw [Tryz.results120] <;> simp (maxSteps := 1000000) -implicitDefEqProofs (disch := omega) only [go_sem] <;> rfl) rfl ?_ ?_ ?_ ?_)
  all_goals simp -implicitDefEqProofs (disch := omega) only [go_sem, h1, h2, h3, le_yes, true_or, or_true]
theorem l2copy_ok (m : MM) (hm : m.Six) : CallF Tryz.prog 74 [.agg m.cs] [] 3 (fun ns o => ∃ x y z, ns = [x, y, z] ∧ o = { rs := [.agg (ocs x y z)], nw := m.ol x y z }) := by
  have e1 := hm.i
  have e2 := hm.o
  have e3 := hm.v
  refine callF_of' Tryz.func74 rfl Tryz.ntmps74 (by simp) ?_
  intro f0 B ns Q hB hns hQ
  obtain ⟨x, y, z, rfl⟩ : ∃ x y z, ns = [x, y, z] := by
    match ns, hns with
    | [x, y, z], _ => exact ⟨x, y, z, rfl⟩
  refine g_ [1,2] ?_
  refine n_ ?_
  refine dr_ mixed [2] 6 2 [B, B + 1, B + 2, B + 3, B + 4, B + 5, B + 6, B + 7] [⟨[],[],[],[2],false⟩,⟨[1],[],[],[],false⟩,⟨[4],[0],[],[],false⟩,⟨[3,5],[2],[2],[3],false⟩,⟨[],[],[],[4],false⟩,⟨[1],[],[],[],false⟩,⟨[8],[0],[],[],false⟩,⟨[7,9],[4],[4],[5],false⟩,⟨[],[],[],[6],false⟩,⟨[1],[],[],[],false⟩,⟨[12],[0],[],[],false⟩,⟨[11,13],[6],[6],[7],false⟩,⟨[6,10,14],[],[],[],false⟩,⟨[2,15],[1],[1],[],false⟩] [0,1,2,3,4,5,6,7,8,9,10,11,12,13] [[],[],[1],[0,1,2],[],[],[5],[0,1,2,3,4,5,6],[],[],[9],[0,1,2,3,4,5,6,7,8,9,10],[0,1,2,3,4,5,6,7,8,9,10,11],[0,1,2,3,4,5,6,7,8,9,10,11,12]] 8 ?_
  intro O A K hO hA hK;simp only [atL_cons,atL_nil,Nat.reduceAdd,Nat.zero_add] at hO hA
  refine SO_ ?_
  refine hK _ (S_ ?_);clear hK K hO hA O A
  refine wpM_ret ?_
  try refine S_ ?_
  refine hQ _ _ (retK [B + 3, B + 5, B + 7] [] (m.ol x y z) rfl rfl rfl (by rw [Tryz.results74] <;> simp (maxSteps := 1000000) -implicitDefEqProofs (disch := omega) only [go_sem] <;> rfl) ?_ ⟨x, y, z, rfl, rfl⟩ ?_ ?_ ?_ ?_ ?_ ?_)
  all_goals (first | (simp -implicitDefEqProofs (disch := omega) only [go_sem, e1, e2, e3, List.nodup_cons, List.nodup_nil, true_or, or_true, List.mem_cons, List.not_mem_nil]; done) | (simp -implicitDefEqProofs (disch := omega) only [go_sem, e1, e2, e3, List.nodup_cons, List.nodup_nil, true_or, or_true, List.mem_cons, List.not_mem_nil]; omega))
theorem range_all (p : Nat → Bool) (i : Nat) : (List.range (i + 1)).all p = ((List.range i).all p && p i) := by
  rw [List.range_succ, List.all_append]; simp
theorem range_no {p : Nat → Bool} {i n : Nat} (h : i < n) (hp : p i = false) : (List.range n).all p = false := by
  rw [List.all_eq_false]
  exact ⟨i, List.mem_range.2 h, by simpa using hp⟩
end Go.Proofs.YtnmfmeehmieifaaGreat
namespace Go.Proofs.YtnmfmeehmieifaaGreat
open Go Sg
set_option linter.unusedSectionVars false
variable [Glob]
set_option maxRecDepth 100000
set_option linter.unusedSimpArgs false
set_option linter.unusedVariables false
set_option maxHeartbeats 4000000
theorem icut_ok (n : Int) : PureF Tryz.prog 155 [.int .i64 n] [.int .i64 (cut n)] := by
  refine pureF_of Tryz.func155 rfl Tryz.ntmps155 (by simp) T_ ?_
  intro f0 B Q hQ
  refine g_ [0] ?_
  refine g_ [2] ?_
  refine e_ Tryz.results155 ?_
  first
  | exact True.intro
  | unfold cut; omega
def isNum (n : Int) : Bool := decide (n ≥ -1000000) && decide (n ≤ 1000000)
theorem isNum_cut (n : Int) : isNum n = (cut n == n) := by
  unfold isNum cut
  rw [Bool.eq_iff_iff]
  simp only [Bool.and_eq_true, decide_eq_true_eq, beq_iff_eq]
  omega
theorem isNum_ok (n : Int) : PureF Tryz.prog 148 [.int .i64 n] [.bool (isNum n)] := by
  refine pureF_of Tryz.func148 rfl Tryz.ntmps148 (by simp) T_ ?_
  intro f0 B Q hQ
  refine g_ [0] ?_
  refine gD_ [2] ?_
  refine e_ Tryz.results148 ?_
  first
  | exact True.intro
  | rfl
theorem iis_ok (b : Bool) : PureF Tryz.prog 127 [.bool b] [.int .i64 (numIs b)] := by
  refine pureF_of Tryz.func127 rfl Tryz.ntmps127 (by simp) T_ ?_
  intro f0 B Q hQ
  refine g_ [0] ?_
  refine g_ [3] ?_
  refine c_ (fun hc0 => ?_) fun hc0 => ?_
  ·
    refine g_ [2] ?_
    refine e_ Tryz.results127 ?_
    first
    | exact True.intro
    | simp [numIs, *]
  refine g_ [2] ?_
  refine e_ Tryz.results127 ?_
  first
  | exact True.intro
  | simp [numIs, *]
theorem ion_ok (a : Int) : PureF Tryz.prog 113 [.int .i64 a] [.bool (a != 0)] := by
  refine pureF_of Tryz.func113 rfl Tryz.ntmps113 (by simp) T_ ?_
  intro f0 B Q hQ
  refine g_ [0] ?_
  refine g_ [2] ?_
  refine e_ Tryz.results113 ?_
  first
  | exact True.intro
  | rfl
theorem iaddrOk_ok (a : AD) : PureF Tryz.prog 151 [.agg a.cs] [.bool a.ok] := by
  refine pureF_of Tryz.func151 rfl Tryz.ntmps151 (by simp) T_ ?_
  intro f0 B Q hQ
  refine g_ [1] ?_
  refine gD_ [2] ?_
  refine e_ Tryz.results151 ?_
  first
  | exact True.intro
  | rfl
def isTwo (k : Int) : Bool := decide (k ≥ 3) && decide (k ≤ 9)
theorem isTwo_ok (k : Int) : PureF Tryz.prog 175 [.int .i64 k] [.bool (isTwo k)] := by
  refine pureF_of Tryz.func175 rfl Tryz.ntmps175 (by simp) T_ ?_
  intro f0 B Q hQ
  refine g_ [0] ?_
  refine gD_ [2] ?_
  refine e_ Tryz.results175 ?_
  first
  | exact True.intro
  | rfl
def recOf (k : Int) : PV := if k == 1 then .iface 236 (.agg []) else if k == 2 then .iface 237 (.agg []) else if isTwo k then .iface 238 (.agg []) else if k == 10 then .iface 239 (.agg []) else .nilif
@[go_sem] theorem buildA_numReckoning : buildA Tryz.prog 236 [] = some (.agg []) := buildA_of (pl := []) (z := []) zeroA236 (placesA_struct Tryz.underlying236 rfl rfl) []
@[go_sem] theorem buildA_addrReckoning : buildA Tryz.prog 237 [] = some (.agg []) := buildA_of (pl := []) (z := []) zeroA237 (placesA_struct Tryz.underlying237 rfl rfl) []
@[go_sem] theorem buildA_twoReckoning : buildA Tryz.prog 238 [] = some (.agg []) := buildA_of (pl := []) (z := []) zeroA238 (placesA_struct Tryz.underlying238 rfl rfl) []
@[go_sem] theorem buildA_notReckoning : buildA Tryz.prog 239 [] = some (.agg []) := buildA_of (pl := []) (z := []) zeroA239 (placesA_struct Tryz.underlying239 rfl rfl) []
theorem recOf_pure (k : Int) : (recOf k).pure = true := by
  unfold recOf
  repeat' split
  all_goals rfl
theorem recOf_ok (k : Int) : PureF Tryz.prog 152 [.int .i64 k] [recOf k] := by
  refine pureF_of Tryz.func152 rfl Tryz.ntmps152 (by simp) (by simp [PV.pureL, recOf_pure]) ?_
  intro f0 B Q hQ
  refine g_ [0] ?_
  refine g_ [0,3] ?_
  refine c_ (fun hc0 => ?_) fun hc0 => ?_
  ·
    refine g_ [2] ?_
    refine e_ Tryz.results152 ?_
    first
    | exact True.intro
    | simp only [recOf, *, ↓reduceIte, Bool.false_eq_true]
  refine g_ [0,8] ?_
  refine c_ (fun hc1 => ?_) fun hc1 => ?_
  ·
    refine g_ [2] ?_
    refine e_ Tryz.results152 ?_
    first
    | exact True.intro
    | simp only [recOf, *, ↓reduceIte, Bool.false_eq_true]
  refine n_ ?_
  refine wpM_regionK [0,13] rfl fun Q1 hQ1 => ?_
  refine S_ ?_
  refine cp_ (isTwo_ok k) Tryz.call175 ?_
  refine hQ1 _ _ (S_ ?_);clear hQ1 Q1
  refine c_ (fun hc2 => ?_) fun hc2 => ?_
  ·
    refine g_ [2] ?_
    refine e_ Tryz.results152 ?_
    first
    | exact True.intro
    | simp only [recOf, *, ↓reduceIte, Bool.false_eq_true]
  refine g_ [18] ?_
  refine c_ (fun hc3 => ?_) fun hc3 => ?_
  ·
    refine g_ [2] ?_
    refine e_ Tryz.results152 ?_
    first
    | exact True.intro
    | simp only [recOf, *, ↓reduceIte, Bool.false_eq_true]
  refine g_ [2] ?_
  refine e_ Tryz.results152 ?_
  first
  | exact True.intro
  | simp only [recOf, *, ↓reduceIte, Bool.false_eq_true]
theorem kids1_ok : PureF Tryz.prog 241 [.agg []] [.int .i64 0] := by
  refine pureF_of Tryz.func241 rfl Tryz.ntmps241 (by simp) T_ ?_
  intro f0 B Q hQ
  refine g_ [] ?_
  refine g_ [2] ?_
  refine e_ Tryz.results241 ?_
  first
  | exact True.intro
  | rfl
theorem kids2_ok : PureF Tryz.prog 245 [.agg []] [.int .i64 0] := by
  refine pureF_of Tryz.func245 rfl Tryz.ntmps245 (by simp) T_ ?_
  intro f0 B Q hQ
  refine g_ [] ?_
  refine g_ [2] ?_
  refine e_ Tryz.results245 ?_
  first
  | exact True.intro
  | rfl
theorem kids3_ok : PureF Tryz.prog 250 [.agg []] [.int .i64 2] := by
  refine pureF_of Tryz.func250 rfl Tryz.ntmps250 (by simp) T_ ?_
  intro f0 B Q hQ
  refine g_ [] ?_
  refine g_ [2] ?_
  refine e_ Tryz.results250 ?_
  first
  | exact True.intro
  | rfl
theorem kids4_ok : PureF Tryz.prog 260 [.agg []] [.int .i64 1] := by
  refine pureF_of Tryz.func260 rfl Tryz.ntmps260 (by simp) T_ ?_
  intro f0 B Q hQ
  refine g_ [] ?_
  refine g_ [2] ?_
  refine e_ Tryz.results260 ?_
  first
  | exact True.intro
  | rfl
def noAddr (e : Ex) : Bool := e.a.kind == 0 && e.a.at' == 0
theorem shape1_ok (e : Ex) : PureF Tryz.prog 243 [.agg [], .agg e.cs] [.bool (isNum e.n && noAddr e)] := by
  refine pureF_of Tryz.func243 rfl Tryz.ntmps243 (by simp) T_ ?_
  intro f0 B Q hQ
  refine g_ [3] ?_
  refine n_ ?_
  refine wpM_regionK [4] rfl fun Q1 hQ1 => ?_
  refine SD_ ?_
  refine cpD_ (isNum_ok e.n) Tryz.call148 ?_
  refine hQ1 _ _ (S_ ?_);clear hQ1 Q1
  refine e_ Tryz.results243 ?_
  first
  | exact True.intro
  | rfl
theorem shape2_ok (e : Ex) : PureF Tryz.prog 247 [.agg [], .agg e.cs] [.bool (e.a.ok && e.n == 0)] := by
  refine pureF_of Tryz.func247 rfl Tryz.ntmps247 (by simp) T_ ?_
  intro f0 B Q hQ
  refine g_ [3] ?_
  refine n_ ?_
  refine wpM_regionK [4] rfl fun Q1 hQ1 => ?_
  refine SD_ ?_
  refine cpD_ (iaddrOk_ok e.a) Tryz.call151 ?_
  refine hQ1 _ _ (S_ ?_);clear hQ1 Q1
  refine e_ Tryz.results247 ?_
  first
  | exact True.intro
  | rfl
theorem shape3_ok (e : Ex) : PureF Tryz.prog 252 [.agg [], .agg e.cs] [.bool (e.n == 0 && noAddr e)] := by
  refine pureF_of Tryz.func252 rfl Tryz.ntmps252 (by simp) T_ ?_
  intro f0 B Q hQ
  refine g_ [3] ?_
  refine gD_ [4] ?_
  refine e_ Tryz.results252 ?_
  first
  | exact True.intro
  | rfl
theorem shape4_ok (e : Ex) : PureF Tryz.prog 262 [.agg [], .agg e.cs] [.bool (e.n == 0 && noAddr e)] := by
  refine pureF_of Tryz.func262 rfl Tryz.ntmps262 (by simp) T_ ?_
  intro f0 B Q hQ
  refine g_ [3] ?_
  refine gD_ [4] ?_
  refine e_ Tryz.results262 ?_
  first
  | exact True.intro
  | rfl
theorem imaker_ok (k : Nat) (hk : k < 3) (a b : Int) : PureF Tryz.prog 259 [.int .i64 (k : Int), .int .i64 a, .int .i64 b] [.int .i64 (if k = 0 then cut (cut a + cut b) else if k = 1 then cut (cut a - cut b) else cut (cut a * cut b))] := by
  have ha := cut_bd a
  have hb := cut_bd b
  have hm := cut_mul a b
  refine pureF_of Tryz.func259 rfl Tryz.ntmps259 (by simp) T_ ?_
  intro f0 B Q hQ
  refine g_ [0,1,2] ?_
  refine n_ ?_
  refine wpM_regionK [0,1,2] rfl fun Q1 hQ1 => ?_
  refine S_ ?_
  refine cp_ (icut_ok a) Tryz.call155 ?_
  refine cp_ (icut_ok b) Tryz.call155 ?_
  refine hQ1 _ _ (S_ ?_);clear hQ1 Q1
  refine g_ [1,2,11] ?_
  refine g_ [1,2,11,12] ?_
  refine c_ (fun hc0 => ?_) fun hc0 => ?_
  ·
    refine n_ ?_
    refine wpM_regionK [6] rfl fun Q1 hQ1 => ?_
    refine S_ ?_
    refine cp_ (icut_ok (cut a + cut b)) Tryz.call155 ?_
    refine hQ1 _ _ (S_ ?_);clear hQ1 Q1
    refine e_ Tryz.results259 ?_
    first
    | exact True.intro
    | simp only [beq_iff_eq, beq_eq_false_iff_ne, ne_eq] at *
      have : k = 0 ∨ k = 1 ∨ k = 2 := by omega
      rcases this with rfl | rfl | rfl <;> simp_all
  refine g_ [1,2,18] ?_
  refine c_ (fun hc1 => ?_) fun hc1 => ?_
  ·
    refine n_ ?_
    refine wpM_regionK [6] rfl fun Q1 hQ1 => ?_
    refine S_ ?_
    refine cp_ (icut_ok (cut a - cut b)) Tryz.call155 ?_
    refine hQ1 _ _ (S_ ?_);clear hQ1 Q1
    refine e_ Tryz.results259 ?_
    first
    | exact True.intro
    | simp only [beq_iff_eq, beq_eq_false_iff_ne, ne_eq] at *
      have : k = 0 ∨ k = 1 ∨ k = 2 := by omega
      rcases this with rfl | rfl | rfl <;> simp_all
  refine n_ ?_
  refine wpM_regionK [6] rfl fun Q1 hQ1 => ?_
  refine S_ ?_
  refine cp_ (icut_ok (cut a * cut b)) Tryz.call155 ?_
  refine hQ1 _ _ (S_ ?_);clear hQ1 Q1
  refine e_ Tryz.results259 ?_
  first
  | exact True.intro
  | simp only [beq_iff_eq, beq_eq_false_iff_ne, ne_eq] at *
    have : k = 0 ∨ k = 1 ∨ k = 2 := by omega
    rcases this with rfl | rfl | rfl <;> simp_all
theorem iadd_ok (a b : Int) : PureF Tryz.prog 256 [.int .i64 a, .int .i64 b] [.int .i64 (cut (cut a + cut b))] := by
  refine pureF_of Tryz.func256 rfl Tryz.ntmps256 (by simp) T_ ?_
  intro f0 B Q hQ
  refine g_ [0,1] ?_
  refine n_ ?_
  refine wpM_regionK [4] rfl fun Q1 hQ1 => ?_
  refine S_ ?_
  refine cp_ (imaker_ok 0 (by omega) a b) Tryz.call259 ?_
  refine hQ1 _ _ (S_ ?_);clear hQ1 Q1
  refine e_ Tryz.results256 ?_
  first
  | exact True.intro
  | rfl
theorem isub_ok (a b : Int) : PureF Tryz.prog 257 [.int .i64 a, .int .i64 b] [.int .i64 (cut (cut a - cut b))] := by
  refine pureF_of Tryz.func257 rfl Tryz.ntmps257 (by simp) T_ ?_
  intro f0 B Q hQ
  refine g_ [0,1] ?_
  refine n_ ?_
  refine wpM_regionK [4] rfl fun Q1 hQ1 => ?_
  refine S_ ?_
  refine cp_ (imaker_ok 1 (by omega) a b) Tryz.call259 ?_
  refine hQ1 _ _ (S_ ?_);clear hQ1 Q1
  refine e_ Tryz.results257 ?_
  first
  | exact True.intro
  | rfl
theorem imul_ok (a b : Int) : PureF Tryz.prog 258 [.int .i64 a, .int .i64 b] [.int .i64 (cut (cut a * cut b))] := by
  refine pureF_of Tryz.func258 rfl Tryz.ntmps258 (by simp) T_ ?_
  intro f0 B Q hQ
  refine g_ [0,1] ?_
  refine n_ ?_
  refine wpM_regionK [4] rfl fun Q1 hQ1 => ?_
  refine S_ ?_
  refine cp_ (imaker_ok 2 (by omega) a b) Tryz.call259 ?_
  refine hQ1 _ _ (S_ ?_);clear hQ1 Q1
  refine e_ Tryz.results258 ?_
  first
  | exact True.intro
  | rfl
end Go.Proofs.YtnmfmeehmieifaaGreat
namespace Go.Proofs.YtnmfmeehmieifaaGreat
open Go Sg
set_option linter.unusedSectionVars false
variable [Glob]
set_option maxRecDepth 100000
set_option linter.unusedSimpArgs false
set_option linter.unusedVariables false
set_option maxHeartbeats 4000000
theorem parts_ok (e : Ex) : CallF Tryz.prog 160 [.agg e.cs] [] 1 (fun ns o => ∃ x, ns = [x] ∧ o = { rs := [.fn (.func 176) [] [.ptr x 0]], nw := [(x, .cells 77 e.cs)] }) := by
  refine callF_of' Tryz.func160 rfl Tryz.ntmps160 (by simp) ?_
  intro f0 B ns Q hB hns hQ
  obtain ⟨x, rfl⟩ : ∃ x, ns = [x] := by
    match ns, hns with
    | [x], _ => exact ⟨x, rfl⟩
  refine g_ [1] ?_
  refine g_ [2] ?_
  refine wpM_ret ?_
  try refine S_ ?_
  refine hQ _ _ (retK [B] [] [(x, .cells 77 e.cs)] rfl rfl rfl (by rw [Tryz.results160] <;> simp (maxSteps := 1000000) -implicitDefEqProofs (disch := omega) only [go_sem] <;> rfl) ?_ ⟨x, rfl, rfl⟩ ?_ ?_ ?_ ?_ ?_ ?_)
  all_goals (first | (simp -implicitDefEqProofs (disch := omega) only [go_sem, List.nodup_cons, List.nodup_nil, true_or, or_true, List.mem_cons, List.not_mem_nil]; done) | (simp -implicitDefEqProofs (disch := omega) only [go_sem, List.nodup_cons, List.nodup_nil, true_or, or_true, List.mem_cons, List.not_mem_nil]; omega))
def rfs : Code → List (Code × Code)
  | .seq a b | .cond _ a b => rfs a ++ rfs b
  | .block _ a | .loop a => rfs a
  | .rangeFunc _ _ a b => [(a, b)]
  | _ => []
def recNil (k : Int) : Bool := !(k == 1 || k == 2 || isTwo k || k == 10)
def kidsR (k : Int) : Int := if k == 10 then 1 else if isTwo k then 2 else 0
def shapeR (e : Ex) : Bool := if e.kind == 1 then isNum e.n && noAddr e else if e.kind == 2 then e.a.ok && e.n == 0 else e.n == 0 && noAddr e
@[go_sem] theorem eql_rec (x : Operand) (v : Value) (k : Int) : binOpA Tryz.prog .eql 218 x (.const v) (recOf k) .nilif = some (.bool (recNil k)) := by
  unfold recOf recNil
  cases h1 : k == 1 <;> cases h2 : k == 2 <;> cases h3 : isTwo k <;> cases h4 : k == 10 <;> simp [binOpA, eqPair, eqA, Tryz.underlying218, isConstOp]
@[go_sem] theorem isConstOp_const (v : Value) : isConstOp (.const v) = true := rfl
theorem rec_meth (k : Int) (hn : recNil k = false) : ∃ t fk fs, recOf k = .iface t (.agg []) ∧
    (∀ args w, (callFunc fk args).run Tryz.prog w = .ok (.enter fk args) w) ∧ (∀ (v : Value) w, (method (Tryz.prog.types.size + Made.depth) t v "loop.example/stopgate/impl.kids").run Tryz.prog w = .ok (fk, v) w) ∧ PureF Tryz.prog fk [.agg []] [.int .i64 (kidsR k)] ∧
    (∀ args w, (callFunc fs args).run Tryz.prog w = .ok (.enter fs args) w) ∧ (∀ (v : Value) w, (method (Tryz.prog.types.size + Made.depth) t v "loop.example/stopgate/impl.shape").run Tryz.prog w = .ok (fs, v) w) ∧ (∀ e : Ex, e.kind = k → PureF Tryz.prog fs [.agg [], .agg e.cs] [.bool (shapeR e)]) := by
  by_cases h1 : k = 1
  · subst h1
    refine ⟨236, 241, 243, rfl, Tryz.call241, method_run info236 Tryz.underlying236 (by simp) (by rfl) rfl rfl, kids1_ok, Tryz.call243, method_run info236 Tryz.underlying236 (by simp) (by rfl) rfl rfl, fun e he => ?_⟩
    have : shapeR e = (isNum e.n && noAddr e) := by simp [shapeR, he]
    rw [this]; exact shape1_ok e
  by_cases h2 : k = 2
  · subst h2
    refine ⟨237, 245, 247, rfl, Tryz.call245, method_run info237 Tryz.underlying237 (by simp) (by rfl) rfl rfl, kids2_ok, Tryz.call247, method_run info237 Tryz.underlying237 (by simp) (by rfl) rfl rfl, fun e he => ?_⟩
    have : shapeR e = (e.a.ok && e.n == 0) := by simp [shapeR, he]
    rw [this]; exact shape2_ok e
  by_cases h3 : isTwo k = true
  · have h10 : (k == 10) = false := by
      simp only [isTwo, Bool.and_eq_true, decide_eq_true_eq] at h3
      simp; omega
    have hk : kidsR k = 2 := by simp [kidsR, h3, h10]
    rw [hk]
    refine ⟨238, 250, 252, by simp [recOf, h1, h2, h3], Tryz.call250, method_run info238 Tryz.underlying238 (by simp) (by rfl) rfl rfl, kids3_ok, Tryz.call252, method_run info238 Tryz.underlying238 (by simp) (by rfl) rfl rfl, fun e he => ?_⟩
    have : shapeR e = (e.n == 0 && noAddr e) := by simp [shapeR, he, h1, h2]
    rw [this]; exact shape3_ok e
  have h10 : k = 10 := by
    simp only [Bool.not_eq_true] at h3
    simpa [recNil, h1, h2, h3] using hn
  subst h10
  refine ⟨239, 260, 262, rfl, Tryz.call260, method_run info239 Tryz.underlying239 (by simp) (by rfl) rfl rfl, kids4_ok, Tryz.call262, method_run info239 Tryz.underlying239 (by simp) (by rfl) rfl rfl, fun e he => ?_⟩
  have : shapeR e = (e.n == 0 && noAddr e) := by simp [shapeR, he]
  rw [this]; exact shape4_ok e
def badE (n : Int) (deep : Int) (e : Ex) : Bool := decide (n > 14) || decide (deep ≥ 6) || recNil e.kind || (e.kids.length : Int) != kidsR e.kind || !shapeR e
mutual
def vis : Ex → Nat → Nat → Option Nat
  | .mk k n a l, deep, c => if badE ((c : Int) + 1) (deep : Int) (.mk k n a l) then none else visL l (deep + 1) (c + 1)
def visL : List Ex → Nat → Nat → Option Nat
  | [], _, c => some c
  | e :: l, deep, c => match vis e deep c with
    | none => none
    | some c' => visL l deep c'
end
theorem vis_eq (e : Ex) (deep c : Nat) : vis e deep c = if badE ((c : Int) + 1) (deep : Int) e then none else visL e.kids (deep + 1) (c + 1) := by cases e; rfl
theorem visL_append (l l' : List Ex) (deep : Nat) : ∀ c, visL (l ++ l') deep c = (visL l deep c).bind (visL l' deep) := by
  induction l with
  | nil => intro c; rfl
  | cons e l ih =>
    intro c
    simp only [List.cons_append, visL]
    cases vis e deep c with
    | none => rfl
    | some c' => exact ih c'
theorem visL_take (l : List Ex) (deep c i : Nat) (h : i < l.length) : visL (l.take (i + 1)) deep c = (visL (l.take i) deep c).bind (vis (l.getD i default) deep) := by
  rw [List.take_succ_eq_append_getElem h, visL_append]
  have : l.getD i default = l[i] := by simp [List.getD, h]
  rw [this]
  congr 1
  funext c'
  simp only [visL]
  cases vis l[i] deep c' <;> rfl
theorem visL_none {l : List Ex} {deep c i : Nat} (h : visL (l.take i) deep c = none) : visL l deep c = none := by
  conv => lhs; rw [← List.take_append_drop i l]
  rw [visL_append, h]; rfl
def okSt (x : Nat) (rc : AObj) (b n : Nat) : List (Nat × AObj) :=
  [(x + 7, .cells 3 [.int .i64 (n : Int)]), (x + 5, rc), (x + 2, .cells 3 [.int .i64 (n : Int)]), (x + 1, .cells 4 [.bool false]),
   (x + 6, .cells 240 [.fn (.yield b) [] []]), (x + 8, .cells 122 [.fn (.func 177) [] [.ptr (x + 7) 0, .ptr (x + 6) 0, .ptr (x + 8) 0]])]
def okRec (x b d fn : Nat) (fv : PV) (asg body : Code) (st : LoopState) (pe : Option Code) : AObj := .loop b d st pe fn 40 [(2, .ptr (x + 1) 0), (3, .ptr (x + 2) 0), (8, fv)] #[9, 10] asg body
@[go_sem] theorem okRec_eq (x b d fn : Nat) (fv : PV) (asg body : Code) (st : LoopState) (pe : Option Code) : okRec x b d fn fv asg body st pe = .loop b d st pe fn 40 [(2, .ptr (x + 1) 0), (3, .ptr (x + 2) 0), (8, fv)] #[9, 10] asg body := rfl
@[go_sem] theorem okSt_eq (x : Nat) (rc : AObj) (b n : Nat) : okSt x rc b n = [(x + 7, .cells 3 [.int .i64 (n : Int)]), (x + 5, rc), (x + 2, .cells 3 [.int .i64 (n : Int)]), (x + 1, .cells 4 [.bool false]),
   (x + 6, .cells 240 [.fn (.yield b) [] []]), (x + 8, .cells 122 [.fn (.func 177) [] [.ptr (x + 7) 0, .ptr (x + 6) 0, .ptr (x + 8) 0]])] := rfl
def visQ (x b d fn : Nat) (fv : PV) (asg body : Code) (e : Ex) (deep cnt : Nat) (f0 : Nat → Option AObj) (B : Nat) (ex : ExitA) (s : MS) : Prop :=
  ex = .ret ∧ ((∃ cnt' M', vis e deep cnt = some cnt' ∧ cnt' ≤ 14 ∧ B ≤ M' ∧ s = ⟨[(7, .bool true)], okSt x (okRec x b d fn fv asg body .ready none) b cnt', f0, B, M', []⟩) ∨
    (∃ cnt' M', vis e deep cnt = none ∧ B ≤ M' ∧ s = ⟨[(7, .bool false)], okSt x (okRec x b d fn fv asg body .done (some .ret)) b cnt', f0, B, M', []⟩))
theorem walk_ok (x b d fn : Nat) (fv : PV) (asg body c : Code) (hcode : Tryz.f134.body.map rfs = some [(asg, body)]) (hc : Tryz.f177.body = some c) : ∀ (N : Nat) (e : Ex), e.sz ≤ N → e.sz ≤ 1099511627776 →
    ∀ (deep cnt : Nat) (dI : Int) (f0 : Nat → Option AObj) (B : Nat), dI = (deep : Int) → x + 9 ≤ B → deep ≤ 6 → cnt ≤ 14 →
      wpM Tryz.prog none 39 c ⟨envOf 0 [.agg e.cs, .int .i64 dI, .ptr (x + 7) 0, .ptr (x + 6) 0, .ptr (x + 8) 0], okSt x (okRec x b d fn fv asg body .ready none) b cnt, f0, B, B, []⟩ (visQ x b d fn fv asg body e deep cnt f0 B) := by
  have hcode' := Option.some.inj hcode
  simp only [rfs, List.nil_append, List.append_nil, List.cons.injEq, Prod.mk.injEq, and_true] at hcode'
  obtain ⟨hasg, hbody⟩ := hcode'
  obtain rfl : _ = c := Option.some.inj hc
  intro N
  induction N with
  | zero => intro e h; have := e.sz_pos; omega
  | succ N ih =>
    intro e hN hs deep cnt dI f0 B hdI hB hd hcn
    have hlen := e.kids_len
    refine wpM_wk ?_
    refine g_ [1,2,3,4,5] ?_
    refine g_ [1,2,3,4,5] ?_
    refine n_ ?_
    refine wpM_regionK [1,4,5,24] rfl fun Q1 hQ1 => ?_
    refine S_ ?_
    refine OpM_roundK (x + 5) rfl rfl rfl rfl (by simp -implicitDefEqProofs (disch := omega) only [go_sem]; rfl) rfl rfl ?_
    intro K' hK'
    refine wpM_code hasg ?_
    simp -implicitDefEqProofs (disch := omega) only [go_sem]
    refine g_ [2,3,4,10] ?_
    refine g_ [2,3,4,5] ?_
    refine ⟨d, none, fn, 40, [(2, .ptr (x + 1) 0), (3, .ptr (x + 2) 0), (8, fv)], #[9, 10], asg, body, rfl, ?_⟩
    refine wpM_code hbody ?_
    refine g_ [2,3,4,5] ?_
    refine n_ ?_
    refine wpM_regionK [2,3,4,5,6] rfl fun Q1 hQ1 => ?_
    refine S_ ?_
    refine cp_ (recOf_ok e.kind) Tryz.call152 ?_
    refine hQ1 _ _ (S_ ?_);clear hQ1 Q1
    refine n_ ?_
    refine dr_ mixed [2,39] 0 2 [x+2, B+1] [⟨[3],[0],[],[],false⟩,⟨[16],[],[],[],false⟩,⟨[17],[],[],[],false⟩,⟨[4,18],[],[],[],false⟩,⟨[18,19],[],[],[],false⟩,⟨[18,20],[],[],[],false⟩,⟨[21],[],[],[],false⟩,⟨[6,22],[],[],[],false⟩,⟨[22,23],[],[],[],false⟩,⟨[22,24],[],[],[],false⟩,⟨[25],[],[],[],false⟩,⟨[5,26],[],[],[],false⟩,⟨[26,27],[1],[],[],false⟩,⟨[26,28],[],[],[],false⟩,⟨[6,26],[],[],[],false⟩,⟨[26,30],[],[],[],true⟩,⟨[26,29,31],[],[],[],false⟩,⟨[26,32],[],[],[],false⟩,⟨[33],[],[],[],false⟩,⟨[6,34],[],[],[],false⟩,⟨[5,34],[1],[],[],false⟩,⟨[34,35,36],[],[],[],true⟩,⟨[34,37],[],[],[],false⟩,⟨[34,38],[],[],[],false⟩] [0,1,2,3,4,5,6,7,8,9,10,11,12,13,14,15,16,17,18,19,20,21,22,23] [[],[0],[0,1],[0,1,2],[0,1,2,3],[0,1,2,3,4],[0,1,2,3,4,5],[0,1,2,3,4,5,6],[0,1,2,3,4,5,6,7],[0,1,2,3,4,5,6,7,8],[0,1,2,3,4,5,6,7,8,9],[0,1,2,3,4,5,6,7,8,9,10],[0,1,2,3,4,5,6,7,8,9,10,11],[0,1,2,3,4,5,6,7,8,9,10,11,12],[0,1,2,3,4,5,6,7,8,9,10],[0,1,2,3,4,5,6,7,8,9,10,14],[0,1,2,3,4,5,6,7,8,9,10,11,12,13,14,15],[0,1,2,3,4,5,6,7,8,9,10,11,12,13,14,15,16],[0,1,2,3,4,5,6,7,8,9,10,11,12,13,14,15,16,17],[0,1,2,3,4,5,6,7,8,9,10,11,12,13,14,15,16,17,18],[0,1,2,3,4,5,6,7,8,9,10,11,12,13,14,15,16,17,18],[0,1,2,3,4,5,6,7,8,9,10,11,12,13,14,15,16,17,18,19,20],[0,1,2,3,4,5,6,7,8,9,10,11,12,13,14,15,16,17,18,19,20,21],[0,1,2,3,4,5,6,7,8,9,10,11,12,13,14,15,16,17,18,19,20,21,22]] 2 (htbl := by simp; omega) (hnm := by simp) ?_
    intro O A K hO hA hK;simp only [atL_cons,atL_nil,Nat.reduceAdd,Nat.zero_add] at hO hA
    refine SE_ ?_
    refine loudG (v := .int .i64 (kidsR e.kind)) (fun K2 hb h2 => ?_) ?_
    · have hb2 := hb
      simp only [Bool.not_eq_true', Bool.or_eq_false_iff] at hb2
      obtain ⟨t, fk, fs, hr, q1, q2, q3, q4, q5, q6⟩ := rec_meth e.kind hb2.2
      exact loudi_p (args := []) q3 q1 q2 rfl (by simp -implicitDefEqProofs (disch := omega) only [go_sem, hb, gd_of hb, hr]) rfl rfl h2
    refine SE_ ?_
    refine loudG (v := .bool (shapeR e)) (fun K2 hb h2 => ?_) ?_
    · have hb2 := hb
      simp only [Bool.not_eq_true', Bool.or_eq_false_iff] at hb2
      obtain ⟨t, fk, fs, hr, q1, q2, q3, q4, q5, q6⟩ := rec_meth e.kind hb2.1.2
      exact loudi_p (args := [.agg e.cs]) (q6 e rfl) q4 q5 rfl (by simp -implicitDefEqProofs (disch := omega) only [go_sem, hb, gd_of hb, hr]) (by simp -implicitDefEqProofs (disch := omega) only [go_sem, hb, gd_of hb]) rfl h2
    refine SE_ ?_
    refine hK _ (S_ ?_);clear hK K hO hA O A
    refine c_ (fun hc0 => ?_) fun hc0 => ?_
    ·
      refine g_ [2] ?_
      refine wpM_ret ?_
      try refine S_ ?_
      have hbad : badE ((cnt : Int) + 1) dI e = true := hc0
      refine ⟨d, .busy, none, fn, 40, [(2, .ptr (x + 1) 0), (3, .ptr (x + 2) 0), (8, fv)], #[9, 10], asg, body, by simp -implicitDefEqProofs (disch := omega) only [go_sem], ?_⟩
      refine hK' _ ?_; clear hK' K'
      simp -implicitDefEqProofs (disch := omega) only [go_sem]
      refine hQ1 _ _ ?_; clear hQ1 Q1
      simp -implicitDefEqProofs (disch := omega) only [go_sem]
      refine wpM_condK ?_
      simp -implicitDefEqProofs (disch := omega) only [go_sem]
      refine wpM_seq ?_
      refine wpM_regionK [7] rfl ?_; intro Q1 hQ1
      simp -implicitDefEqProofs (disch := omega) only [go_sem]
      refine hQ1 _ _ ?_; clear hQ1 Q1
      simp -implicitDefEqProofs (disch := omega) only [go_sem]
      refine wpM_ret ?_
      refine .of' _ _ ⟨rfl, .inr ⟨cnt + 1, _, ?_, ?_, rfl⟩⟩ ?_ ?_ ?_
      · rw [vis_eq, ← hdI, if_pos hbad]
      · first | omega | (simp -implicitDefEqProofs (disch := omega) only [go_sem]; done)
      all_goals exact L_
    refine n_ ?_
    have hbad : badE ((cnt : Int) + 1) dI e = false := hc0
    clear hc0
    have hb2 := hbad
    simp only [badE, Bool.or_eq_false_iff] at hb2
    obtain ⟨⟨⟨⟨hg1, hg2⟩, _⟩, _⟩, _⟩ := hb2
    have hg2' : deep < 6 := by simp at hg2; omega
    have hg1' : cnt + 1 ≤ 14 := by simp at hg1; omega
    refine ⟨d, .busy, none, fn, 40, [(2, .ptr (x + 1) 0), (3, .ptr (x + 2) 0), (8, fv)], #[9, 10], asg, body, by simp -implicitDefEqProofs (disch := omega) only [go_sem], ?_⟩
    refine hK' _ ?_; clear hK' K'
    simp -implicitDefEqProofs (disch := omega) only [go_sem, hg1, hg2]
    refine hQ1 _ _ (S_ ?_);clear hQ1 Q1
    refine c1_ ?_
    refine g_ [1,4,26,27,28] ?_
    refine n_ ?_
    refine wpM_loopS (fun s n s' => ∃ (i M ci : Nat), i + n = e.kids.length ∧ B + 1 ≤ M ∧ visL (e.kids.take i) (deep + 1) (cnt + 1) = some ci ∧ ci ≤ 14 ∧ s' = { s with env := setE 28 (.int .i64 (i : Nat)) s.env, l := okSt x (okRec x b d fn fv asg body .ready none) b ci ++ [(B, .cells 77 e.cs)], M := M }) (e.kids.length) ?_ ?_
    ·
      refine .of' _ _ ⟨0, _, cnt + 1, by omega, ?_, rfl, hg1', rfl⟩ ?_ ?_ ?_
      · first | omega | (simp -implicitDefEqProofs (disch := omega) only [go_sem]; done)
      all_goals exact L_
    rintro n s' ⟨i, M, ci, hi, hM, hv, hci, rfl⟩
    try refine S_ ?_
    refine g_ [1,4,26,27,28,29] ?_
    refine c_ (fun hc1 => ?_) fun hc1 => ?_
    ·
      have hl0 : i < e.kids.length := by omega
      have hks := Ex.kid_sz hl0
      refine g_ [1,4,9,26,27,28] ?_
      refine n_ ?_
      refine wpM_regionK [1,4,26,27,28,37] rfl fun Q1 hQ1 => ?_
      refine S_ ?_
      refine OpM_inlineK (first := []) (ps := [.agg (e.kids.getD i default).cs, .int .i64 (dI + 1)]) (cap := [.ptr (x + 7) 0, .ptr (x + 6) 0, .ptr (x + 8) 0]) Tryz.func177 rfl Tryz.ntmps177 (by simp) Tryz.call177 rfl rfl F_ F_ ?_
      intro K' hK'
      refine wpM_frame (okSt x (okRec x b d fn fv asg body .ready none) b ci) [(M, .cells 77 (e.kids.getD i default).cs), (B, .cells 77 e.cs)] T_ T_ T_ (by simp -implicitDefEqProofs (disch := omega) only [go_sem, true_or, or_true]) T_ ?_
      intro f1
      refine wpM_mono (ih (e.kids.getD i default) (by omega) (by omega) (deep + 1) ci (dI + 1) f1 (M + 1) (by rw [hdI]; rfl) (by omega) (by omega) hci) ?_
      rintro ex s' ⟨rfl, ⟨cnt', M', h1, h2, h3, rfl⟩ | ⟨cnt', M', h1, h3, rfl⟩⟩
      rotate_left
      · refine ⟨rfl, rfl, T_, (by simp -implicitDefEqProofs (disch := omega) only [go_sem, true_or, or_true]), ?_⟩
        refine ⟨[], rfl, trivial, [.bool false], (by rw [Tryz.results177]; simp -implicitDefEqProofs (disch := omega) only [go_sem]), ?_⟩
        refine hK' _ ?_; clear hK' K'
        simp -implicitDefEqProofs (disch := omega) only [go_sem]
        refine hQ1 _ _ ?_; clear hQ1 Q1
        simp -implicitDefEqProofs (disch := omega) only [go_sem]
        refine wpM_condK ?_
        simp -implicitDefEqProofs (disch := omega) only [go_sem]
        refine wpM_seq ?_
        refine wpM_regionK [7] rfl ?_; intro Q1 hQ1
        simp -implicitDefEqProofs (disch := omega) only [go_sem]
        refine hQ1 _ _ ?_; clear hQ1 Q1
        simp -implicitDefEqProofs (disch := omega) only [go_sem]
        refine wpM_ret ?_
        refine .of' _ _ ⟨rfl, .inr ⟨cnt', _, ?_, ?_, rfl⟩⟩ ?_ ?_ ?_
        · rw [vis_eq, ← hdI, hbad]
          exact visL_none (i := i + 1) (by rw [visL_take _ _ _ _ hl0, hv]; exact h1)
        · first | omega | (simp -implicitDefEqProofs (disch := omega) only [go_sem]; done) | (simp -implicitDefEqProofs (disch := omega) only [go_sem]; omega)
        all_goals exact L_
      refine ⟨rfl, rfl, T_, (by simp -implicitDefEqProofs (disch := omega) only [go_sem, true_or, or_true]), ?_⟩
      refine ⟨[], rfl, trivial, [.bool true], (by rw [Tryz.results177]; simp -implicitDefEqProofs (disch := omega) only [go_sem]), ?_⟩
      refine hK' _ ?_; clear hK' K'
      have hv2 : visL (e.kids.take (i + 1)) (deep + 1) (cnt + 1) = some cnt' := by rw [visL_take _ _ _ _ hl0, hv]; exact h1
      refine S_ ?_
      refine hQ1 _ _ (S_ ?_);clear hQ1 Q1
      refine c1_ ?_
      refine g_ [1,4,26,27,28] ?_
      refine .of' _ _ ⟨n - 1, by omega, i + 1, _, cnt', by omega, ?_, hv2, h2, rfl⟩ ?_ ?_ ?_
      · first | omega | (simp -implicitDefEqProofs (disch := omega) only [go_sem]; done) | (simp -implicitDefEqProofs (disch := omega) only [go_sem]; omega)
      all_goals exact L_
    refine g_ [7] ?_
    refine wpM_ret ?_
    try refine S_ ?_
    have hie : i = e.kids.length := by omega
    rw [hie, List.take_of_length_le (Nat.le_refl _)] at hv
    refine .of' _ _ ⟨rfl, .inl ⟨ci, _, ?_, hci, ?_, rfl⟩⟩ ?_ ?_ ?_
    · rw [vis_eq, ← hdI, hbad]; exact hv
    · first | omega | (simp -implicitDefEqProofs (disch := omega) only [go_sem]; done) | (simp -implicitDefEqProofs (disch := omega) only [go_sem]; omega)
    all_goals exact L_
end Go.Proofs.YtnmfmeehmieifaaGreat
namespace Go.Proofs.YtnmfmeehmieifaaGreat
open Go Sg
set_option linter.unusedSectionVars false
variable [Glob]
set_option maxRecDepth 100000
set_option linter.unusedSimpArgs false
set_option linter.unusedVariables false
set_option maxHeartbeats 4000000
theorem iexprOk_ok (e : Ex) (hs : e.sz ≤ 1099511627776) : PureF Tryz.prog 134 [.agg e.cs] [.bool (vis e 0 0).isSome] := by
  refine pureF_ofM Tryz.func134 rfl Tryz.ntmps134 (by simp) T_ ?_
  intro f0 B Q hQ
  obtain ⟨asg, body, hcode⟩ : ∃ asg body, Tryz.f134.body.map rfs = some [(asg, body)] := ⟨_, _, rfl⟩
  have hcode' := Option.some.inj hcode
  simp only [rfs, List.nil_append, List.append_nil, List.cons.injEq, Prod.mk.injEq, and_true] at hcode'
  obtain ⟨hasg, hbody⟩ := hcode'
  refine g_ [1,2,9,10] ?_
  refine g_ [1,2,3,9,10] ?_
  refine n_ ?_
  refine wpM_regionK [2,3,8,9,10] rfl fun Q1 hQ1 => ?_
  refine S_ ?_
  refine call_fn (l := []) (first := []) (cap := []) (ps := [.agg e.cs]) (parts_ok e) Tryz.call160 rfl rfl rfl T_ T_ ?_
  rintro out ⟨x, hns, rfl⟩
  injection hns with hn1 hns
  subst hn1
  refine S_ ?_
  refine hQ1 _ _ (S_ ?_);clear hQ1 Q1
  refine n_ ?_
  refine wpM_code (c' := Code.rangeFunc (.tmp 8) #[9, 10] asg body) (by rw [← hasg, ← hbody]) ?_
  refine wpM_rangeFunc (first := []) (cap := [.ptr (B + 3) 0]) T_ Tryz.func176 rfl Tryz.ntmps176 (by simp) Tryz.call176 ?_
  intro fn b d
  refine g_ [1,2] ?_
  refine g_ [1,2,3] ?_
  refine g_ [1,2,3,4] ?_
  refine g_ [1,4] ?_
  refine wpM_regionK [] rfl fun Q1 hQ1 => ?_
  refine S_ ?_
  simp -implicitDefEqProofs (disch := omega) only [go_sem, Nat.add_assoc]
  refine OpM_inlineK (first := []) (ps := [.agg e.cs, .int .i64 0]) (cap := [.ptr (B + 7) 0, .ptr (B + 6) 0, .ptr (B + 8) 0]) Tryz.func177 rfl Tryz.ntmps177 (by simp) Tryz.call177 rfl rfl F_ F_ ?_
  intro K' hK'
  refine wpM_frame (okSt B (okRec B b d fn (.fn (.func 176) [] [.ptr (B + 3) 0]) asg body .ready none) b 0) [(B + 4, .dfr d), (B + 3, .cells 77 e.cs), (B, .cells 77 e.cs)] (by simp -implicitDefEqProofs (disch := omega) only [go_sem, Int.natCast_zero]) T_ T_ (by simp -implicitDefEqProofs (disch := omega) only [go_sem, true_or, or_true]) T_ ?_
  intro f1
  refine wpM_mono (walk_ok B b d fn (.fn (.func 176) [] [.ptr (B + 3) 0]) asg body _ hcode rfl e.sz e (Nat.le_refl _) hs 0 0 0 f1 (B + 9) rfl (by omega) (by omega) (by omega)) ?_
  rintro ex s' ⟨rfl, ⟨cnt', M', q1, q2, q3, rfl⟩ | ⟨cnt', M', q1, q3, rfl⟩⟩
  rotate_left
  · refine ⟨rfl, rfl, T_, (by simp -implicitDefEqProofs (disch := omega) only [go_sem, true_or, or_true]), ?_⟩
    refine ⟨[], rfl, trivial, [.bool false], (by rw [Tryz.results177]; simp -implicitDefEqProofs (disch := omega) only [go_sem]), ?_⟩
    refine hK' _ ?_; clear hK' K'
    simp -implicitDefEqProofs (disch := omega) only [go_sem]
    refine hQ1 _ _ ?_; clear hQ1 Q1
    simp -implicitDefEqProofs (disch := omega) only [go_sem]
    refine ⟨[], rfl, trivial, [], (by rw [Tryz.results176]; simp -implicitDefEqProofs (disch := omega) only [go_sem]), ?_⟩
    refine ⟨d, .done, some .ret, fn, 40, [(2, .ptr (B + 1) 0), (3, .ptr (B + 2) 0), (8, .fn (.func 176) [] [.ptr (B + 3) 0])], #[9, 10], asg, body, T_, (by simp), ?_⟩
    simp -implicitDefEqProofs (disch := omega) only [go_sem, Nat.add_assoc]
    refine hQ [B + 4] _ _ rfl rfl rfl ⟨⟨by simp -implicitDefEqProofs (disch := omega) only [go_sem], ⟨d, by simp -implicitDefEqProofs (disch := omega) only [go_sem]⟩, by simp⟩, trivial⟩ (by simp -implicitDefEqProofs (disch := omega) only [go_sem, true_or]) ?_ (.inl rfl)
    rw [Tryz.results134, q1]
    simp -implicitDefEqProofs (disch := omega) only [go_sem, Option.isSome_none]
  refine ⟨rfl, rfl, T_, (by simp -implicitDefEqProofs (disch := omega) only [go_sem, true_or, or_true]), ?_⟩
  refine ⟨[], rfl, trivial, [.bool true], (by rw [Tryz.results177]; simp -implicitDefEqProofs (disch := omega) only [go_sem]), ?_⟩
  refine hK' _ ?_; clear hK' K'
  refine S_ ?_
  refine hQ1 _ _ (S_ ?_);clear hQ1 Q1
  refine ⟨[], rfl, trivial, [], (by rw [Tryz.results176]; simp -implicitDefEqProofs (disch := omega) only [go_sem]), ?_⟩
  refine ⟨d, .ready, none, fn, 40, [(2, .ptr (B + 1) 0), (3, .ptr (B + 2) 0), (8, .fn (.func 176) [] [.ptr (B + 3) 0])], #[9, 10], asg, body, T_, (by simp), ?_⟩
  simp -implicitDefEqProofs (disch := omega) only [go_sem, Nat.add_assoc]
  refine g_ [2] ?_
  refine wpM_ret ?_
  try refine S_ ?_
  refine hQ [B + 4] _ _ rfl rfl rfl ⟨⟨by simp -implicitDefEqProofs (disch := omega) only [go_sem], ⟨d, by simp -implicitDefEqProofs (disch := omega) only [go_sem]⟩, by simp⟩, trivial⟩ (by simp -implicitDefEqProofs (disch := omega) only [go_sem, true_or]) ?_ (.inl rfl)
  rw [Tryz.results134, q1]
  simp -implicitDefEqProofs (disch := omega) only [go_sem, Option.isSome_some]
end Go.Proofs.YtnmfmeehmieifaaGreat
namespace Go.Proofs.YtnmfmeehmieifaaGreat
open Go Sg
set_option linter.unusedSectionVars false
variable [Glob]
set_option maxRecDepth 100000
set_option linter.unusedSimpArgs false
set_option linter.unusedVariables false
set_option maxHeartbeats 4000000
def idxOf {α : Type} (p : α → Bool) (l : List α) : Int := if l.any p then (l.findIdx p : Int) else -1
theorem idxOf_at {α : Type} {p : α → Bool} {l : List α} {z : α} {i : Nat} (h : i < l.length) (ha : (l.take i).all (fun x => !p x) = true) (hp : p (l.getD i z) = true) : idxOf p l = (i : Int) := by
  have hg : l.getD i z = l[i] := by simp [List.getD, h]
  rw [hg] at hp
  have hany : l.any p = true := List.any_eq_true.2 ⟨l[i], List.getElem_mem h, hp⟩
  rw [idxOf, if_pos hany]
  have : l.findIdx p = i := by
    rw [List.findIdx_eq h]
    refine ⟨hp, fun j hj => ?_⟩
    rw [List.all_eq_true] at ha
    have hm : l[j] ∈ l.take i := by
      rw [List.mem_take_iff_getElem]
      exact ⟨j, by omega, rfl⟩
    have := ha _ hm
    simpa using this
  rw [this]
theorem idxOf_no {α : Type} {p : α → Bool} {l : List α} (ha : l.all (fun x => !p x) = true) : idxOf p l = -1 := by
  have : l.any p = false := by
    rw [List.all_eq_not_any_not] at ha
    simpa using ha
  rw [idxOf, if_neg (by rw [this]; simp)]
theorem idxOf_ge {α : Type} (p : α → Bool) (l : List α) : decide (idxOf p l ≥ 0) = l.any p := by
  unfold idxOf
  cases h : l.any p <;> simp
theorem idxI_ok (l : List Int) (fid : Nat) (cap : List PV) (p : Int → Bool) (lst : List (Nat × AObj)) (hl : l.length ≤ 1099511627776) (henter : ∀ args w, (callFunc fid args).run Tryz.prog w = .ok (.enter fid args) w)
    (hf : ∀ i, i < l.length → CallF Tryz.prog fid ([.int .i64 (l.getD i 0)] ++ cap) lst 0 (fun _ o => o = { rs := [.bool (p (l.getD i 0))] })) :
    CallF Tryz.prog 174 [.rows 3 (rowsI l), .fn (.func fid) [] cap] lst 0 (fun _ o => o = { rs := [.int .i64 (idxOf p l)] }) := by
  refine callF_ofR Tryz.func174 rfl Tryz.ntmps174 (by simp) T_ ?_
  intro f0 B Q hhid hQ
  refine g_ [0,1] ?_
  refine g_ [0,1,7,8] ?_
  refine n_ ?_
  refine wpM_loopS (fun s n s' => ∃ (i0 M0 : Nat) , i0 + n = l.length ∧ s.M ≤ M0 ∧ ((l.take i0).all (fun x => !p x) = true) ∧ s' = { s with env := setE 8 (.int .i64 (i0 : Nat)) s.env, M := M0 }) (l.length) ?_ ?_
  ·
    refine .of' _ _ ⟨0, _, by omega, Nat.le_refl _, by simp, rfl⟩ ?_ ?_ ?_ <;> exact L_
  rintro n0 s' ⟨i0, M0, hi0, hM0, hv0, rfl⟩
  try dsimp only at hM0
  try refine S_ ?_
  refine g_ [0,1,7,8,9] ?_
  refine c_ (fun hc0 => ?_) fun hc0 => ?_
  ·
    have hl0 : i0 < l.length := by omega
    refine g_ [0,1,5,7,8] ?_
    refine n_ ?_
    refine wpM_regionK [0,1,5,7,8,16] rfl fun Q1 hQ1 => ?_
    refine S_ ?_
    refine call_cap (args := [.int .i64 (l.getD i0 0)]) (hf i0 hl0) (hidden_f hhid (by simp -implicitDefEqProofs (disch := omega) only [go_sem, true_or])) henter rfl rfl T_ T_ ?_
    refine S_ ?_
    refine hQ1 _ _ (S_ ?_);clear hQ1 Q1
    refine c_ (fun hc1 => ?_) fun hc1 => ?_
    ·
      refine g_ [4] ?_
      refine e_ Tryz.results174 ?_
      first
      | exact True.intro
      | first | rw [idxOf_at hl0 hv0 hc1] | rw [idxOf_no (all_yes' hi0 hc0 hv0)]
    refine g_ [0,1,7,8] ?_
    refine .of' _ _ ⟨n0 - 1, by omega, i0 + 1, _, by omega, M_, ?_, rfl⟩ L_ L_ L_
    rw [take_all' _ _ 0 _ hl0, hv0, hc1]; rfl
  refine g_ [4] ?_
  refine e_ Tryz.results174 ?_
  first
  | exact True.intro
  | first | rw [idxOf_at hl0 hv0 hc1] | rw [idxOf_no (all_yes' hi0 hc0 hv0)]
theorem hasI_ok (l : List Int) (fid : Nat) (cap : List PV) (p : Int → Bool) (lst : List (Nat × AObj)) (hl : l.length ≤ 1099511627776) (henter : ∀ args w, (callFunc fid args).run Tryz.prog w = .ok (.enter fid args) w)
    (hf : ∀ i, i < l.length → CallF Tryz.prog fid ([.int .i64 (l.getD i 0)] ++ cap) lst 0 (fun _ o => o = { rs := [.bool (p (l.getD i 0))] })) :
    CallF Tryz.prog 146 [.rows 3 (rowsI l), .fn (.func fid) [] cap] lst 0 (fun _ o => o = { rs := [.bool (l.any p)] }) := by
  refine callF_ofR Tryz.func146 rfl Tryz.ntmps146 (by simp) T_ ?_
  intro f0 B Q hhid hQ
  refine g_ [0,1] ?_
  refine n_ ?_
  refine wpM_regionK [4] rfl fun Q1 hQ1 => ?_
  refine S_ ?_
  refine call_r (idxI_ok l fid cap p lst hl henter hf) (hidden_f hhid (by simp -implicitDefEqProofs (disch := omega) only [go_sem, true_or])) Tryz.call174 rfl rfl rfl F_ ?_
  refine S_ ?_
  refine hQ1 _ _ (S_ ?_);clear hQ1 Q1
  refine e_ Tryz.results146 ?_
  first
  | exact True.intro
  | rw [idxOf_ge]
def eqI (a b : List Int) : Bool := if (a.length : Int) != (b.length : Int) then false else (List.range a.length).all (fun i => !(a.getD i 0 != b.getD i 0))
end Go.Proofs.YtnmfmeehmieifaaGreat
namespace Go.Proofs.YtnmfmeehmieifaaGreat
open Go Sg
set_option linter.unusedSectionVars false
variable [Glob]
set_option maxRecDepth 100000
set_option linter.unusedSimpArgs false
set_option linter.unusedVariables false
set_option maxHeartbeats 4000000
def MM.flat (m : MM) : List Int := m.i ++ (m.o ++ m.v)
theorem MM.flat_len {m : MM} (h : m.Six) : m.flat.length = 18 := by simp [MM.flat, h.i, h.o, h.v]
def MM.nth (m : MM) (i : Nat) : List Int := [m.i, m.o, m.v].getD i []
@[go_sem] theorem drop3 (e : TypeId) (m : MM) (i : Nat) (h : i < 3) : ([PV.rows e (rowsI m.i), PV.rows e (rowsI m.o), PV.rows e (rowsI m.v)].drop i)[0]? = some (.rows e (rowsI (m.nth i))) := by
  match i, h with
  | 0, _ => rfl
  | 1, _ => rfl
  | 2, _ => rfl
@[go_sem] theorem ints_cell (l : List Int) : (ints l).all PV.cell = true := by
  induction l with
  | nil => rfl
  | cons x l ih => simp only [ints, List.map_cons, List.all_cons, PV.cell, Bool.true_and] at ih ⊢; exact ih
@[go_sem] theorem ints_take6 (l : List Int) (h : l.length = 6) : (ints l).take 6 = ints l := by rw [List.take_of_length_le (by simp [ints, h])]
@[go_sem high] theorem splice_ints6 (L l : List Int) (k : Nat) : splice (ints L) k (ints l) = ints (L.take k ++ l ++ L.drop (k + l.length)) := by
  simp [splice, ints, List.map_take, List.map_drop]
def MM.bk (m : MM) : Nat → List Int
  | 0 => List.replicate 18 0
  | n + 1 => (m.bk n).take (n * 6) ++ m.nth n ++ (m.bk n).drop (n * 6 + (m.nth n).length)
theorem MM.bk3 {m : MM} (h : m.Six) : m.bk 3 = m.flat := by
  have h1 := h.i
  have h2 := h.o
  have h3 := h.v
  simp only [MM.bk, MM.nth, List.getD_cons_zero, List.getD_cons_succ, Nat.zero_mul, List.take_zero, List.nil_append, Nat.zero_add, h1, h2, h3, MM.flat]
  have a1 : ∀ x : List Int, (m.i ++ x).take (1 * 6) = m.i := fun x => by rw [List.take_append_of_le_length (by omega), List.take_of_length_le (by omega)]
  have a2 : ∀ x : List Int, (m.i ++ m.o ++ x).take (2 * 6) = m.i ++ m.o := fun x => by rw [List.take_append_of_le_length (by simp; omega), List.take_of_length_le (by simp; omega)]
  rw [a1, a2]
  have a3 : ((m.i ++ m.o ++ ((m.i ++ (List.replicate 18 (0 : Int)).drop 6).drop (1 * 6 + 6))).drop (2 * 6 + 6)) = [] := by
    rw [List.drop_eq_nil_iff]; simp; omega
  rw [a3]; simp
theorem MM.bk_len {m : MM} : ∀ n, (∀ j, j < n → (m.nth j).length = 6) → n ≤ 3 → (m.bk n).length = 18 := by
  intro n
  induction n with
  | zero => intro _ _; simp [MM.bk]
  | succ n ih =>
    intro h hn
    have := ih (fun j hj => h j (by omega)) (by omega)
    have h6 := h n (by omega)
    simp only [MM.bk, List.length_append, List.length_take, List.length_drop, this, h6]
    omega
theorem listOk_eq (l : List Int) : ((l.length : Int) != 6 || l.any (fun x => !isNum x)) = !listOk l := by
  have : (fun x => !isNum x) = fun x => cut x != x := by funext x; rw [isNum_cut]; rfl
  rw [this, listOk, List.all_eq_not_any_not]
  simp only [Bool.not_not]
  cases l.any (fun x => cut x != x) <;> cases h : ((l.length : Int) == 6) <;> simp_all
@[go_sem] theorem rep_two (z : List PV) : rep 2 z = z ++ z := by simp [rep, List.replicate_succ]
@[go_sem] theorem rep_three (z : List PV) : rep 3 z = z ++ (z ++ z) := by simp [rep, List.replicate_succ]
theorem notNum_ok (n : Int) : PureF Tryz.prog 147 [.int .i64 n] [.bool (!isNum n)] := by
  refine pureF_of Tryz.func147 rfl Tryz.ntmps147 (by simp) T_ ?_
  intro f0 B Q hQ
  refine g_ [0] ?_
  refine n_ ?_
  refine wpM_regionK [2] rfl fun Q1 hQ1 => ?_
  refine S_ ?_
  refine cp_ (isNum_ok n) Tryz.call148 ?_
  refine hQ1 _ _ (S_ ?_);clear hQ1 Q1
  refine e_ Tryz.results147 ?_
  first
  | exact True.intro
  | rfl
theorem MM.ok_nth (m : MM) : m.ok = (List.range 3).all (fun j => listOk (m.nth j)) := by
  simp only [MM.ok, MM.nth, List.range, List.range.loop, List.all_cons, List.all_nil, Bool.and_true, List.getD_cons_zero, List.getD_cons_succ, Bool.and_assoc]
theorem readMem_ok (m : MM) (hm : m.Sm) : CallF Tryz.prog 108 [.agg m.cs] [] 1 (fun ns o => ∃ x, ns = [x] ∧ ((m.ok = true ∧ o = { rs := [.ptr x 0, .bool true], nw := [(x, .cells 193 (ints m.flat))] }) ∨
    (m.ok = false ∧ ∃ l, o = { rs := [.nilp, .bool false], nw := [(x, .cells 193 (ints l))] }))) := by
  have hsm : ∀ j, (m.nth j).length ≤ 1099511627776 := by
    intro j
    match j with
    | 0 => exact hm.i
    | 1 => exact hm.o
    | 2 => exact hm.v
    | n + 3 => simp [MM.nth]
  refine callF_of' Tryz.func108 rfl Tryz.ntmps108 (by simp) ?_
  intro f0 B ns Q hB hns hQ
  obtain ⟨x, rfl⟩ : ∃ x, ns = [x] := by
    match ns, hns with
    | [x], _ => exact ⟨x, rfl⟩
  refine g_ [1] ?_
  refine g_ [1,4] ?_
  refine g_ [4,15,16,17] ?_
  have hlit : [PV.int .i64 0, .int .i64 0, .int .i64 0, .int .i64 0, .int .i64 0, .int .i64 0, .int .i64 0, .int .i64 0, .int .i64 0, .int .i64 0, .int .i64 0, .int .i64 0, .int .i64 0, .int .i64 0, .int .i64 0, .int .i64 0, .int .i64 0, .int .i64 0] = ints (m.bk 0) := rfl
  rw [hlit]
  refine n_ ?_
  refine wpM_loopS (fun s n s' => ∃ (i0 M0 : Nat) , i0 + n = 3 ∧ s.M ≤ M0 ∧ ((List.range i0).all (fun j => listOk (m.nth j)) = true) ∧ s' = { s with env := setE 17 (.int .i64 (i0 : Nat)) s.env, l := setl (B + 1) (.cells 193 (ints (m.bk i0))) s.l, M := M0 }) (3) ?_ ?_
  ·
    refine .of' _ _ ⟨0, _, by omega, Nat.le_refl _, rfl, rfl⟩ ?_ ?_ ?_ <;> exact L_
  rintro n0 s' ⟨i0, M0, hi0, hM0, hv0, rfl⟩
  try dsimp only at hM0
  try refine S_ ?_
  refine g_ [4,15,16,17,18] ?_
  refine c_ (fun hc0 => ?_) fun hc0 => ?_
  ·
    have hl0 : i0 < 3 := by omega
    have hsj := hsm i0
    have hbl : (m.bk i0).length = 18 := MM.bk_len i0 (fun j hj => by
      rw [List.all_eq_true] at hv0
      have := hv0 j (List.mem_range.2 hj)
      simp only [listOk, Bool.and_eq_true, beq_iff_eq] at this; omega) (by omega)
    refine g_ [4,5,6,15,16,17] ?_
    refine n_ ?_
    refine wpM_regionK [4,5,6,15,16,17,28] rfl fun Q1 hQ1 => ?_
    refine SD_ ?_
    refine callG_r (l := []) (fun hb => hasI_ok (m.nth i0) 147 [] (fun x => !isNum x) [] hsj Tryz.call147 (fun i hi => notNum_ok _)) (fun i o h => by simp [lk] at h) Tryz.call146 rfl rfl (fun hb => by simp -implicitDefEqProofs (disch := omega) only [go_sem]) (fun hb => by simp -implicitDefEqProofs (disch := omega) only [go_sem, hb, gd_of hb]) ?_
    refine SD_ ?_
    refine hQ1 _ _ (S_ ?_);clear hQ1 Q1
    refine c_ (fun hc1 => ?_) fun hc1 => ?_
    ·
      refine g_ [2,3] ?_
      refine wpM_ret ?_
      try refine S_ ?_
      have hok : m.ok = true ∨ m.ok = false := by cases m.ok <;> simp
      first
      | (have hbad : m.ok = false := by
           have h1 := listOk_eq (m.nth i0)
           rw [hc1] at h1
           have h2 : listOk (m.nth i0) = false := by simpa using h1.symm
           rw [MM.ok_nth]; exact range_no hl0 h2
         refine hQ _ _ (retK [B + 1] [] [(x, .cells 193 (ints (m.bk i0)))] rfl rfl rfl (by rw [Tryz.results108] <;> simp (maxSteps := 1000000) -implicitDefEqProofs (disch := omega) only [go_sem] <;> rfl) ?_ ⟨x, rfl, .inr ⟨hbad, _, rfl⟩⟩ ?_ ?_ ?_ ?_ ?_ ?_)
         all_goals (first | (simp -implicitDefEqProofs (disch := omega) only [go_sem, List.nodup_cons, List.nodup_nil, true_or, or_true, List.mem_cons, List.not_mem_nil]; done) | (simp -implicitDefEqProofs (disch := omega) only [go_sem, List.nodup_cons, List.nodup_nil, true_or, or_true, List.mem_cons, List.not_mem_nil]; omega)))
      | (have hi3 : i0 = 3 := by omega
         have hgood : m.ok = true := by rw [MM.ok_nth, ← hi3]; exact hv0
         have hfl : m.bk i0 = m.flat := by rw [hi3, MM.bk3 (MM.ok_six hgood)]
         rw [hfl]
         refine hQ _ _ (retK [B + 1] [] [(x, .cells 193 (ints m.flat))] rfl rfl rfl (by rw [Tryz.results108] <;> simp (maxSteps := 1000000) -implicitDefEqProofs (disch := omega) only [go_sem] <;> rfl) ?_ ⟨x, rfl, .inl ⟨hgood, rfl⟩⟩ ?_ ?_ ?_ ?_ ?_ ?_)
         all_goals (first | (simp -implicitDefEqProofs (disch := omega) only [go_sem, List.nodup_cons, List.nodup_nil, true_or, or_true, List.mem_cons, List.not_mem_nil]; done) | (simp -implicitDefEqProofs (disch := omega) only [go_sem, List.nodup_cons, List.nodup_nil, true_or, or_true, List.mem_cons, List.not_mem_nil]; omega)))
    have hok : listOk (m.nth i0) = true := by have := listOk_eq (m.nth i0); rw [hc1] at this; simpa using this.symm
    have hl6 : (m.nth i0).length = 6 := by
      simp only [listOk, Bool.and_eq_true, beq_iff_eq] at hok; omega
    refine n_ ?_
    refine dr_ mixed [4,15,16,17] 0 1 [B + 1] [⟨[4],[],[],[],false⟩,⟨[5],[],[],[],false⟩,⟨[6],[],[],[],false⟩,⟨[31],[],[],[],false⟩,⟨[32],[],[],[],false⟩,⟨[29],[],[],[],false⟩,⟨[34],[],[],[],false⟩,⟨[30,35],[],[],[],false⟩,⟨[33,36],[0],[0],[],false⟩] [0,1,2,3,4,5,6,7,8] [[],[],[],[2],[2,3],[0],[0,5],[0,1,2,3,4,5,6],[0,1,2,3,4,5,6,7]] 1 ?_
    intro O A K hO hA hK;simp only [atL_cons,atL_nil,Nat.reduceAdd,Nat.zero_add] at hO hA
    refine SO_ ?_
    refine hK _ (S_ ?_);clear hK K hO hA O A
    refine g_ [4,15,16,17] ?_
    rw [show List.take (i0 * 6) (m.bk i0) ++ m.nth i0 ++ List.drop (i0 * 6 + (m.nth i0).length) (m.bk i0) = m.bk (i0 + 1) from rfl]
    refine .of' _ _ ⟨n0 - 1, by omega, i0 + 1, _, by omega, M_, ?_, rfl⟩ L_ L_ L_
    rw [range_all, hv0, hok]; rfl
  refine g_ [2,3] ?_
  refine wpM_ret ?_
  try refine S_ ?_
  have hok : m.ok = true ∨ m.ok = false := by cases m.ok <;> simp
  first
  | (have hbad : m.ok = false := by
       have h1 := listOk_eq (m.nth i0)
       rw [hc1] at h1
       have h2 : listOk (m.nth i0) = false := by simpa using h1.symm
       rw [MM.ok_nth]; exact range_no hl0 h2
     refine hQ _ _ (retK [B + 1] [] [(x, .cells 193 (ints (m.bk i0)))] rfl rfl rfl (by rw [Tryz.results108] <;> simp (maxSteps := 1000000) -implicitDefEqProofs (disch := omega) only [go_sem] <;> rfl) ?_ ⟨x, rfl, .inr ⟨hbad, _, rfl⟩⟩ ?_ ?_ ?_ ?_ ?_ ?_)
     all_goals (first | (simp -implicitDefEqProofs (disch := omega) only [go_sem, List.nodup_cons, List.nodup_nil, true_or, or_true, List.mem_cons, List.not_mem_nil]; done) | (simp -implicitDefEqProofs (disch := omega) only [go_sem, List.nodup_cons, List.nodup_nil, true_or, or_true, List.mem_cons, List.not_mem_nil]; omega)))
  | (have hi3 : i0 = 3 := by omega
     have hgood : m.ok = true := by rw [MM.ok_nth, ← hi3]; exact hv0
     have hfl : m.bk i0 = m.flat := by rw [hi3, MM.bk3 (MM.ok_six hgood)]
     rw [hfl]
     refine hQ _ _ (retK [B + 1] [] [(x, .cells 193 (ints m.flat))] rfl rfl rfl (by rw [Tryz.results108] <;> simp (maxSteps := 1000000) -implicitDefEqProofs (disch := omega) only [go_sem] <;> rfl) ?_ ⟨x, rfl, .inl ⟨hgood, rfl⟩⟩ ?_ ?_ ?_ ?_ ?_ ?_)
     all_goals (first | (simp -implicitDefEqProofs (disch := omega) only [go_sem, List.nodup_cons, List.nodup_nil, true_or, or_true, List.mem_cons, List.not_mem_nil]; done) | (simp -implicitDefEqProofs (disch := omega) only [go_sem, List.nodup_cons, List.nodup_nil, true_or, or_true, List.mem_cons, List.not_mem_nil]; omega)))
end Go.Proofs.YtnmfmeehmieifaaGreat
namespace Go.Proofs.YtnmfmeehmieifaaGreat
open Go Sg
set_option linter.unusedSectionVars false
variable [Glob]
set_option maxRecDepth 100000
set_option linter.unusedSimpArgs false
set_option linter.unusedVariables false
set_option maxHeartbeats 4000000
@[go_sem] theorem ints_dt (l : List Int) (a b : Nat) : ((ints l).drop a).take b = ints ((l.drop a).take b) := by simp [ints, List.map_take, List.map_drop]
theorem cloneI_ok (id off : Nat) (T : TypeId) (L : List Int) (h : off + 6 ≤ L.length) : CallF Tryz.prog 129 [.sl 3 id off 6] [(id, .cells T (ints L))] 1 (fun ns o => ∃ x, ns = [x] ∧ o = { rs := [.sl 3 x 0 6], nw := [(x, .cells 3 (ints ((L.drop off).take 6)))] }) := by
  refine callF_of' Tryz.func129 rfl Tryz.ntmps129 (by simp) ?_
  intro f0 B ns Q hB hns hQ
  have hid : id < B := hB id (by simp [hasKey, lk])
  obtain ⟨x, rfl⟩ : ∃ x, ns = [x] := by
    match ns, hns with
    | [x], _ => exact ⟨x, rfl⟩
  refine g_ [0] ?_
  refine g_ [0,4] ?_
  refine c1_ ?_
  refine g_ [2] ?_
  refine wpM_ret ?_
  try refine S_ ?_
  refine hQ _ _ (retK [B + 1] [] [(x, .cells 3 (ints ((L.drop off).take 6)))] rfl rfl rfl (by rw [Tryz.results129] <;> simp (maxSteps := 1000000) -implicitDefEqProofs (disch := omega) only [go_sem] <;> rfl) ?_ ⟨x, rfl, rfl⟩ ?_ ?_ ?_ ?_ ?_ ?_)
  all_goals (first | (simp -implicitDefEqProofs (disch := omega) only [go_sem, List.nodup_cons, List.nodup_nil, true_or, or_true, List.mem_cons, List.not_mem_nil]; done) | (simp -implicitDefEqProofs (disch := omega) only [go_sem, List.nodup_cons, List.nodup_nil, true_or, or_true, List.mem_cons, List.not_mem_nil]; omega))
theorem place_ok (id : Nat) (L : List Int) (a : AD) (h : a.ok = true) (hL : L.length = 18) : CallF Tryz.prog 156 [.ptr id 0, .agg a.cs] [(id, .cells 193 (ints L))] 0 (fun _ o => o = { rs := [.ptr id ((a.kind - 1).toNat * 6 + a.at'.toNat)] }) := by
  have hk : 1 ≤ a.kind ∧ a.kind ≤ 3 ∧ 0 ≤ a.at' ∧ a.at' < 6 := by simp only [AD.ok, Bool.and_eq_true, decide_eq_true_eq] at h; omega
  refine callF_of' Tryz.func156 rfl Tryz.ntmps156 (by simp) ?_
  intro f0 B ns Q hB hns hQ
  have hid : id < B := hB id (by simp [hasKey, lk])
  obtain rfl : ns = [] := List.eq_nil_of_length_eq_zero hns
  refine g_ [0,3] ?_
  refine n_ ?_
  refine dr_ mixed [4] 0 2 [B, id] [⟨[0],[],[],[],false⟩,⟨[3],[],[],[],false⟩,⟨[6],[0],[],[],false⟩,⟨[7],[],[],[],false⟩,⟨[3],[],[],[],false⟩,⟨[9],[0],[],[],false⟩,⟨[5],[],[],[],false⟩,⟨[11],[1],[],[],false⟩,⟨[8,12],[1],[],[],false⟩,⟨[10,13],[1],[],[],false⟩,⟨[14],[],[],[],false⟩] [0,1,2,3,4,5,6,7,8,9,10] [[],[],[1],[1,2],[],[4],[0],[0,6],[0,1,2,3,6,7],[0,1,2,3,4,5,6,7,8],[0,1,2,3,4,5,6,7,8,9]] 2 (htbl := by simp; omega) (hnm := by simp) ?_
  intro O A K hO hA hK;simp only [atL_cons,atL_nil,Nat.reduceAdd,Nat.zero_add] at hO hA
  refine SO_ ?_
  refine hK _ (S_ ?_);clear hK K hO hA O A
  refine wpM_ret ?_
  try refine S_ ?_
  refine hQ _ _ (ret0 [] rfl rfl rfl (by rw [Tryz.results156] <;> simp (maxSteps := 1000000) -implicitDefEqProofs (disch := omega) only [go_sem] <;> rfl) rfl ?_ ?_ ?_ ?_)
  all_goals simp -implicitDefEqProofs (disch := omega) only [go_sem, true_or, or_true]
theorem puts_ok (a : AD) : PureF Tryz.prog 154 [.agg a.cs] [.bool (a.ok && a.kind != 1)] := by
  refine pureF_of Tryz.func154 rfl Tryz.ntmps154 (by simp) T_ ?_
  intro f0 B Q hQ
  refine g_ [1] ?_
  refine n_ ?_
  refine wpM_regionK [2] rfl fun Q1 hQ1 => ?_
  refine SD_ ?_
  refine cpD_ (iaddrOk_ok a) Tryz.call151 ?_
  refine hQ1 _ _ (S_ ?_);clear hQ1 Q1
  refine e_ Tryz.results154 ?_
  first
  | exact True.intro
  | rfl
def pos (a : AD) : Nat := (a.kind - 1).toNat * 6 + a.at'.toNat
theorem iget_ok (id : Nat) (L : List Int) (a : AD) (h : a.ok = true) (hL : L.length = 18) : CallF Tryz.prog 249 [.ptr id 0, .agg a.cs] [(id, .cells 193 (ints L))] 0 (fun _ o => o = { rs := [.int .i64 (L.getD (pos a) 0)] }) := by
  have hk : 1 ≤ a.kind ∧ a.kind ≤ 3 ∧ 0 ≤ a.at' ∧ a.at' < 6 := by simp only [AD.ok, Bool.and_eq_true, decide_eq_true_eq] at h; omega
  have hp : pos a < L.length := by unfold pos; omega
  refine callF_of' Tryz.func249 rfl Tryz.ntmps249 (by simp) ?_
  intro f0 B ns Q hB hns hQ
  have hid : id < B := hB id (by simp [hasKey, lk])
  obtain rfl : ns = [] := List.eq_nil_of_length_eq_zero hns
  refine g_ [0,3] ?_
  refine n_ ?_
  refine wpM_regionK [0,3,7] rfl fun Q1 hQ1 => ?_
  simp -implicitDefEqProofs (disch := omega) only [go_sem, h]
  refine call_p (iaddrOk_ok a) Tryz.call151 rfl rfl rfl (by first | rfl | (simp -implicitDefEqProofs (disch := omega) only [go_sem] <;> rfl)) ?_
  simp -implicitDefEqProofs (disch := omega) only [go_sem, h]
  refine hQ1 _ _ (S_ ?_);clear hQ1 Q1
  refine c1_ ?_
  refine n_ ?_
  refine wpM_regionK [4] rfl fun Q1 hQ1 => ?_
  refine S_ ?_
  refine call_rs (place_ok id L a h hL) T_ Tryz.call156 rfl rfl rfl F_ ?_
  rw [show (a.kind - 1).toNat * 6 + a.at'.toNat = pos a from rfl]
  refine S_ ?_
  refine hQ1 _ _ (S_ ?_);clear hQ1 Q1
  refine wpM_ret ?_
  try refine S_ ?_
  refine hQ _ _ (ret0 [] rfl rfl rfl (by rw [Tryz.results249] <;> simp (maxSteps := 1000000) -implicitDefEqProofs (disch := omega) only [go_sem] <;> rfl) rfl ?_ ?_ ?_ ?_)
  all_goals simp -implicitDefEqProofs (disch := omega) only [go_sem, true_or, or_true]
theorem iput_ok (id : Nat) (L : List Int) (a : AD) (n : Int) (h : a.ok = true) (h1 : a.kind ≠ 1) (hL : L.length = 18) : CallF Tryz.prog 126 [.ptr id 0, .agg a.cs, .int .i64 n] [(id, .cells 193 (ints L))] 0 (fun _ o => o = { rs := [], u := [(id, some (.cells 193 (ints (L.set (pos a) (cut n)))))] }) := by
  have hk : 1 ≤ a.kind ∧ a.kind ≤ 3 ∧ 0 ≤ a.at' ∧ a.at' < 6 := by simp only [AD.ok, Bool.and_eq_true, decide_eq_true_eq] at h; omega
  have hp : pos a < L.length := by unfold pos; omega
  have hpt : (a.ok && a.kind != 1) = true := by simp [h, h1]
  refine callF_of' Tryz.func126 rfl Tryz.ntmps126 (by simp) ?_
  intro f0 B ns Q hB hns hQ
  have hid : id < B := hB id (by simp [hasKey, lk])
  obtain rfl : ns = [] := List.eq_nil_of_length_eq_zero hns
  refine g_ [0,2,4] ?_
  refine n_ ?_
  refine wpM_regionK [0,2,4,7] rfl fun Q1 hQ1 => ?_
  refine S_ ?_
  refine call_p (puts_ok a) Tryz.call154 rfl rfl rfl (by first | rfl | (simp -implicitDefEqProofs (disch := omega) only [go_sem] <;> rfl)) ?_
  simp -implicitDefEqProofs (disch := omega) only [go_sem, hpt]
  refine hQ1 _ _ (S_ ?_);clear hQ1 Q1
  refine c1_ ?_
  refine wpM_regionK [] rfl fun Q1 hQ1 => ?_
  refine S_ ?_
  refine call_rs (place_ok id L a h hL) T_ Tryz.call156 rfl rfl rfl F_ ?_
  rw [show (a.kind - 1).toNat * 6 + a.at'.toNat = pos a from rfl]
  refine S_ ?_
  refine cp_ (icut_ok n) Tryz.call155 ?_
  refine hQ1 _ _ (S_ ?_);clear hQ1 Q1
  refine hQ _ _ (ret0n [(id, some (.cells 193 (ints (L.set (pos a) (cut n)))))] rfl rfl rfl (by rw [Tryz.results126] <;> simp (maxSteps := 1000000) -implicitDefEqProofs (disch := omega) only [go_sem] <;> rfl) rfl ?_ ?_ ?_ ?_)
  all_goals simp -implicitDefEqProofs (disch := omega) only [go_sem, true_or, or_true]
end Go.Proofs.YtnmfmeehmieifaaGreat
namespace Go.Proofs.YtnmfmeehmieifaaGreat
open Go Sg
set_option linter.unusedSectionVars false
variable [Glob]
set_option maxRecDepth 100000
set_option linter.unusedSimpArgs false
set_option linter.unusedVariables false
set_option maxHeartbeats 4000000
theorem MM.flat_get (m : MM) (hm : m.Six) (a : AD) (h : a.ok = true) : m.flat.getD (pos a) 0 = m.get a := by
  have hk : 1 ≤ a.kind ∧ a.kind ≤ 3 ∧ 0 ≤ a.at' ∧ a.at' < 6 := by simp only [AD.ok, Bool.and_eq_true, decide_eq_true_eq] at h; omega
  have e1 := hm.i
  have e2 := hm.o
  have e3 := hm.v
  unfold MM.flat pos MM.get
  have hk3 : a.kind = 1 ∨ a.kind = 2 ∨ a.kind = 3 := by omega
  simp only [List.getD_eq_getElem?_getD]
  rcases hk3 with h | h | h <;> rw [h] <;> simp only [Int.reduceSub, Int.reduceToNat, Int.reduceBEq, Nat.zero_mul, Nat.one_mul, Nat.zero_add, Int.sub_self, Int.toNat_zero, if_true, if_false, Bool.false_eq_true]
  · rw [List.getElem?_append_left (by omega)]
  · rw [List.getElem?_append_right (by omega), List.getElem?_append_left (by omega)]
    congr 2; omega
  · rw [List.getElem?_append_right (by omega), List.getElem?_append_right (by omega)]
    congr 2; omega
theorem itwo_ok (k a b : Int) : PureF Tryz.prog 254 [.int .i64 k, .int .i64 a, .int .i64 b] [.int .i64 (two k a b)] := by
  refine pureF_of Tryz.func254 rfl Tryz.ntmps254 (by simp) T_ ?_
  intro f0 B Q hQ
  refine g_ [0,1,2] ?_
  refine g_ [1,2,7] ?_
  refine g_ [1,2,7,8] ?_
  refine c_ (fun hc0 => ?_) fun hc0 => ?_
  ·
    refine n_ ?_
    refine wpM_regionK [6] rfl fun Q1 hQ1 => ?_
    refine S_ ?_
    refine cp_ (iadd_ok a b) Tryz.call256 ?_
    refine hQ1 _ _ (S_ ?_);clear hQ1 Q1
    refine e_ Tryz.results254 ?_
    first
    | exact True.intro
    | simp only [two, *, ↓reduceIte, Bool.false_eq_true]
  refine g_ [1,2,7,13] ?_
  refine c_ (fun hc1 => ?_) fun hc1 => ?_
  ·
    refine n_ ?_
    refine wpM_regionK [6] rfl fun Q1 hQ1 => ?_
    refine S_ ?_
    refine cp_ (isub_ok a b) Tryz.call257 ?_
    refine hQ1 _ _ (S_ ?_);clear hQ1 Q1
    refine e_ Tryz.results254 ?_
    first
    | exact True.intro
    | simp only [two, *, ↓reduceIte, Bool.false_eq_true]
  refine g_ [1,2,7,18] ?_
  refine c_ (fun hc2 => ?_) fun hc2 => ?_
  ·
    refine n_ ?_
    refine wpM_regionK [6] rfl fun Q1 hQ1 => ?_
    refine S_ ?_
    refine cp_ (imul_ok a b) Tryz.call258 ?_
    refine hQ1 _ _ (S_ ?_);clear hQ1 Q1
    refine e_ Tryz.results254 ?_
    first
    | exact True.intro
    | simp only [two, *, ↓reduceIte, Bool.false_eq_true]
  refine g_ [1,2,7,23] ?_
  refine c_ (fun hc3 => ?_) fun hc3 => ?_
  ·
    refine n_ ?_
    refine wpM_regionK [6] rfl fun Q1 hQ1 => ?_
    refine S_ ?_
    refine cp_ (iis_ok (decide (a < b))) Tryz.call127 ?_
    refine hQ1 _ _ (S_ ?_);clear hQ1 Q1
    refine e_ Tryz.results254 ?_
    first
    | exact True.intro
    | simp only [two, *, ↓reduceIte, Bool.false_eq_true]
  refine g_ [1,2,7,29] ?_
  refine c_ (fun hc4 => ?_) fun hc4 => ?_
  ·
    refine n_ ?_
    refine wpM_regionK [6] rfl fun Q1 hQ1 => ?_
    refine S_ ?_
    refine cp_ (iis_ok (a == b)) Tryz.call127 ?_
    refine hQ1 _ _ (S_ ?_);clear hQ1 Q1
    refine e_ Tryz.results254 ?_
    first
    | exact True.intro
    | simp only [two, *, ↓reduceIte, Bool.false_eq_true]
  refine g_ [1,2,35] ?_
  refine c_ (fun hc5 => ?_) fun hc5 => ?_
  ·
    refine n_ ?_
    refine wpM_regionK [6] rfl fun Q1 hQ1 => ?_
    refine SD_ ?_
    refine cpD_ (ion_ok a) Tryz.call113 ?_
    first | refine cg_ (fun hb => ion_ok b) Tryz.call113 ?_ | refine cpD_ (ion_ok b) Tryz.call113 ?_
    refine cpD_ (iis_ok (a != 0 && b != 0)) Tryz.call127 ?_
    refine hQ1 _ _ (S_ ?_);clear hQ1 Q1
    refine e_ Tryz.results254 ?_
    first
    | exact True.intro
    | simp only [two, *, ↓reduceIte, Bool.false_eq_true]
  refine n_ ?_
  refine wpM_regionK [6] rfl fun Q1 hQ1 => ?_
  refine SD_ ?_
  refine cpD_ (ion_ok a) Tryz.call113 ?_
  first | refine cg_ (fun hb => ion_ok b) Tryz.call113 ?_ | refine cpD_ (ion_ok b) Tryz.call113 ?_
  refine cpD_ (iis_ok (a != 0 || b != 0)) Tryz.call127 ?_
  refine hQ1 _ _ (S_ ?_);clear hQ1 Q1
  refine e_ Tryz.results254 ?_
  first
  | exact True.intro
  | simp only [two, *, ↓reduceIte, Bool.false_eq_true]
def mobj (id : Nat) (m : MM) : List (Nat × AObj) := [(id, .cells 193 (ints m.flat))]
@[go_sem] theorem mobj_eq (id : Nat) (m : MM) : mobj id m = [(id, .cells 193 (ints m.flat))] := rfl
def OfK (m : MM) (id fo : Nat) (e : Ex) : Prop := CallF Tryz.prog fo [.agg [], .ptr id 0, .agg e.cs] (mobj id m) 0 (fun _ o => o = { rs := [.int .i64 (e.of m)] })
theorem of1_ok (m : MM) (id : Nat) (e : Ex) (h : e.kind = 1) : OfK m id 242 e := by
  have he : e.of m = e.n := by rw [Ex.of_eq, h]; rfl
  unfold OfK; rw [he]
  refine callF_of' Tryz.func242 rfl Tryz.ntmps242 (by simp) ?_
  intro f0 B ns Q hB hns hQ
  have hid : id < B := hB id (by simp [hasKey, lk, mobj])
  obtain rfl : ns = [] := List.eq_nil_of_length_eq_zero hns
  refine g_ [5] ?_
  refine g_ [6] ?_
  refine wpM_ret ?_
  try refine S_ ?_
  refine hQ _ _ (ret0 [] rfl rfl rfl (by rw [Tryz.results242] <;> simp (maxSteps := 1000000) -implicitDefEqProofs (disch := omega) only [go_sem] <;> rfl) rfl ?_ ?_ ?_ ?_)
  all_goals simp -implicitDefEqProofs (disch := omega) only [go_sem, true_or, or_true]
theorem of2_ok (m : MM) (hm : m.Six) (id : Nat) (e : Ex) (h : e.kind = 2) (ha : e.a.ok = true) : OfK m id 246 e := by
  have he : e.of m = m.flat.getD (pos e.a) 0 := by rw [Ex.of_eq, h, MM.flat_get m hm e.a ha]; rfl
  unfold OfK; rw [he]
  refine callF_of' Tryz.func246 rfl Tryz.ntmps246 (by simp) ?_
  intro f0 B ns Q hB hns hQ
  have hid : id < B := hB id (by simp [hasKey, lk, mobj])
  obtain rfl : ns = [] := List.eq_nil_of_length_eq_zero hns
  refine g_ [1,5] ?_
  refine n_ ?_
  refine wpM_regionK [6] rfl fun Q1 hQ1 => ?_
  refine S_ ?_
  refine call_rs (iget_ok id m.flat e.a ha (MM.flat_len hm)) T_ Tryz.call249 rfl rfl rfl F_ ?_
  refine S_ ?_
  refine hQ1 _ _ (S_ ?_);clear hQ1 Q1
  refine wpM_ret ?_
  try refine S_ ?_
  refine hQ _ _ (ret0 [] rfl rfl rfl (by rw [Tryz.results246] <;> simp (maxSteps := 1000000) -implicitDefEqProofs (disch := omega) only [go_sem] <;> rfl) rfl ?_ ?_ ?_ ?_)
  all_goals simp -implicitDefEqProofs (disch := omega) only [go_sem, true_or, or_true]
def RecK (m : MM) (id : Nat) (e : Ex) : Prop := CallF Tryz.prog 114 [.ptr id 0, .agg e.cs] (mobj id m) 0 (fun _ o => o = { rs := [.int .i64 (e.of m)] })
theorem of4_ok (m : MM) (id : Nat) (e : Ex) (h : e.kind = 10) (hl : 0 < e.kids.length) (hr : RecK m id (e.kids.getD 0 default)) : OfK m id 261 e := by
  have he : e.of m = numIs (!((e.kids.getD 0 default).of m != 0)) := by rw [Ex.of_eq m e, h, Ex.ofL_get _ _ 0 hl]; rfl
  unfold OfK; rw [he]
  refine callF_of' Tryz.func261 rfl Tryz.ntmps261 (by simp) ?_
  intro f0 B ns Q hB hns hQ
  have hid : id < B := hB id (by simp [hasKey, lk, mobj])
  obtain rfl : ns = [] := List.eq_nil_of_length_eq_zero hns
  refine g_ [1,5] ?_
  refine n_ ?_
  refine wpM_regionK [6] rfl fun Q1 hQ1 => ?_
  refine S_ ?_
  refine call_rs hr T_ Tryz.call114 rfl rfl rfl F_ ?_
  refine S_ ?_
  refine cp_ (ion_ok ((e.kids.getD 0 default).of m)) Tryz.call113 ?_
  refine cp_ (iis_ok (!((e.kids.getD 0 default).of m != 0))) Tryz.call127 ?_
  refine hQ1 _ _ (S_ ?_);clear hQ1 Q1
  refine wpM_ret ?_
  try refine S_ ?_
  refine hQ _ _ (ret0 [] rfl rfl rfl (by rw [Tryz.results261] <;> simp (maxSteps := 1000000) -implicitDefEqProofs (disch := omega) only [go_sem] <;> rfl) rfl ?_ ?_ ?_ ?_)
  all_goals simp -implicitDefEqProofs (disch := omega) only [go_sem, true_or, or_true]
theorem of3_ok (m : MM) (id : Nat) (e : Ex) (h1 : (e.kind == 1) = false) (h2 : (e.kind == 2) = false) (h3 : (e.kind == 10) = false) (hl : 1 < e.kids.length) (hr : RecK m id (e.kids.getD 0 default)) (hr1 : RecK m id (e.kids.getD 1 default)) : OfK m id 251 e := by
  have hl0 : 0 < e.kids.length := by omega
  have he : e.of m = two e.kind ((e.kids.getD 0 default).of m) ((e.kids.getD 1 default).of m) := by rw [Ex.of_eq m e, h1, h2, h3, Ex.ofL_get _ _ 0 hl0, Ex.ofL_get _ _ 1 hl]; rfl
  unfold OfK; rw [he]
  refine callF_of' Tryz.func251 rfl Tryz.ntmps251 (by simp) ?_
  intro f0 B ns Q hB hns hQ
  have hid : id < B := hB id (by simp [hasKey, lk, mobj])
  obtain rfl : ns = [] := List.eq_nil_of_length_eq_zero hns
  refine g_ [1,5] ?_
  refine n_ ?_
  refine dr_ mixed [6] 0 2 [B + 1, id] [⟨[5],[],[],[],false⟩,⟨[7],[0],[],[],false⟩,⟨[1],[],[],[],false⟩,⟨[5],[],[],[],false⟩,⟨[10],[0],[],[],false⟩,⟨[11],[],[],[],false⟩,⟨[12],[],[],[],false⟩,⟨[9,13],[1],[],[],true⟩,⟨[1],[],[],[],false⟩,⟨[5],[],[],[],false⟩,⟨[16],[0],[],[],false⟩,⟨[17],[],[],[],false⟩,⟨[18],[],[],[],false⟩,⟨[15,19],[1],[],[],true⟩,⟨[8,14,20],[],[],[],true⟩,⟨[21],[],[],[],false⟩] [0,1,2,3,4,5,6,8,9,10,11,12,7,13,14,15] [[],[0],[],[],[3],[3,4],[3,4,5],[2,3,4,5,6],[],[],[9],[9,10],[9,10,11],[2,3,4,5,6,7,8,9,10,11,12],[0,1,2,3,4,5,6,7,8,9,10,11,12,13],[0,1,2,3,4,5,6,7,8,9,10,11,12,13,14]] 2 (htbl := by simp; omega) (hnm := by simp) ?_
  intro O A K hO hA hK;simp only [atL_cons,atL_nil,Nat.reduceAdd,Nat.zero_add] at hO hA
  refine SO_ ?_
  refine loud_r hr (subG_spec T_) Tryz.call114 rfl rfl F_ rfl ?_
  refine SO_ ?_
  refine loud_r hr1 (subG_spec T_) Tryz.call114 rfl rfl F_ rfl ?_
  refine SO_ ?_
  refine lp_ (itwo_ok e.kind ((e.kids.getD 0 default).of m) ((e.kids.getD 1 default).of m)) Tryz.call254 ?_
  refine hK _ (S_ ?_);clear hK K hO hA O A
  refine wpM_ret ?_
  try refine S_ ?_
  refine hQ _ _ (ret0 [] rfl rfl rfl (by rw [Tryz.results251] <;> simp (maxSteps := 1000000) -implicitDefEqProofs (disch := omega) only [go_sem] <;> rfl) rfl ?_ ?_ ?_ ?_)
  all_goals simp -implicitDefEqProofs (disch := omega) only [go_sem, true_or, or_true]
theorem rec_of (m : MM) (hm : m.Six) (id d : Nat) (e : Ex) (h : formD (d + 1) e = true) (ih : ∀ i, i < e.kids.length → RecK m id (e.kids.getD i default)) : ∃ t fo, recOf e.kind = .iface t (.agg []) ∧
    (∀ args w, (callFunc fo args).run Tryz.prog w = .ok (.enter fo args) w) ∧ (∀ (v : Value) w, (method (Tryz.prog.types.size + Made.depth) t v "loop.example/stopgate/impl.of").run Tryz.prog w = .ok (fo, v) w) ∧ OfK m id fo e := by
  obtain ⟨hk, ha, _⟩ := form_inv h
  by_cases h1 : e.kind = 1
  · exact ⟨236, 242, by rw [h1]; rfl, Tryz.call242, method_run info236 Tryz.underlying236 (by simp) (by rfl) rfl rfl, of1_ok m id e h1⟩
  by_cases h2 : e.kind = 2
  · exact ⟨237, 246, by rw [h2]; rfl, Tryz.call246, method_run info237 Tryz.underlying237 (by simp) (by rfl) rfl rfl, of2_ok m hm id e h2 (ha h2)⟩
  by_cases h10 : e.kind = 10
  · have hl : 0 < e.kids.length := by rw [h10] at hk; simp [kidsN] at hk; omega
    exact ⟨239, 261, by rw [h10]; rfl, Tryz.call261, method_run info239 Tryz.underlying239 (by simp) (by rfl) rfl rfl, of4_ok m id e h10 hl (ih 0 hl)⟩
  have g1 : (e.kind == 1) = false := by simpa using h1
  have g2 : (e.kind == 2) = false := by simpa using h2
  have g10 : (e.kind == 10) = false := by simpa using h10
  have h2' := kidsN_two g1 g2 g10 (by omega)
  have ht : isTwo e.kind = true := by
    unfold kidsN at h2'
    rw [g1, g2, g10] at h2'
    simp only [Bool.or_self, Bool.false_eq_true, if_false] at h2'
    unfold isTwo
    cases hh : (decide (e.kind ≥ 3) && decide (e.kind ≤ 9))
    · rw [hh] at h2'; simp at h2'
    · rfl
  have hl : 1 < e.kids.length := by omega
  exact ⟨238, 251, by simp [recOf, g1, g2, ht], Tryz.call251, method_run info238 Tryz.underlying238 (by simp) (by rfl) rfl rfl, of3_ok m id e g1 g2 g10 hl (ih 0 (by omega)) (ih 1 hl)⟩
theorem reckon_ok (m : MM) (hm : m.Six) (id : Nat) (d : Nat) : ∀ (e : Ex), formD d e = true → RecK m id e := by
  induction d with
  | zero => intro e h; cases h
  | succ d ih =>
    intro e he
    have hkids := (form_inv he).2.2
    obtain ⟨t, fo, hr, q1, q2, q3⟩ := rec_of m hm id d e he (fun i hi => ih _ (hkids i hi))
    unfold RecK
    refine callF_of' Tryz.func114 rfl Tryz.ntmps114 (by simp) ?_
    intro f0 B ns Q hB hns hQ
    have hid : id < B := hB id (by simp [hasKey, lk, mobj])
    obtain rfl : ns = [] := List.eq_nil_of_length_eq_zero hns
    refine g_ [0,3] ?_
    refine n_ ?_
    refine dr_ mixed [4] 0 2 [B, id] [⟨[3],[],[],[],false⟩,⟨[5],[0],[],[],false⟩,⟨[6],[],[],[],true⟩,⟨[0],[],[],[],false⟩,⟨[3],[0],[],[],false⟩,⟨[7,8,9],[1],[],[],true⟩,⟨[10],[],[],[],false⟩] [0,1,3,4,2,5,6] [[],[0],[0,1],[],[],[0,1,2,3,4],[0,1,2,3,4,5]] 2 (htbl := by simp; omega) (hnm := by simp) ?_
    intro O A K hO hA hK;simp only [atL_cons,atL_nil,Nat.reduceAdd,Nat.zero_add] at hO hA
    refine SO_ ?_
    refine lp_ (recOf_ok e.kind) Tryz.call152 ?_
    refine loud_inv (l := mobj id m) (ps := [.ptr id 0, .agg e.cs]) (k := 0) q3 q1 q2 rfl (by simp -implicitDefEqProofs (disch := omega) only [go_sem, hr]) F_ (subG_spec T_) rfl ?_
    rintro out rfl
    refine ⟨rfl, ?_⟩
    refine SO_ ?_
    refine hK _ (S_ ?_);clear hK K hO hA O A
    refine wpM_ret ?_
    try refine S_ ?_
    refine hQ _ _ (ret0 [] rfl rfl rfl (by rw [Tryz.results114] <;> simp (maxSteps := 1000000) -implicitDefEqProofs (disch := omega) only [go_sem] <;> rfl) rfl ?_ ?_ ?_ ?_)
    all_goals simp -implicitDefEqProofs (disch := omega) only [go_sem, true_or, or_true]
theorem flat_dt (m : MM) (hm : m.Six) : (m.flat.drop 0).take 6 = m.i ∧ (m.flat.drop 6).take 6 = m.o ∧ (m.flat.drop 12).take 6 = m.v := by
  have e1 := hm.i
  have e2 := hm.o
  have e3 := hm.v
  unfold MM.flat
  refine ⟨?_, ?_, ?_⟩
  · rw [List.drop_zero, List.take_append_of_le_length (by omega), List.take_of_length_le (by omega)]
  · rw [List.drop_append_of_le_length (by omega), List.drop_eq_nil_of_le (by omega), List.nil_append, List.take_append_of_le_length (by omega), List.take_of_length_le (by omega)]
  · rw [show m.i ++ (m.o ++ m.v) = (m.i ++ m.o) ++ m.v by simp, List.drop_append_of_le_length (by simp; omega), List.drop_eq_nil_of_le (by simp; omega), List.nil_append, List.take_of_length_le (by omega)]
theorem mem_ok (m : MM) (hm : m.Six) (id : Nat) : CallF Tryz.prog 76 [.ptr id 0] (mobj id m) 3 (fun ns o => ∃ x y z, ns = [x, y, z] ∧ o = { rs := [.agg (ocs x y z)], nw := m.ol x y z }) := by
  have hlen := MM.flat_len hm
  obtain ⟨d1, d2, d3⟩ := flat_dt m hm
  refine callF_of' Tryz.func76 rfl Tryz.ntmps76 (by simp) ?_
  intro f0 B ns Q hB hns hQ
  have hid : id < B := hB id (by simp [hasKey, lk, mobj])
  obtain ⟨x, y, z, rfl⟩ : ∃ x y z, ns = [x, y, z] := by
    match ns, hns with
    | [x, y, z], _ => exact ⟨x, y, z, rfl⟩
  refine g_ [0,2] ?_
  refine n_ ?_
  refine dr_ mixed [2] 3 2 [B, id, B + 1, B + 2, B + 3] [⟨[0],[],[],[],false⟩,⟨[3],[],[],[],false⟩,⟨[4],[1],[],[],false⟩,⟨[5],[1],[],[],false⟩,⟨[6],[1],[],[],false⟩,⟨[7],[1],[],[2],true⟩,⟨[0],[],[],[],false⟩,⟨[9],[],[],[],false⟩,⟨[10],[1],[],[],false⟩,⟨[11],[1],[],[],false⟩,⟨[12],[1],[],[],false⟩,⟨[13],[1],[],[3],true⟩,⟨[0],[],[],[],false⟩,⟨[15],[],[],[],false⟩,⟨[16],[1],[],[],false⟩,⟨[17],[1],[],[],false⟩,⟨[18],[1],[],[],false⟩,⟨[19],[1],[],[4],true⟩,⟨[8,14,20],[],[],[],false⟩,⟨[2,21],[0],[0],[],false⟩] [0,1,2,3,4,6,7,8,9,10,12,13,14,15,16,5,11,17,18,19] [[],[0],[0,1],[0,1,2],[0,1,2,3],[0,1,2,3,4],[],[6],[6,7],[6,7,8],[6,7,8,9],[0,1,2,3,4,5,6,7,8,9,10],[],[12],[12,13],[12,13,14],[12,13,14,15],[0,1,2,3,4,5,6,7,8,9,10,11,12,13,14,15,16],[0,1,2,3,4,5,6,7,8,9,10,11,12,13,14,15,16,17],[0,1,2,3,4,5,6,7,8,9,10,11,12,13,14,15,16,17,18]] 5 (htbl := by simp; omega) (hnm := by simp) ?_
  intro O A K hO hA hK;simp only [atL_cons,atL_nil,Nat.reduceAdd,Nat.zero_add] at hO hA
  refine SO_ ?_
  refine loud_fn (first := []) (cap := []) (ps := [.sl 3 id 0 6]) (l := mobj id m) (cloneI_ok id 0 193 m.flat (by omega)) Tryz.call129 rfl rfl F_ (subG_spec T_) rfl ?_
  rintro out ⟨x', hn', rfl⟩
  injection hn' with hn1 hn'
  subst hn1
  rw [d1]
  refine ⟨rfl, ?_⟩
  refine SO_ ?_
  refine loud_fn (first := []) (cap := []) (ps := [.sl 3 id 6 6]) (l := mobj id m) (cloneI_ok id 6 193 m.flat (by omega)) Tryz.call129 rfl rfl F_ (subG_spec T_) rfl ?_
  rintro out ⟨x', hn', rfl⟩
  injection hn' with hn1 hn'
  subst hn1
  rw [d2]
  refine ⟨rfl, ?_⟩
  refine SO_ ?_
  refine loud_fn (first := []) (cap := []) (ps := [.sl 3 id 12 6]) (l := mobj id m) (cloneI_ok id 12 193 m.flat (by omega)) Tryz.call129 rfl rfl F_ (subG_spec T_) rfl ?_
  rintro out ⟨x', hn', rfl⟩
  injection hn' with hn1 hn'
  subst hn1
  rw [d3]
  refine ⟨rfl, ?_⟩
  refine SO_ ?_
  refine hK _ (S_ ?_);clear hK K hO hA O A
  refine wpM_ret ?_
  try refine S_ ?_
  refine hQ _ _ (retK [B + 1, B + 2, B + 3] [] (m.ol x y z) rfl rfl rfl (by rw [Tryz.results76] <;> simp (maxSteps := 1000000) -implicitDefEqProofs (disch := omega) only [go_sem] <;> rfl) ?_ ⟨x, y, z, rfl, rfl⟩ ?_ ?_ ?_ ?_ ?_ ?_)
  all_goals (first | (simp -implicitDefEqProofs (disch := omega) only [go_sem, List.nodup_cons, List.nodup_nil, true_or, or_true, List.mem_cons, List.not_mem_nil]; done) | (simp -implicitDefEqProofs (disch := omega) only [go_sem, List.nodup_cons, List.nodup_nil, true_or, or_true, List.mem_cons, List.not_mem_nil]; omega))
end Go.Proofs.YtnmfmeehmieifaaGreat
namespace Go.Proofs.YtnmfmeehmieifaaGreat
open Go Sg
set_option linter.unusedSectionVars false
variable [Glob]
set_option maxRecDepth 100000
set_option linter.unusedSimpArgs false
set_option linter.unusedVariables false
set_option maxHeartbeats 4000000
theorem readMem_ok' (m : MM) (hm : m.Sm) : CallF Tryz.prog 108 [.agg m.cs] [] 1 (fun ns o => ∃ x p l, ns = [x] ∧ ((m.ok = true ∧ p = .ptr x 0 ∧ l = m.flat) ∨ (m.ok = false ∧ p = .nilp)) ∧ o = { rs := [p, .bool m.ok], nw := [(x, .cells 193 (ints l))] }) := by
  refine (readMem_ok m hm).mono ?_
  rintro ns o ⟨x, rfl, ⟨h, rfl⟩ | ⟨h, l, rfl⟩⟩
  · exact ⟨x, _, _, rfl, .inl ⟨h, rfl, rfl⟩, by rw [h]⟩
  · exact ⟨x, _, l, rfl, .inr ⟨h, rfl⟩, by rw [h]⟩
@[go_sem] theorem subL_bls (θ : TypeId → Nat → Nat → Nat → Option PV) (l : List Bool) : PV.subL θ (bls l) = bls l := by
  induction l with
  | nil => rfl
  | cons x l ih => simp only [bls, List.map_cons, PV.subL, PV.sub] at ih ⊢; rw [ih]
@[go_sem] theorem subL_ints (θ : TypeId → Nat → Nat → Nat → Option PV) (l : List Int) : PV.subL θ (ints l) = ints l := by
  induction l with
  | nil => rfl
  | cons x l ih => simp only [ints, List.map_cons, PV.subL, PV.sub] at ih ⊢; rw [ih]
theorem loc_eq (e : Ex) : (recNil e.kind || (e.kids.length : Int) != kidsR e.kind || !shapeR e) =
    (kidsN e.kind != (e.kids.length : Int) || ((e.kind == 1 && cut e.n != e.n) || (e.kind != 1 && e.n != 0)) || ((e.kind == 2 && !e.a.ok) || (e.kind != 2 && !(e.a.kind == 0 && e.a.at' == 0)))) := by
  unfold recNil kidsR shapeR kidsN noAddr isTwo
  simp only [isNum_cut]
  have hL : 0 ≤ (e.kids.length : Int) := by omega
  generalize (e.kids.length : Int) = L at *
  generalize cut e.n = cn
  generalize e.n = n
  generalize e.a.ok = ok
  generalize e.a.kind = ak
  generalize e.a.at' = aa
  generalize e.kind = k
  by_cases h1 : k = 1
  · subst h1
    rw [Bool.eq_iff_iff]
    cases ok <;> simp <;> omega
  by_cases h2 : k = 2
  · subst h2
    rw [Bool.eq_iff_iff]
    cases ok <;> simp <;> omega
  by_cases h10 : k = 10
  · subst h10
    rw [Bool.eq_iff_iff]
    cases ok <;> simp <;> omega
  have e1 : (k == 1) = false := by simpa using h1
  have e2 : (k == 2) = false := by simpa using h2
  have e3 : (k == 10) = false := by simpa using h10
  rw [e1, e2, e3]
  by_cases h3 : 3 ≤ k ∧ k ≤ 9
  · have f1 : decide (k ≥ 3) = true := by simp; omega
    have f2 : decide (k ≤ 9) = true := by simp; omega
    rw [f1, f2, Bool.eq_iff_iff]
    cases ok <;> simp <;> omega
  · have f : (decide (k ≥ 3) && decide (k ≤ 9)) = false := by
      rw [Bool.and_eq_false_iff]; simp; omega
    have fk : ((k ≥ 3) ∧ (k ≤ 9)) = False := by simp; omega
    rw [f, Bool.eq_iff_iff]
    cases ok <;> simp [bne, h1, h2] <;> omega
theorem form_eq (d : Nat) (e : Ex) : formD (d + 1) e = (!(recNil e.kind || (e.kids.length : Int) != kidsR e.kind || !shapeR e) && e.kids.all (formD d)) := by
  rw [loc_eq, formD]
  cases (kidsN e.kind != (e.kids.length : Int)) <;> simp only [Bool.false_eq_true, if_false, if_true, Bool.true_or, Bool.false_or, Bool.not_true, Bool.false_and]
  cases ((e.kind == 1 && cut e.n != e.n) || (e.kind != 1 && e.n != 0)) <;> simp only [Bool.false_eq_true, if_false, if_true, Bool.true_or, Bool.false_or, Bool.not_true, Bool.false_and]
  cases ((e.kind == 2 && !e.a.ok) || (e.kind != 2 && !(e.a.kind == 0 && e.a.at' == 0))) <;> simp
theorem bad_eq (c deep : Nat) (e : Ex) : badE ((c : Int) + 1) (deep : Int) e = (decide (14 ≤ c) || decide (6 ≤ deep) || (recNil e.kind || (e.kids.length : Int) != kidsR e.kind || !shapeR e)) := by
  unfold badE
  have h1 : decide ((c : Int) + 1 > 14) = decide (14 ≤ c) := by simp; omega
  have h2 : decide ((deep : Int) ≥ 6) = decide (6 ≤ deep) := by simp; omega
  rw [h1, h2]
  simp only [Bool.or_assoc]
theorem vis_sound (d : Nat) : d ≤ 6 → ∀ (e : Ex) (c c' : Nat), vis e (6 - d) c = some c' → formD d e = true ∧ c' = c + manyD d e ∧ c' ≤ 14 := by
  induction d with
  | zero =>
    intro _ e c c' h
    rw [vis_eq, bad_eq] at h
    simp at h
  | succ d ih =>
    intro hd e c c' h
    have hL : ∀ (l : List Ex) (c c' : Nat), c ≤ 14 → visL l (6 - d) c = some c' → l.all (formD d) = true ∧ c' = c + (l.map (manyD d)).sum ∧ c' ≤ 14 := by
      intro l
      induction l with
      | nil => intro c c' hc h; simp [visL] at h; subst h; simp [hc]
      | cons x l ihl =>
        intro c c' hc h
        simp only [visL] at h
        split at h
        · cases h
        · rename_i c1 h1
          obtain ⟨a1, a2, a3⟩ := ih (by omega) x c c1 h1
          obtain ⟨b1, b2, b3⟩ := ihl c1 c' a3 h
          refine ⟨by simp [a1, b1], ?_, b3⟩
          simp only [List.map_cons, List.sum_cons]; omega
    rw [vis_eq, bad_eq] at h
    split at h
    · cases h
    · rename_i hb
      simp only [Bool.or_eq_true, decide_eq_true_eq, not_or] at hb
      obtain ⟨⟨hb1, hb2⟩, hb3⟩ := hb
      have hdeep : 6 - (d + 1) + 1 = 6 - d := by omega
      rw [hdeep] at h
      obtain ⟨a1, a2, a3⟩ := hL e.kids (c + 1) c' (by omega) h
      refine ⟨?_, ?_, a3⟩
      · rw [form_eq, a1]
        simp only [Bool.and_true, Bool.not_eq_true', Bool.or_eq_false_iff]
        simp only [Bool.not_eq_true] at hb3
        exact ⟨⟨hb3.1.1, hb3.1.2⟩, hb3.2⟩
      · simp only [manyD]; omega
theorem vis_complete (d : Nat) : d ≤ 6 → ∀ (e : Ex) (c : Nat), formD d e = true → c + manyD d e ≤ 14 → vis e (6 - d) c = some (c + manyD d e) := by
  induction d with
  | zero => intro _ e c h; cases h
  | succ d ih =>
    intro hd e c hf hm
    have hL : ∀ (l : List Ex) (c : Nat), l.all (formD d) = true → c + (l.map (manyD d)).sum ≤ 14 → visL l (6 - d) c = some (c + (l.map (manyD d)).sum) := by
      intro l
      induction l with
      | nil => intro c _ _; simp [visL]
      | cons x l ihl =>
        intro c hl hs
        simp only [List.all_cons, Bool.and_eq_true] at hl
        simp only [List.map_cons, List.sum_cons] at hs ⊢
        simp only [visL, ih (by omega) x c hl.1 (by omega)]
        rw [ihl _ hl.2 (by omega)]
        congr 1; omega
    rw [form_eq] at hf
    simp only [Bool.and_eq_true, Bool.not_eq_true'] at hf
    simp only [manyD] at hm ⊢
    rw [vis_eq, bad_eq, hf.1]
    have h1 : decide (14 ≤ c) = false := by simp; omega
    have h2 : decide (6 ≤ 6 - (d + 1)) = false := by simp; omega
    rw [h1, h2]
    have hdeep : 6 - (d + 1) + 1 = 6 - d := by omega
    simp only [Bool.or_self, Bool.false_eq_true, if_false, hdeep]
    rw [hL e.kids (c + 1) hf.2 (by omega)]
    congr 1; omega
theorem vis_ok (e : Ex) : (vis e 0 0).isSome = e.ok := by
  rw [Bool.eq_iff_iff, Ex.ok, Bool.and_eq_true, decide_eq_true_eq]
  constructor
  · intro h
    obtain ⟨c', hc⟩ := Option.isSome_iff_exists.1 h
    obtain ⟨a1, a2, a3⟩ := vis_sound 6 (by omega) e 0 c' hc
    exact ⟨a1, by omega⟩
  · rintro ⟨h1, h2⟩
    have := vis_complete 6 (by omega) e 0 h1 (by omega)
    simp at this
    rw [this]; rfl
end Go.Proofs.YtnmfmeehmieifaaGreat
namespace Go.Proofs.YtnmfmeehmieifaaGreat
open Go Sg
set_option linter.unusedSectionVars false
variable [Glob]
set_option maxRecDepth 100000
set_option linter.unusedSimpArgs false
set_option linter.unusedVariables false
set_option maxHeartbeats 4000000
structure Trn where
  fr : List Int
  to' : List Int
  w : Ex
  deriving Inhabited
structure GAct where
  kind : Int
  step : Int
  to' : AD
  deriving DecidableEq, Inhabited
structure Cht where
  steps : Int
  ts : List Trn
  as' : List GAct
  deriving Inhabited
structure Mrk where
  on : List Bool
  kept : List Bool
  deriving DecidableEq, Inhabited
def Trn.cs (t : Trn) : List PV := [.rows 3 (rowsI t.fr), .rows 3 (rowsI t.to'), .int .i64 t.w.kind, .int .i64 t.w.n, .int .i64 t.w.a.kind, .int .i64 t.w.a.at', .rows 77 (Ex.csL t.w.kids)]
@[go_sem] theorem Trn.cs_eq (t : Trn) : t.cs = [.rows 3 (rowsI t.fr), .rows 3 (rowsI t.to'), .int .i64 t.w.kind, .int .i64 t.w.n, .int .i64 t.w.a.kind, .int .i64 t.w.a.at', .rows 77 (Ex.csL t.w.kids)] := rfl
def GAct.cs (a : GAct) : List PV := [.int .i64 a.kind, .int .i64 a.step, .int .i64 a.to'.kind, .int .i64 a.to'.at']
@[go_sem] theorem GAct.cs_eq (a : GAct) : a.cs = [.int .i64 a.kind, .int .i64 a.step, .int .i64 a.to'.kind, .int .i64 a.to'.at'] := rfl
def rowsT (l : List Trn) : List (List PV) := l.map Trn.cs
def rowsA (l : List GAct) : List (List PV) := l.map GAct.cs
@[go_sem] theorem rowsT_len (l : List Trn) : (rowsT l).length = l.length := by simp [rowsT]
@[go_sem] theorem rowsT_getD (l : List Trn) (k : Nat) (h : k < l.length) : (rowsT l).getD k [] = (l.getD k default).cs := by simp [rowsT, List.getD, h]
@[go_sem] theorem rowsA_len (l : List GAct) : (rowsA l).length = l.length := by simp [rowsA]
@[go_sem] theorem rowsA_getD (l : List GAct) (k : Nat) (h : k < l.length) : (rowsA l).getD k [] = (l.getD k default).cs := by simp [rowsA, List.getD, h]
def Cht.cs (c : Cht) : List PV := [.int .i64 c.steps, .rows 154 (rowsT c.ts), .rows 158 (rowsA c.as')]
@[go_sem] theorem Cht.cs_eq (c : Cht) : c.cs = [.int .i64 c.steps, .rows 154 (rowsT c.ts), .rows 158 (rowsA c.as')] := rfl
def Mrk.cs (k : Mrk) : List PV := [.rows 4 (rowsB k.on), .rows 4 (rowsB k.kept)]
@[go_sem] theorem Mrk.cs_eq (k : Mrk) : k.cs = [.rows 4 (rowsB k.on), .rows 4 (rowsB k.kept)] := rfl
def plBad (l : List Int) (b : Int) (i : Nat) : Bool := decide (l.getD i 0 < 0) || decide (l.getD i 0 ≥ b) || (decide ((i : Int) > 0) && decide (l.getD i 0 ≤ l.getD ((i : Int) - 1).toNat 0))
def plOk (l : List Int) (b : Int) : Bool := (List.range l.length).all (fun i => !plBad l b i) && decide ((l.length : Int) > 0)
theorem plOk_ok (l : List Int) (b : Int) (hl : l.length ≤ 1099511627776) : PureF Tryz.prog 100 [.rows 3 (rowsI l), .int .i64 b] [.bool (plOk l b)] := by
  refine pureF_of Tryz.func100 rfl Tryz.ntmps100 (by simp) T_ ?_
  intro f0 B Q hQ
  refine g_ [0,1] ?_
  refine g_ [0,1,5] ?_
  refine n_ ?_
  refine wpM_loopS (fun s n s' => ∃ (i0 M0 : Nat) , i0 + n = l.length ∧ s.M ≤ M0 ∧ ((List.range i0).all (fun i => !plBad l b i) = true) ∧ s' = { s with env := setE 5 (.int .i64 (i0 : Nat)) s.env, M := M0 }) (l.length) ?_ ?_
  ·
    refine .of' _ _ ⟨0, _, by omega, Nat.le_refl _, by simp, rfl⟩ ?_ ?_ ?_ <;> exact L_
  rintro n0 s' ⟨i0, M0, hi0, hM0, hv0, rfl⟩
  try dsimp only at hM0
  try refine S_ ?_
  refine g_ [0,1,5,9] ?_
  refine c_ (fun hc0 => ?_) fun hc0 => ?_
  ·
    have hl0 : i0 < l.length := by omega
    refine n_ ?_
    refine dr_ mixed [0,1,5,40] 0 0 [] [⟨[0],[],[],[],false⟩,⟨[5],[],[],[],false⟩,⟨[12,13],[],[],[],false⟩,⟨[14],[],[],[],false⟩,⟨[15],[],[],[],false⟩,⟨[16],[],[],[],false⟩,⟨[0,17],[],[],[],false⟩,⟨[5,17],[],[],[],false⟩,⟨[17,18,19],[],[],[],false⟩,⟨[17,20],[],[],[],false⟩,⟨[1,17],[],[],[],false⟩,⟨[17,21,22],[],[],[],false⟩,⟨[17,23],[],[],[],false⟩,⟨[24],[],[],[],false⟩,⟨[5,25],[],[],[],false⟩,⟨[25,26],[],[],[],false⟩,⟨[25,27],[],[],[],false⟩,⟨[0,28],[],[],[],false⟩,⟨[5,28],[],[],[],false⟩,⟨[28,29,30],[],[],[],false⟩,⟨[28,31],[],[],[],false⟩,⟨[0,28],[],[],[],false⟩,⟨[5,28],[],[],[],false⟩,⟨[28,34],[],[],[],false⟩,⟨[28,33,35],[],[],[],false⟩,⟨[28,36],[],[],[],false⟩,⟨[28,32,37],[],[],[],false⟩,⟨[25,28,38],[],[],[],false⟩,⟨[25,39],[],[],[],false⟩] [0,1,2,3,4,5,6,7,8,9,10,11,12,13,14,15,16,17,18,19,20,21,22,23,24,25,26,27,28] [[],[],[0,1],[0,1,2],[0,1,2,3],[0,1,2,3,4],[0,1,2,3,4,5],[0,1,2,3,4,5],[0,1,2,3,4,5,6,7],[0,1,2,3,4,5,6,7,8],[0,1,2,3,4,5],[0,1,2,3,4,5,6,7,8,9,10],[0,1,2,3,4,5,6,7,8,9,10,11],[0,1,2,3,4,5,6,7,8,9,10,11,12],[0,1,2,3,4,5,6,7,8,9,10,11,12,13],[0,1,2,3,4,5,6,7,8,9,10,11,12,13,14],[0,1,2,3,4,5,6,7,8,9,10,11,12,13,14,15],[0,1,2,3,4,5,6,7,8,9,10,11,12,13,14,15,16],[0,1,2,3,4,5,6,7,8,9,10,11,12,13,14,15,16],[0,1,2,3,4,5,6,7,8,9,10,11,12,13,14,15,16,17,18],[0,1,2,3,4,5,6,7,8,9,10,11,12,13,14,15,16,17,18,19],[0,1,2,3,4,5,6,7,8,9,10,11,12,13,14,15,16],[0,1,2,3,4,5,6,7,8,9,10,11,12,13,14,15,16],[0,1,2,3,4,5,6,7,8,9,10,11,12,13,14,15,16,22],[0,1,2,3,4,5,6,7,8,9,10,11,12,13,14,15,16,21,22,23],[0,1,2,3,4,5,6,7,8,9,10,11,12,13,14,15,16,21,22,23,24],[0,1,2,3,4,5,6,7,8,9,10,11,12,13,14,15,16,17,18,19,20,21,22,23,24,25],[0,1,2,3,4,5,6,7,8,9,10,11,12,13,14,15,16,17,18,19,20,21,22,23,24,25,26],[0,1,2,3,4,5,6,7,8,9,10,11,12,13,14,15,16,17,18,19,20,21,22,23,24,25,26,27]] 0 ?_
    intro O A K hO hA hK;simp only [atL_cons,atL_nil,Nat.reduceAdd,Nat.zero_add] at hO hA
    refine SE_ ?_
    refine hK _ (S_ ?_);clear hK K hO hA O A
    refine c_ (fun hc1 => ?_) fun hc1 => ?_
    ·
      refine g_ [4] ?_
      refine e_ Tryz.results100 ?_
      first
      | exact True.intro
      | first | (have h1 : plBad l b i0 = true := hc1
                 rw [plOk, range_no hl0 (by rw [h1]; rfl)]; rfl) | (have : i0 = l.length := by omega
                                                                    rw [plOk, ← this, hv0]; rfl)
    refine g_ [0,1,5] ?_
    refine .of' _ _ ⟨n0 - 1, by omega, i0 + 1, _, by omega, M_, ?_, rfl⟩ L_ L_ L_
    rw [range_all, hv0]
    have : plBad l b i0 = false := hc1
    rw [this]; rfl
  refine g_ [4] ?_
  refine e_ Tryz.results100 ?_
  first
  | exact True.intro
  | first | (have h1 : plBad l b i0 = true := hc1
             rw [plOk, range_no hl0 (by rw [h1]; rfl)]; rfl) | (have : i0 = l.length := by omega
                                                                rw [plOk, ← this, hv0]; rfl)
structure Trn.Sm (t : Trn) : Prop where
  fr : t.fr.length ≤ 1099511627776
  to' : t.to'.length ≤ 1099511627776
  w : t.w.sz ≤ 1099511627776
structure Cht.Sm (c : Cht) : Prop where
  ts : c.ts.length ≤ 1099511627776
  as' : c.as'.length ≤ 1099511627776
  t : ∀ i, i < c.ts.length → (c.ts.getD i default).Sm
def Trn.bad (s : Int) (t : Trn) : Bool := !plOk t.fr s || !plOk t.to' s || !t.w.ok
def GAct.bad (s : Int) (a : GAct) : Bool := decide (a.kind < 1) || decide (a.kind > 4) || decide (a.step < 0) || decide (a.step ≥ s) || !a.to'.ok || a.to'.kind != 2
def Cht.ok (c : Cht) : Bool := if decide (c.steps < 1) || decide (c.steps > 6) || decide ((c.ts.length : Int) > 6) || decide ((c.as'.length : Int) > 6) then false
  else c.ts.all (fun t => !t.bad c.steps) && c.as'.all (fun a => !a.bad c.steps)
theorem chtOk_ok (c : Cht) (hc : c.Sm) : PureF Tryz.prog 55 [.agg c.cs] [.bool c.ok] := by
  have hts := hc.ts
  have has := hc.as'
  refine pureF_of Tryz.func55 rfl Tryz.ntmps55 (by simp) T_ ?_
  intro f0 B Q hQ
  refine g_ [1] ?_
  refine gD_ [1,26] ?_
  refine c_ (fun hc0 => ?_) fun hc0 => ?_
  ·
    refine g_ [2] ?_
    refine e_ Tryz.results55 ?_
    first
    | exact True.intro
    | unfold Cht.ok
      first
      | rw [if_pos hc0]
      | (have hb : (c.ts.getD i0 default).bad c.steps = true := hc2
         rw [if_neg (by rw [hc0]; simp), all_no (p := fun t => !t.bad c.steps) hl0 (by simp only [hb]; rfl)]; rfl)
      | (have hb : (c.as'.getD i1 default).bad c.steps = true := hc4
         rw [if_neg (by rw [hc0]; simp), all_no (l := c.as') (p := fun t => !t.bad c.steps) hl1 (by simp only [hb]; rfl), Bool.and_false])
      | rw [if_neg (by rw [hc0]; simp), all_yes hi0 hc1 hv0, all_yes hi1 hc3 hv1]; rfl
  refine g_ [1,3] ?_
  refine n_ ?_
  refine wpM_loopS (fun s n s' => ∃ (i0 M0 : Nat) , i0 + n = c.ts.length ∧ s.M ≤ M0 ∧ ((c.ts.take i0).all (fun t => !t.bad c.steps) = true) ∧ s' = { s with env := setE 3 (.int .i64 (i0 : Nat)) s.env, M := M0 }) (c.ts.length) ?_ ?_
  ·
    refine .of' _ _ ⟨0, _, by omega, Nat.le_refl _, by simp, rfl⟩ ?_ ?_ ?_ <;> exact L_
  rintro n0 s' ⟨i0, M0, hi0, hM0, hv0, rfl⟩
  try dsimp only at hM0
  try refine S_ ?_
  refine g_ [1,3,31] ?_
  refine c_ (fun hc1 => ?_) fun hc1 => ?_
  ·
    have hl0 : i0 < c.ts.length := by omega
    have ht := hc.t i0 hl0
    refine g_ [1,3,4] ?_
    refine n_ ?_
    refine wpM_regionK [1,3,58] rfl fun Q1 hQ1 => ?_
    refine SD_ ?_
    refine cpD_ (plOk_ok (c.ts.getD i0 default).fr c.steps ht.fr) Tryz.call100 ?_
    first | refine cg_ (fun hb => plOk_ok (c.ts.getD i0 default).to' c.steps ht.to') Tryz.call100 ?_ | refine cpD_ (plOk_ok (c.ts.getD i0 default).to' c.steps ht.to') Tryz.call100 ?_
    first | refine cg_ (fun hb => exprOk_ok (c.ts.getD i0 default).w ht.w) Tryz.call101 ?_ | refine cpD_ (exprOk_ok (c.ts.getD i0 default).w ht.w) Tryz.call101 ?_
    refine hQ1 _ _ (S_ ?_);clear hQ1 Q1
    refine c_ (fun hc2 => ?_) fun hc2 => ?_
    ·
      refine g_ [2] ?_
      refine e_ Tryz.results55 ?_
      first
      | exact True.intro
      | unfold Cht.ok
        first
        | rw [if_pos hc0]
        | (have hb : (c.ts.getD i0 default).bad c.steps = true := hc2
           rw [if_neg (by rw [hc0]; simp), all_no (p := fun t => !t.bad c.steps) hl0 (by simp only [hb]; rfl)]; rfl)
        | (have hb : (c.as'.getD i1 default).bad c.steps = true := hc4
           rw [if_neg (by rw [hc0]; simp), all_no (l := c.as') (p := fun t => !t.bad c.steps) hl1 (by simp only [hb]; rfl), Bool.and_false])
        | rw [if_neg (by rw [hc0]; simp), all_yes hi0 hc1 hv0, all_yes hi1 hc3 hv1]; rfl
    refine g_ [1,3] ?_
    refine .of' _ _ ⟨n0 - 1, by omega, i0 + 1, _, by omega, M_, ?_, rfl⟩ L_ L_ L_
    have hb : (c.ts.getD i0 default).bad c.steps = false := hc2
    rw [take_all _ _ _ hl0, hv0, hb]; rfl
  refine g_ [1,5] ?_
  refine n_ ?_
  refine wpM_loopS (fun s n s' => ∃ (i1 M1 : Nat) , i1 + n = c.as'.length ∧ s.M ≤ M1 ∧ ((c.as'.take i1).all (fun a => !a.bad c.steps) = true) ∧ s' = { s with env := setE 5 (.int .i64 (i1 : Nat)) s.env, M := M1 }) (c.as'.length) ?_ ?_
  ·
    refine .of' _ _ ⟨0, _, by omega, Nat.le_refl _, by simp, rfl⟩ ?_ ?_ ?_ <;> exact L_
  rintro n1 s' ⟨i1, M1, hi1, hM1, hv1, rfl⟩
  try dsimp only at hM1
  try refine S_ ?_
  refine g_ [1,5,63] ?_
  refine c_ (fun hc3 => ?_) fun hc3 => ?_
  ·
    have hl1 : i1 < c.as'.length := by omega
    refine g_ [1,5,6] ?_
    refine n_ ?_
    refine wpM_regionK [1,5,102] rfl fun Q1 hQ1 => ?_
    refine SD_ ?_
    first | refine cg_ (fun hb => addrOk_ok (c.as'.getD i1 default).to') Tryz.call102 ?_ | refine cpD_ (addrOk_ok (c.as'.getD i1 default).to') Tryz.call102 ?_
    refine hQ1 _ _ (S_ ?_);clear hQ1 Q1
    refine c_ (fun hc4 => ?_) fun hc4 => ?_
    ·
      refine g_ [2] ?_
      refine e_ Tryz.results55 ?_
      first
      | exact True.intro
      | unfold Cht.ok
        first
        | rw [if_pos hc0]
        | (have hb : (c.ts.getD i0 default).bad c.steps = true := hc2
           rw [if_neg (by rw [hc0]; simp), all_no (p := fun t => !t.bad c.steps) hl0 (by simp only [hb]; rfl)]; rfl)
        | (have hb : (c.as'.getD i1 default).bad c.steps = true := hc4
           rw [if_neg (by rw [hc0]; simp), all_no (l := c.as') (p := fun t => !t.bad c.steps) hl1 (by simp only [hb]; rfl), Bool.and_false])
        | rw [if_neg (by rw [hc0]; simp), all_yes hi0 hc1 hv0, all_yes hi1 hc3 hv1]; rfl
    refine g_ [1,5] ?_
    refine .of' _ _ ⟨n1 - 1, by omega, i1 + 1, _, by omega, M_, ?_, rfl⟩ L_ L_ L_
    have hb : (c.as'.getD i1 default).bad c.steps = false := hc4
    rw [take_all _ _ _ hl1, hv1, hb]; rfl
  refine g_ [2] ?_
  refine e_ Tryz.results55 ?_
  first
  | exact True.intro
  | unfold Cht.ok
    first
    | rw [if_pos hc0]
    | (have hb : (c.ts.getD i0 default).bad c.steps = true := hc2
       rw [if_neg (by rw [hc0]; simp), all_no (p := fun t => !t.bad c.steps) hl0 (by simp only [hb]; rfl)]; rfl)
    | (have hb : (c.as'.getD i1 default).bad c.steps = true := hc4
       rw [if_neg (by rw [hc0]; simp), all_no (l := c.as') (p := fun t => !t.bad c.steps) hl1 (by simp only [hb]; rfl), Bool.and_false])
    | rw [if_neg (by rw [hc0]; simp), all_yes hi0 hc1 hv0, all_yes hi1 hc3 hv1]; rfl
def mrkOk (c : Cht) (k : Mrk) : Bool := (k.on.length : Int) == c.steps && (k.kept.length : Int) == 6
theorem mrkOk_ok (c : Cht) (k : Mrk) : PureF Tryz.prog 56 [.agg c.cs, .agg k.cs] [.bool (mrkOk c k)] := by
  refine pureF_of Tryz.func56 rfl Tryz.ntmps56 (by simp) T_ ?_
  intro f0 B Q hQ
  refine g_ [2,3] ?_
  refine gD_ [4] ?_
  refine e_ Tryz.results56 ?_
  first
  | exact True.intro
  | rfl
def allOn (on : List Bool) (l : List Int) : Bool := l.all fun x => on.getD x.toNat false
theorem allOn_ok (on : List Bool) (l : List Int) (hl : l.length ≤ 1099511627776) (hb : ∀ i, i < l.length → 0 ≤ l.getD i 0 ∧ l.getD i 0 < (on.length : Int)) : PureF Tryz.prog 104 [.rows 4 (rowsB on), .rows 3 (rowsI l)] [.bool (allOn on l)] := by
  refine pureF_of Tryz.func104 rfl Tryz.ntmps104 (by simp) T_ ?_
  intro f0 B Q hQ
  refine g_ [0,1] ?_
  refine g_ [0,1,5] ?_
  refine n_ ?_
  refine wpM_loopS (fun s n s' => ∃ (i0 M0 : Nat) , i0 + n = l.length ∧ s.M ≤ M0 ∧ (allOn on (l.take i0) = true) ∧ s' = { s with env := setE 5 (.int .i64 (i0 : Nat)) s.env, M := M0 }) (l.length) ?_ ?_
  ·
    refine .of' _ _ ⟨0, _, by omega, Nat.le_refl _, rfl, rfl⟩ ?_ ?_ ?_ <;> exact L_
  rintro n0 s' ⟨i0, M0, hi0, hM0, hv0, rfl⟩
  try dsimp only at hM0
  try refine S_ ?_
  refine g_ [0,1,5,9] ?_
  refine c_ (fun hc0 => ?_) fun hc0 => ?_
  ·
    have hl0 : i0 < l.length := by omega
    have hb1 := hb i0 hl0
    refine g_ [0,1,5,19] ?_
    refine c_ (fun hc1 => ?_) fun hc1 => ?_
    ·
      refine g_ [4] ?_
      refine e_ Tryz.results104 ?_
      first
      | exact True.intro
      | unfold allOn
        first | exact (all_no' (z := 0) hl0 (by simpa using hc1)).symm | exact (all_yes' hi0 hc0 hv0).symm
    refine g_ [0,1,5] ?_
    refine .of' _ _ ⟨n0 - 1, by omega, i0 + 1, _, by omega, M_, ?_, rfl⟩ L_ L_ L_
    have h1 : on.getD (l.getD i0 0).toNat false = true := by simpa using hc1
    unfold allOn at hv0 ⊢
    rw [take_all' _ _ 0 _ hl0, hv0, h1]; rfl
  refine g_ [4] ?_
  refine e_ Tryz.results104 ?_
  first
  | exact True.intro
  | unfold allOn
    first | exact (all_no' (z := 0) hl0 (by simpa using hc1)).symm | exact (all_yes' hi0 hc0 hv0).symm
end Go.Proofs.YtnmfmeehmieifaaGreat
namespace Go.Proofs.YtnmfmeehmieifaaGreat
open Go Sg
set_option linter.unusedSectionVars false
variable [Glob]
set_option maxRecDepth 100000
set_option linter.unusedSimpArgs false
set_option linter.unusedVariables false
set_option maxHeartbeats 4000000
def clr (b : Bool) (f : List Bool) (l : List Int) : List Bool := l.foldl (fun f x => f.set x.toNat b) f
theorem clr_len (b : Bool) (l : List Int) : ∀ f : List Bool, (clr b f l).length = f.length := by
  induction l with
  | nil => intro f; rfl
  | cons x l ih => intro f; simp only [clr, List.foldl_cons] at ih ⊢; rw [ih]; simp
theorem clr_take (b : Bool) (f : List Bool) (l : List Int) (i : Nat) (h : i < l.length) : clr b f (l.take (i + 1)) = (clr b f (l.take i)).set (l.getD i 0).toNat b := by
  rw [List.take_succ_eq_append_getElem h, clr, List.foldl_append]
  simp [List.getD, h, clr]
@[go_sem] theorem clr_nil (b : Bool) (f : List Bool) : clr b f [] = f := rfl
@[go_sem] theorem clr_len' (b : Bool) (l : List Int) (f : List Bool) : (clr b f l).length = f.length := clr_len b l f
def fstep (m : MM) (st : List Bool × List Int) (i : Nat) (t : Trn) : List Bool × List Int :=
  if !allOn st.1 t.fr || !(t.w.of m != 0) then st else (clr false st.1 t.fr, st.2 ++ [(i : Int)])
def fpre (m : MM) (c : Cht) (on : List Bool) (n : Nat) : List Bool × List Int := (List.range n).foldl (fun st i => fstep m st i (c.ts.getD i default)) (on, [])
@[go_sem] theorem fpre_zero (m : MM) (c : Cht) (on : List Bool) : fpre m c on 0 = (on, []) := rfl
theorem fpre_succ (m : MM) (c : Cht) (on : List Bool) (n : Nat) : fpre m c on (n + 1) = fstep m (fpre m c on n) n (c.ts.getD n default) := by
  simp only [fpre, List.range_succ, List.foldl_append, List.foldl_cons, List.foldl_nil]
theorem fpre_len (m : MM) (c : Cht) (on : List Bool) (n : Nat) : (fpre m c on n).1.length = on.length ∧ (fpre m c on n).2.length ≤ n := by
  induction n with
  | zero => exact ⟨rfl, Nat.le_refl _⟩
  | succ n ih =>
    rw [fpre_succ, fstep]
    split
    · exact ⟨ih.1, by omega⟩
    · exact ⟨by rw [clr_len]; exact ih.1, by simp; omega⟩
def fires (m : MM) (c : Cht) (on : List Bool) : List Int := (fpre m c on c.ts.length).2
structure Trn.Go (n : Nat) (t : Trn) : Prop where
  fr : ∀ i, i < t.fr.length → 0 ≤ t.fr.getD i 0 ∧ t.fr.getD i 0 < (n : Int)
  to' : ∀ i, i < t.to'.length → 0 ≤ t.to'.getD i 0 ∧ t.to'.getD i 0 < (n : Int)
  w : formD 6 t.w = true
theorem allOn_okO (id : Nat) (on : List Bool) (l : List Int) (hl : l.length ≤ 1099511627776) (hb : ∀ i, i < l.length → 0 ≤ l.getD i 0 ∧ l.getD i 0 < (on.length : Int)) : CallF Tryz.prog 104 [.sl 4 id 0 on.length, .rows 3 (rowsI l)] [(id, .cells 4 (bls on))] 0 (fun _ o => o = { rs := [.bool (allOn on l)] }) := by
  refine CallF.borrow [(4, id, 0, on.length, rowsB on)] rfl rfl ?_ ?_
  · intro q hq
    simp only [List.mem_cons, List.not_mem_nil, or_false] at hq
    subst hq
    exact rowsOf_bls (T := 4) (by simp [lk])
  · have := allOn_ok on l hl hb
    simp only [PV.subL, PV.sub, thOf, and_self, if_true]
    exact this
theorem fires_ok (c : Cht) (k : Mrk) (m : MM) (x y z : Nat) (hm : m.Six) (h1 : x ≠ y) (h2 : x ≠ z) (h3 : y ≠ z) (hc : c.Sm) (hk : k.on.length ≤ 1099511627776) (hg : ∀ i, i < c.ts.length → (c.ts.getD i default).Go k.on.length) :
    CallF Tryz.prog 58 [.agg c.cs, .agg k.cs, .agg (ocs x y z)] (m.ol x y z) 0 (fun _ o => o = { rs := [.rows 3 (rowsI (fires m c k.on))] }) := by
  have hts := hc.ts
  refine callF_ofR Tryz.func58 rfl Tryz.ntmps58 (by simp) T_ ?_
  intro f0 B Q hhid hQ
  refine g_ [3,4,5] ?_
  refine g_ [3,5,7] ?_
  refine g_ [3,5,7,8] ?_
  refine g_ [3,5,7,8,9] ?_
  refine n_ ?_
  refine wpM_loopS (fun s n s' => ∃ (i M idf ido : Nat), i + n = c.ts.length ∧ B + 3 ≤ idf ∧ idf < M ∧ B + 3 ≤ ido ∧ ido < M ∧ ido ≠ idf ∧ s' = { s with env := setE 9 (.int .i64 (i : Nat)) (setE 8 (.sl 3 ido 0 (fpre m c k.on i).2.length) (setE 7 (.sl 4 idf 0 (fpre m c k.on i).1.length) s.env)), l := [(ido, .cells 3 (ints (fpre m c k.on i).2)), (idf, .cells 4 (bls (fpre m c k.on i).1)), (B + 2, .cells 52 (ocs x y z)), (B + 1, .cells 50 k.cs), (B, .cells 48 c.cs)], M := M }) (c.ts.length) ?_ ?_
  ·
    refine .of' _ _ ⟨0, B + 6, B + 4, B + 5, by omega, by omega, by omega, by omega, by omega, by omega, rfl⟩ ?_ ?_ ?_ <;> exact L_
  rintro n s' ⟨i, M, idf, ido, hi, hf1, hf2, ho1, ho2, hne, rfl⟩
  try refine S_ ?_
  refine g_ [3,5,7,8,9,21] ?_
  refine c_ (fun hc0 => ?_) fun hc0 => ?_
  ·
    have hl0 : i < c.ts.length := by omega
    have hlen := fpre_len m c k.on i
    have hgo := hg i hl0
    have ht := hc.t i hl0
    have hsm := ht.fr
    refine g_ [3,5,7,8,9,10] ?_
    refine n_ ?_
    refine wpM_regionK [3,5,7,8,9,10,41] rfl fun Q1 hQ1 => ?_
    refine SD_ ?_
    refine call_rs (allOn_okO idf (fpre m c k.on i).1 (c.ts.getD i default).fr hsm (by rw [hlen.1]; exact hgo.fr)) T_ Tryz.call104 rfl rfl rfl (by first | rfl | simp -implicitDefEqProofs (disch := omega) only [go_sem] | (simp -implicitDefEqProofs (disch := omega) only [go_sem]; rfl)) ?_
    refine SD_ ?_
    refine callG_r (fun hb => of_okO m hm h1 h2 h3 (c.ts.getD i default).w hgo.w) (hidden_f hhid (by simp -implicitDefEqProofs (disch := omega) only [go_sem, true_or])) Tryz.call105 rfl rfl (fun hb => by simp -implicitDefEqProofs (disch := omega) only [go_sem]) (fun hb => by first | rfl | simp -implicitDefEqProofs (disch := omega) only [go_sem, hb, gd_of hb] | (simp -implicitDefEqProofs (disch := omega) only [go_sem, hb, gd_of hb]; rfl)) ?_
    refine SD_ ?_
    first | refine cg_ (fun hb => on_ok ((c.ts.getD i default).w.of m)) Tryz.call85 ?_ | refine cpD_ (on_ok ((c.ts.getD i default).w.of m)) Tryz.call85 ?_
    refine hQ1 _ _ (S_ ?_);clear hQ1 Q1
    refine c_ (fun hc1 => ?_) fun hc1 => ?_
    ·
      refine g_ [3,5,7,8,9] ?_
      first
      | (have hst : fpre m c k.on (i + 1) = fpre m c k.on i := by rw [fpre_succ, fstep, if_pos hc1]
         refine .of' _ _ ⟨n - 1, by omega, i + 1, M + 1, idf, ido, by omega, hf1, by omega, ho1, by omega, hne, rfl⟩ ?_ ?_ ?_ <;> (try rw [hst]) <;> exact L_)
      | (have hje : j = (c.ts.getD i default).fr.length := by omega
         have hst : fpre m c k.on (i + 1) = (clr false (fpre m c k.on i).1 (c.ts.getD i default).fr, (fpre m c k.on i).2 ++ [(i : Int)]) := by rw [fpre_succ, fstep, if_neg (by rw [hc1]; simp)]
         rw [hje, List.take_of_length_le (Nat.le_refl _)]
         refine .of' _ _ ⟨n - 1, by omega, i + 1, M + 3, idf, M + 2, by omega, hf1, by omega, by omega, by omega, by omega, rfl⟩ ?_ ?_ ?_ <;> (try rw [hst]) <;> exact L_)
    refine g_ [3,5,7,8,9,10,11] ?_
    refine n_ ?_
    refine wpM_loopS (fun s n s' => ∃ (j : Nat), j + n = (c.ts.getD i default).fr.length ∧ s' = { s with env := setE 11 (.int .i64 (j : Nat)) s.env, l := setl idf (.cells 4 (bls (clr false (fpre m c k.on i).1 ((c.ts.getD i default).fr.take j)))) s.l }) ((c.ts.getD i default).fr.length) ?_ ?_
    ·
      refine .of' _ _ ⟨0, by omega, rfl⟩ ?_ ?_ ?_ <;> exact L_
    rintro n1 s' ⟨j, hj, rfl⟩
    try refine S_ ?_
    refine g_ [3,5,7,8,9,10,11,46] ?_
    refine c_ (fun hc2 => ?_) fun hc2 => ?_
    ·
      have hl1 : j < (c.ts.getD i default).fr.length := by omega
      have hb1 := hgo.fr j hl1
      have hcl : (clr false (fpre m c k.on i).1 ((c.ts.getD i default).fr.take j)).length = k.on.length := by rw [clr_len]; exact hlen.1
      refine g_ [3,5,7,8,9,10,11] ?_
      refine g_ [3,5,7,8,9,10,11] ?_
      refine .of' _ _ ⟨n1 - 1, by omega, j + 1, by omega, rfl⟩ ?_ ?_ ?_
      all_goals (try rw [clr_take _ _ _ _ hl1])
      all_goals exact L_
    refine g_ [3,5,7,8,9] ?_
    refine g_ [3,5,7,8,9] ?_
    first
    | (have hst : fpre m c k.on (i + 1) = fpre m c k.on i := by rw [fpre_succ, fstep, if_pos hc1]
       refine .of' _ _ ⟨n - 1, by omega, i + 1, M + 1, idf, ido, by omega, hf1, by omega, ho1, by omega, hne, rfl⟩ ?_ ?_ ?_ <;> (try rw [hst]) <;> exact L_)
    | (have hje : j = (c.ts.getD i default).fr.length := by omega
       have hst : fpre m c k.on (i + 1) = (clr false (fpre m c k.on i).1 (c.ts.getD i default).fr, (fpre m c k.on i).2 ++ [(i : Int)]) := by rw [fpre_succ, fstep, if_neg (by rw [hc1]; simp)]
       rw [hje, List.take_of_length_le (Nat.le_refl _)]
       refine .of' _ _ ⟨n - 1, by omega, i + 1, M + 3, idf, M + 2, by omega, hf1, by omega, by omega, by omega, by omega, rfl⟩ ?_ ?_ ?_ <;> (try rw [hst]) <;> exact L_)
  refine n_ ?_
  have hie : i = c.ts.length := by omega
  refine wpM_frz [ido] [(3, ido, 0, (fpre m c k.on i).2.length, rowsI (fpre m c k.on i).2)] (by intro q hq; simp at hq; subst hq; simp -implicitDefEqProofs (disch := omega) only [go_sem]) (by intro q hq; simp only [List.mem_cons, List.not_mem_nil, or_false] at hq; subst hq; exact ⟨by simp, rowsOf_ints (T := 3) T_⟩) ?_
  simp -implicitDefEqProofs (disch := omega) only [go_sem]
  refine g_ [6] ?_
  refine e_ Tryz.results58 ?_
  first
  | exact True.intro
  | rw [hie]; rfl
end Go.Proofs.YtnmfmeehmieifaaGreat
namespace Go.Proofs.YtnmfmeehmieifaaGreat
open Go Sg
set_option linter.unusedSectionVars false
variable [Glob]
set_option maxRecDepth 100000
set_option linter.unusedSimpArgs false
set_option linter.unusedVariables false
set_option maxHeartbeats 4000000
attribute [go_sem] List.length_replicate
def Fs (c : Cht) (fs : List Int) : Prop := ∀ i, i < fs.length → 0 ≤ fs.getD i 0 ∧ fs.getD i 0 < (c.ts.length : Int)
def spread (b : Bool) (pl : Trn → List Int) (c : Cht) (f : List Bool) (fs : List Int) : List Bool := fs.foldl (fun f i => clr b f (pl (c.ts.getD i.toNat default))) f
@[go_sem] theorem spread_nil (b : Bool) (pl : Trn → List Int) (c : Cht) (f : List Bool) : spread b pl c f [] = f := rfl
theorem spread_take (b : Bool) (pl : Trn → List Int) (c : Cht) (f : List Bool) (l : List Int) (i : Nat) (h : i < l.length) : spread b pl c f (l.take (i + 1)) = clr b (spread b pl c f (l.take i)) (pl (c.ts.getD (l.getD i 0).toNat default)) := by
  rw [List.take_succ_eq_append_getElem h, spread, List.foldl_append]
  simp [List.getD, h, spread]
theorem spread_len (b : Bool) (pl : Trn → List Int) (c : Cht) (l : List Int) : ∀ f : List Bool, (spread b pl c f l).length = f.length := by
  induction l with
  | nil => intro f; rfl
  | cons x l ih => intro f; simp only [spread, List.foldl_cons] at ih ⊢; rw [ih, clr_len]
def begins (c : Cht) (fs : List Int) : List Bool := spread true Trn.to' c (List.replicate c.steps.toNat false) fs
theorem begins_ok (c : Cht) (fs : List Int) (hc : c.Sm) (hs : 0 ≤ c.steps ∧ c.steps ≤ 1099511627776) (hfl : fs.length ≤ 1099511627776) (hfs : Fs c fs) (hg : ∀ i, i < c.ts.length → (c.ts.getD i default).Go c.steps.toNat) :
    PureF Tryz.prog 117 [.agg c.cs, .rows 3 (rowsI fs)] [.rows 4 (rowsB (begins c fs))] := by
  have hts := hc.ts
  refine pureF_of Tryz.func117 rfl Tryz.ntmps117 (by simp) T_ ?_
  intro f0 B Q hQ
  refine g_ [1,2] ?_
  refine g_ [1,2,5] ?_
  refine g_ [1,2,5,6] ?_
  refine n_ ?_
  refine wpM_loopS (fun s n s' => ∃ (i0 M0 : Nat) , i0 + n = fs.length ∧ s.M ≤ M0 ∧ (Tr i0) ∧ s' = { s with env := setE 6 (.int .i64 (i0 : Nat)) s.env, l := setl (B + 1) (.cells 4 (bls (spread true Trn.to' c (List.replicate c.steps.toNat false) (fs.take i0)))) s.l, M := M0 }) (fs.length) ?_ ?_
  ·
    refine .of' _ _ ⟨0, _, by omega, Nat.le_refl _, trivial, rfl⟩ ?_ ?_ ?_ <;> exact L_
  rintro n0 s' ⟨i0, M0, hi0, hM0, hv0, rfl⟩
  try dsimp only at hM0
  try refine S_ ?_
  refine g_ [1,2,5,6,15] ?_
  refine c_ (fun hc0 => ?_) fun hc0 => ?_
  ·
    have hl0 : i0 < fs.length := by omega
    have hf := hfs i0 hl0
    have hgo := hg _ (show (fs.getD i0 0).toNat < c.ts.length by omega)
    have hsm := (hc.t _ (show (fs.getD i0 0).toNat < c.ts.length by omega)).to'
    have hsl : (spread true Trn.to' c (List.replicate c.steps.toNat false) (fs.take i0)).length = c.steps.toNat := by rw [spread_len, List.length_replicate]
    generalize hF : spread true Trn.to' c (List.replicate c.steps.toNat false) (fs.take i0) = F at *
    refine n_ ?_
    refine dr_ mixed [1,2,5,6,7] 1 1 [B, M0] [⟨[2],[],[],[],false⟩,⟨[18],[0],[],[],false⟩,⟨[1],[],[],[],false⟩,⟨[6],[],[],[],false⟩,⟨[20,21],[],[],[],false⟩,⟨[22],[],[],[],false⟩,⟨[19,23],[],[],[],false⟩,⟨[24],[],[],[],false⟩,⟨[],[],[],[1],false⟩,⟨[7,25],[1],[1],[],false⟩] [0,1,2,3,4,5,6,7,8,9] [[],[0],[],[],[2,3],[2,3,4],[0,1,2,3,4,5],[0,1,2,3,4,5,6],[],[0,1,2,3,4,5,6,7,8]] 2 (htbl := by simp; omega) (hnm := by simp) ?_
    intro O A K hO hA hK;simp only [atL_cons,atL_nil,Nat.reduceAdd,Nat.zero_add] at hO hA
    refine SO_ ?_
    refine hK _ (S_ ?_);clear hK K hO hA O A
    refine g_ [1,2,5,6,7,8] ?_
    refine n_ ?_
    refine wpM_loopS (fun s n s' => ∃ (i1 M1 : Nat) , i1 + n = (c.ts.getD (fs.getD i0 0).toNat default).to'.length ∧ s.M ≤ M1 ∧ (Tr i1) ∧ s' = { s with env := setE 8 (.int .i64 (i1 : Nat)) s.env, l := setl (B + 1) (.cells 4 (bls (clr true F ((c.ts.getD (fs.getD i0 0).toNat default).to'.take i1)))) s.l, M := M1 }) ((c.ts.getD (fs.getD i0 0).toNat default).to'.length) ?_ ?_
    ·
      refine .of' _ _ ⟨0, _, by omega, Nat.le_refl _, trivial, rfl⟩ ?_ ?_ ?_ <;> exact L_
    rintro n1 s' ⟨i1, M1, hi1, hM1, hv1, rfl⟩
    try dsimp only at hM1
    try refine S_ ?_
    refine g_ [1,2,5,6,7,8,30] ?_
    refine c_ (fun hc1 => ?_) fun hc1 => ?_
    ·
      have hl1 : i1 < (c.ts.getD (fs.getD i0 0).toNat default).to'.length := by omega
      have hb1 := hgo.to' i1 hl1
      have hcl : (clr true F ((c.ts.getD (fs.getD i0 0).toNat default).to'.take i1)).length = c.steps.toNat := by rw [clr_len]; exact hsl
      refine g_ [1,2,5,6,7,8] ?_
      refine g_ [1,2,5,6,7,8] ?_
      rw [← clr_take _ _ _ _ hl1]
      refine .of' _ _ ⟨n1 - 1, by omega, i1 + 1, _, by omega, M_, ?_, rfl⟩ L_ L_ L_
      first | trivial | omega
    refine g_ [1,2,5,6] ?_
    have hie : i1 = (c.ts.getD (fs.getD i0 0).toNat default).to'.length := by omega
    rw [hie, List.take_of_length_le (Nat.le_refl _), ← hF, ← spread_take _ _ _ _ _ _ hl0]
    refine .of' _ _ ⟨n0 - 1, by omega, i0 + 1, _, by omega, M_, ?_, rfl⟩ L_ L_ L_
    first | trivial | omega
  refine n_ ?_
  have hie : i0 = fs.length := by omega
  rw [hie, List.take_of_length_le (Nat.le_refl _)]
  refine wpM_frz [B + 1] [(4, B + 1, 0, c.steps.toNat, rowsB (begins c fs))] (by intro q hq; simp at hq; subst hq; simp -implicitDefEqProofs (disch := omega) only [go_sem]) (frz_bls (T := 4) (by simp -implicitDefEqProofs (disch := omega) only [go_sem]; rfl) (by rw [begins, spread_len, List.length_replicate])) ?_
  simp -implicitDefEqProofs (disch := omega) only [go_sem]
  refine g_ [4] ?_
  refine e_ Tryz.results117 ?_
  first
  | exact True.intro
  | rfl
end Go.Proofs.YtnmfmeehmieifaaGreat
namespace Go.Proofs.YtnmfmeehmieifaaGreat
open Go Sg
set_option linter.unusedSectionVars false
variable [Glob]
set_option maxRecDepth 100000
set_option linter.unusedSimpArgs false
set_option linter.unusedVariables false
set_option maxHeartbeats 4000000
def goes (c : Cht) (on : List Bool) (fs : List Int) : List Bool := spread true Trn.to' c (spread false Trn.fr c on fs) fs
theorem goes_len (c : Cht) (on : List Bool) (fs : List Int) : (goes c on fs).length = on.length := by rw [goes, spread_len, spread_len]
theorem go_ok (c : Cht) (on : List Bool) (fs : List Int) (hc : c.Sm) (hon : on.length ≤ 1099511627776) (hfl : fs.length ≤ 1099511627776) (hfs : Fs c fs) (hg : ∀ i, i < c.ts.length → (c.ts.getD i default).Go on.length) :
    PureF Tryz.prog 118 [.agg c.cs, .rows 4 (rowsB on), .rows 3 (rowsI fs)] [.rows 4 (rowsB (goes c on fs))] := by
  have hts := hc.ts
  refine pureF_of Tryz.func118 rfl Tryz.ntmps118 (by simp) T_ ?_
  intro f0 B Q hQ
  refine g_ [1,2,3] ?_
  refine g_ [2,3,7] ?_
  refine g_ [2,3,7,8] ?_
  refine n_ ?_
  refine wpM_loopS (fun s n s' => ∃ (i0 M0 : Nat) , i0 + n = fs.length ∧ s.M ≤ M0 ∧ (Tr i0) ∧ s' = { s with env := setE 8 (.int .i64 (i0 : Nat)) s.env, l := setl (B + 2) (.cells 4 (bls (spread false Trn.fr c on (fs.take i0)))) s.l, M := M0 }) (fs.length) ?_ ?_
  ·
    refine .of' _ _ ⟨0, _, by omega, Nat.le_refl _, trivial, rfl⟩ ?_ ?_ ?_ <;> exact L_
  rintro n0 s' ⟨i0, M0, hi0, hM0, hv0, rfl⟩
  try dsimp only at hM0
  try refine S_ ?_
  refine g_ [2,3,7,8,20] ?_
  refine c_ (fun hc0 => ?_) fun hc0 => ?_
  ·
    have hl0 : i0 < fs.length := by omega
    have hf := hfs i0 hl0
    have hgo := hg _ (show (fs.getD i0 0).toNat < c.ts.length by omega)
    have hsm := (hc.t _ (show (fs.getD i0 0).toNat < c.ts.length by omega)).fr
    have hsl : (spread false Trn.fr c on (fs.take i0)).length = on.length := by rw [spread_len]
    generalize hF : spread false Trn.fr c on (fs.take i0) = F at *
    refine n_ ?_
    refine dr_ mixed [2,3,7,8,9] 1 1 [B, M0] [⟨[3],[],[],[],false⟩,⟨[23],[0],[],[],false⟩,⟨[2],[],[],[],false⟩,⟨[8],[],[],[],false⟩,⟨[25,26],[],[],[],false⟩,⟨[27],[],[],[],false⟩,⟨[24,28],[],[],[],false⟩,⟨[29],[],[],[],false⟩,⟨[],[],[],[1],false⟩,⟨[9,30],[1],[1],[],false⟩] [0,1,2,3,4,5,6,7,8,9] [[],[0],[],[],[2,3],[2,3,4],[0,1,2,3,4,5],[0,1,2,3,4,5,6],[],[0,1,2,3,4,5,6,7,8]] 2 (htbl := by simp; omega) (hnm := by simp) ?_
    intro O A K hO hA hK;simp only [atL_cons,atL_nil,Nat.reduceAdd,Nat.zero_add] at hO hA
    refine SO_ ?_
    refine hK _ (S_ ?_);clear hK K hO hA O A
    refine g_ [2,3,7,8,9,10] ?_
    refine n_ ?_
    refine wpM_loopS (fun s n s' => ∃ (i1 M1 : Nat) , i1 + n = (c.ts.getD (fs.getD i0 0).toNat default).fr.length ∧ s.M ≤ M1 ∧ (Tr i1) ∧ s' = { s with env := setE 10 (.int .i64 (i1 : Nat)) s.env, l := setl (B + 2) (.cells 4 (bls (clr false F ((c.ts.getD (fs.getD i0 0).toNat default).fr.take i1)))) s.l, M := M1 }) ((c.ts.getD (fs.getD i0 0).toNat default).fr.length) ?_ ?_
    ·
      refine .of' _ _ ⟨0, _, by omega, Nat.le_refl _, trivial, rfl⟩ ?_ ?_ ?_ <;> exact L_
    rintro n1 s' ⟨i1, M1, hi1, hM1, hv1, rfl⟩
    try dsimp only at hM1
    try refine S_ ?_
    refine g_ [2,3,7,8,9,10,35] ?_
    refine c_ (fun hc1 => ?_) fun hc1 => ?_
    ·
      have hl1 : i1 < (c.ts.getD (fs.getD i0 0).toNat default).fr.length := by omega
      have hb1 := hgo.fr i1 hl1
      have hcl : (clr false F ((c.ts.getD (fs.getD i0 0).toNat default).fr.take i1)).length = on.length := by rw [clr_len]; exact hsl
      refine g_ [2,3,7,8,9,10] ?_
      refine g_ [2,3,7,8,9,10] ?_
      rw [← clr_take _ _ _ _ hl1]
      refine .of' _ _ ⟨n1 - 1, by omega, i1 + 1, _, by omega, M_, ?_, rfl⟩ L_ L_ L_
      first | trivial | omega
    refine g_ [2,3,7,8] ?_
    have hie : i1 = (c.ts.getD (fs.getD i0 0).toNat default).fr.length := by omega
    rw [hie, List.take_of_length_le (Nat.le_refl _), ← hF, ← spread_take _ _ _ _ _ _ hl0]
    refine .of' _ _ ⟨n0 - 1, by omega, i0 + 1, _, by omega, M_, ?_, rfl⟩ L_ L_ L_
    first | trivial | omega
  refine n_ ?_
  have hie0 : i0 = fs.length := by omega
  rw [hie0, List.take_of_length_le (Nat.le_refl _)]
  refine g_ [2,3,7,11] ?_
  refine n_ ?_
  refine wpM_loopS (fun s n s' => ∃ (i2 M2 : Nat) , i2 + n = fs.length ∧ s.M ≤ M2 ∧ (Tr i2) ∧ s' = { s with env := setE 11 (.int .i64 (i2 : Nat)) s.env, l := setl (B + 2) (.cells 4 (bls (spread true Trn.to' c (spread false Trn.fr c on fs) (fs.take i2)))) s.l, M := M2 }) (fs.length) ?_ ?_
  ·
    refine .of' _ _ ⟨0, _, by omega, Nat.le_refl _, trivial, rfl⟩ ?_ ?_ ?_ <;> exact L_
  rintro n2 s' ⟨i2, M2, hi2, hM2, hv2, rfl⟩
  try dsimp only at hM2
  try refine S_ ?_
  refine g_ [2,3,7,11,48] ?_
  refine c_ (fun hc2 => ?_) fun hc2 => ?_
  ·
    have hl2 : i2 < fs.length := by omega
    have hf := hfs i2 hl2
    have hgo := hg _ (show (fs.getD i2 0).toNat < c.ts.length by omega)
    have hsm := (hc.t _ (show (fs.getD i2 0).toNat < c.ts.length by omega)).to'
    have hsl : (spread true Trn.to' c (spread false Trn.fr c on fs) (fs.take i2)).length = on.length := by rw [spread_len, spread_len]
    generalize hF : spread true Trn.to' c (spread false Trn.fr c on fs) (fs.take i2) = F at *
    refine n_ ?_
    refine dr_ mixed [2,3,7,11,12] 1 1 [B, M2] [⟨[3],[],[],[],false⟩,⟨[51],[0],[],[],false⟩,⟨[2],[],[],[],false⟩,⟨[11],[],[],[],false⟩,⟨[53,54],[],[],[],false⟩,⟨[55],[],[],[],false⟩,⟨[52,56],[],[],[],false⟩,⟨[57],[],[],[],false⟩,⟨[],[],[],[1],false⟩,⟨[12,58],[1],[1],[],false⟩] [0,1,2,3,4,5,6,7,8,9] [[],[0],[],[],[2,3],[2,3,4],[0,1,2,3,4,5],[0,1,2,3,4,5,6],[],[0,1,2,3,4,5,6,7,8]] 2 (htbl := by simp; omega) (hnm := by simp) ?_
    intro O A K hO hA hK;simp only [atL_cons,atL_nil,Nat.reduceAdd,Nat.zero_add] at hO hA
    refine SO_ ?_
    refine hK _ (S_ ?_);clear hK K hO hA O A
    refine g_ [2,3,7,11,12,13] ?_
    refine n_ ?_
    refine wpM_loopS (fun s n s' => ∃ (i3 M3 : Nat) , i3 + n = (c.ts.getD (fs.getD i2 0).toNat default).to'.length ∧ s.M ≤ M3 ∧ (Tr i3) ∧ s' = { s with env := setE 13 (.int .i64 (i3 : Nat)) s.env, l := setl (B + 2) (.cells 4 (bls (clr true F ((c.ts.getD (fs.getD i2 0).toNat default).to'.take i3)))) s.l, M := M3 }) ((c.ts.getD (fs.getD i2 0).toNat default).to'.length) ?_ ?_
    ·
      refine .of' _ _ ⟨0, _, by omega, Nat.le_refl _, trivial, rfl⟩ ?_ ?_ ?_ <;> exact L_
    rintro n3 s' ⟨i3, M3, hi3, hM3, hv3, rfl⟩
    try dsimp only at hM3
    try refine S_ ?_
    refine g_ [2,3,7,11,12,13,63] ?_
    refine c_ (fun hc3 => ?_) fun hc3 => ?_
    ·
      have hl3 : i3 < (c.ts.getD (fs.getD i2 0).toNat default).to'.length := by omega
      have hb1 := hgo.to' i3 hl3
      have hcl : (clr true F ((c.ts.getD (fs.getD i2 0).toNat default).to'.take i3)).length = on.length := by rw [clr_len]; exact hsl
      refine g_ [2,3,7,11,12,13] ?_
      refine g_ [2,3,7,11,12,13] ?_
      rw [← clr_take _ _ _ _ hl3]
      refine .of' _ _ ⟨n3 - 1, by omega, i3 + 1, _, by omega, M_, ?_, rfl⟩ L_ L_ L_
      first | trivial | omega
    refine g_ [2,3,7,11] ?_
    have hie : i3 = (c.ts.getD (fs.getD i2 0).toNat default).to'.length := by omega
    rw [hie, List.take_of_length_le (Nat.le_refl _), ← hF, ← spread_take _ _ _ _ _ _ hl2]
    refine .of' _ _ ⟨n2 - 1, by omega, i2 + 1, _, by omega, M_, ?_, rfl⟩ L_ L_ L_
    first | trivial | omega
  refine n_ ?_
  have hie : i2 = fs.length := by omega
  rw [hie, List.take_of_length_le (Nat.le_refl _)]
  refine wpM_frz [B + 2] [(4, B + 2, 0, on.length, rowsB (goes c on fs))] (by intro q hq; simp at hq; subst hq; simp -implicitDefEqProofs (disch := omega) only [go_sem]) (frz_bls (T := 4) (by simp -implicitDefEqProofs (disch := omega) only [go_sem]; rfl) (goes_len c on fs)) ?_
  simp -implicitDefEqProofs (disch := omega) only [go_sem]
  refine g_ [6] ?_
  refine e_ Tryz.results118 ?_
  first
  | exact True.intro
  | rfl
def kset (v : Bool) (kk : Int) (on : List Bool) (f : List Bool) (l : List GAct) : List Bool := l.foldl (fun f a => if a.kind == kk && on.getD a.step.toNat false then f.set a.to'.at'.toNat v else f) f
@[go_sem] theorem kset_nil (v : Bool) (kk : Int) (on : List Bool) (f : List Bool) : kset v kk on f [] = f := rfl
theorem kset_take (v : Bool) (kk : Int) (on : List Bool) (f : List Bool) (l : List GAct) (i : Nat) (h : i < l.length) : kset v kk on f (l.take (i + 1)) = if (l.getD i default).kind == kk && on.getD (l.getD i default).step.toNat false then (kset v kk on f (l.take i)).set (l.getD i default).to'.at'.toNat v else kset v kk on f (l.take i) := by
  rw [List.take_succ_eq_append_getElem h, kset, List.foldl_append]
  simp [List.getD, h, kset]
theorem kset_len (v : Bool) (kk : Int) (on : List Bool) (l : List GAct) : ∀ f : List Bool, (kset v kk on f l).length = f.length := by
  induction l with
  | nil => intro f; rfl
  | cons a l ih =>
    intro f
    simp only [kset, List.foldl_cons] at ih ⊢
    rw [ih]; split <;> simp
def keptM (c : Cht) (kp on : List Bool) : List Bool := kset false 3 on (kset true 2 on kp c.as') c.as'
theorem keptM_len (c : Cht) (kp on : List Bool) : (keptM c kp on).length = kp.length := by rw [keptM, kset_len, kset_len]
def GAct.In (n : Nat) (a : GAct) : Prop := 0 ≤ a.step ∧ a.step < (n : Int) ∧ 0 ≤ a.to'.at' ∧ a.to'.at' < 6
theorem kept_ok (c : Cht) (kp on : List Bool) (hc : c.Sm) (hkp : kp.length = 6) (hon : on.length ≤ 1099511627776) (ha : ∀ i, i < c.as'.length → (c.as'.getD i default).In on.length) :
    PureF Tryz.prog 119 [.agg c.cs, .rows 4 (rowsB kp), .rows 4 (rowsB on)] [.rows 4 (rowsB (keptM c kp on))] := by
  have has := hc.as'
  refine pureF_of Tryz.func119 rfl Tryz.ntmps119 (by simp) T_ ?_
  intro f0 B Q hQ
  refine g_ [1,2,3] ?_
  refine g_ [2,3,7] ?_
  refine g_ [2,3,7,8] ?_
  refine n_ ?_
  refine wpM_loopS (fun s n s' => ∃ (i0 M0 : Nat) , i0 + n = c.as'.length ∧ s.M ≤ M0 ∧ (Tr i0) ∧ s' = { s with env := setE 8 (.int .i64 (i0 : Nat)) s.env, l := setl (B + 2) (.cells 4 (bls (kset true 2 on kp (c.as'.take i0)))) s.l, M := M0 }) (c.as'.length) ?_ ?_
  ·
    refine .of' _ _ ⟨0, _, by omega, Nat.le_refl _, trivial, rfl⟩ ?_ ?_ ?_ <;> exact L_
  rintro n0 s' ⟨i0, M0, hi0, hM0, hv0, rfl⟩
  try dsimp only at hM0
  try refine S_ ?_
  refine g_ [2,3,7,8,17] ?_
  refine c_ (fun hc0 => ?_) fun hc0 => ?_
  ·
    have hl0 : i0 < c.as'.length := by omega
    have hin : (c.as'.getD i0 default).In on.length := ha i0 hl0
    unfold GAct.In at hin
    have hkl : (kset true 2 on kp (c.as'.take i0)).length = 6 := by rw [kset_len, hkp]
    have hkt := kset_take true 2 on kp c.as' i0 hl0
    refine gD_ [2,3,7,8,37] ?_
    refine c_ (fun hc1 => ?_) fun hc1 => ?_
    ·
      refine g_ [2,3,7,8] ?_
      refine g_ [2,3,7,8] ?_
      first | rw [if_pos hc1] at hkt | rw [if_neg (by rw [hc1]; simp)] at hkt
      rw [← hkt]
      refine .of' _ _ ⟨n0 - 1, by omega, i0 + 1, _, by omega, M_, ?_, rfl⟩ L_ L_ L_
      first | trivial | omega
    refine g_ [2,3,7,8] ?_
    first | rw [if_pos hc1] at hkt | rw [if_neg (by rw [hc1]; simp)] at hkt
    rw [← hkt]
    refine .of' _ _ ⟨n0 - 1, by omega, i0 + 1, _, by omega, M_, ?_, rfl⟩ L_ L_ L_
    first | trivial | omega
  refine n_ ?_
  have hie0 : i0 = c.as'.length := by omega
  rw [hie0, List.take_of_length_le (Nat.le_refl _)]
  refine g_ [2,3,7,9] ?_
  refine n_ ?_
  refine wpM_loopS (fun s n s' => ∃ (i1 M1 : Nat) , i1 + n = c.as'.length ∧ s.M ≤ M1 ∧ (Tr i1) ∧ s' = { s with env := setE 9 (.int .i64 (i1 : Nat)) s.env, l := setl (B + 2) (.cells 4 (bls (kset false 3 on (kset true 2 on kp c.as') (c.as'.take i1)))) s.l, M := M1 }) (c.as'.length) ?_ ?_
  ·
    refine .of' _ _ ⟨0, _, by omega, Nat.le_refl _, trivial, rfl⟩ ?_ ?_ ?_ <;> exact L_
  rintro n1 s' ⟨i1, M1, hi1, hM1, hv1, rfl⟩
  try dsimp only at hM1
  try refine S_ ?_
  refine g_ [2,3,7,9,51] ?_
  refine c_ (fun hc2 => ?_) fun hc2 => ?_
  ·
    have hl1 : i1 < c.as'.length := by omega
    have hin : (c.as'.getD i1 default).In on.length := ha i1 hl1
    unfold GAct.In at hin
    have hkl : (kset false 3 on (kset true 2 on kp c.as') (c.as'.take i1)).length = 6 := by rw [kset_len, kset_len, hkp]
    have hkt := kset_take false 3 on (kset true 2 on kp c.as') c.as' i1 hl1
    refine gD_ [2,3,7,9,71] ?_
    refine c_ (fun hc3 => ?_) fun hc3 => ?_
    ·
      refine g_ [2,3,7,9] ?_
      refine g_ [2,3,7,9] ?_
      first | rw [if_pos hc3] at hkt | rw [if_neg (by rw [hc3]; simp)] at hkt
      rw [← hkt]
      refine .of' _ _ ⟨n1 - 1, by omega, i1 + 1, _, by omega, M_, ?_, rfl⟩ L_ L_ L_
      first | trivial | omega
    refine g_ [2,3,7,9] ?_
    first | rw [if_pos hc3] at hkt | rw [if_neg (by rw [hc3]; simp)] at hkt
    rw [← hkt]
    refine .of' _ _ ⟨n1 - 1, by omega, i1 + 1, _, by omega, M_, ?_, rfl⟩ L_ L_ L_
    first | trivial | omega
  refine n_ ?_
  have hie : i1 = c.as'.length := by omega
  rw [hie, List.take_of_length_le (Nat.le_refl _)]
  refine wpM_frz [B + 2] [(4, B + 2, 0, kp.length, rowsB (keptM c kp on))] (by intro q hq; simp at hq; subst hq; simp -implicitDefEqProofs (disch := omega) only [go_sem]) (frz_bls (T := 4) (by simp -implicitDefEqProofs (disch := omega) only [go_sem]; rfl) (keptM_len c kp on)) ?_
  simp -implicitDefEqProofs (disch := omega) only [go_sem]
  refine g_ [6] ?_
  refine e_ Tryz.results119 ?_
  first
  | exact True.intro
  | rfl
def litA (at' : Int) (on bg : List Bool) (a : GAct) : Bool := a.to'.at' == at' && ((a.kind == 1 && on.getD a.step.toNat false) || (a.kind == 4 && bg.getD a.step.toNat false))
def lit (c : Cht) (at' : Int) (on bg : List Bool) : Bool := c.as'.any (litA at' on bg)
theorem lit_ok (c : Cht) (at' : Int) (on bg : List Bool) (hc : c.Sm) (hon : on.length ≤ 1099511627776) (hbg : bg.length = on.length) (ha : ∀ i, i < c.as'.length → (c.as'.getD i default).In on.length) :
    PureF Tryz.prog 122 [.agg c.cs, .int .i64 at', .rows 4 (rowsB on), .rows 4 (rowsB bg)] [.bool (lit c at' on bg)] := by
  have has := hc.as'
  refine pureF_of Tryz.func122 rfl Tryz.ntmps122 (by simp) T_ ?_
  intro f0 B Q hQ
  refine g_ [1,2,3,4] ?_
  refine g_ [1,2,3,4,9] ?_
  refine n_ ?_
  refine wpM_loopS (fun s n s' => ∃ (i0 M0 : Nat) , i0 + n = c.as'.length ∧ s.M ≤ M0 ∧ ((c.as'.take i0).all (fun a => !litA at' on bg a) = true) ∧ s' = { s with env := setE 9 (.int .i64 (i0 : Nat)) s.env, M := M0 }) (c.as'.length) ?_ ?_
  ·
    refine .of' _ _ ⟨0, _, by omega, Nat.le_refl _, by simp, rfl⟩ ?_ ?_ ?_ <;> exact L_
  rintro n0 s' ⟨i0, M0, hi0, hM0, hv0, rfl⟩
  try dsimp only at hM0
  try refine S_ ?_
  refine g_ [1,2,3,4,9,15] ?_
  refine c_ (fun hc0 => ?_) fun hc0 => ?_
  ·
    have hl0 : i0 < c.as'.length := by omega
    have hin : (c.as'.getD i0 default).In on.length := ha i0 hl0
    unfold GAct.In at hin
    refine g_ [1,2,3,4,9,10] ?_
    refine gD_ [1,2,3,4,9,51] ?_
    refine c_ (fun hc1 => ?_) fun hc1 => ?_
    ·
      refine g_ [8] ?_
      refine e_ Tryz.results122 ?_
      first
      | exact True.intro
      | first
        | (have h1 : litA at' on bg (c.as'.getD i0 default) = true := hc1
           have h2 := all_no (p := fun a => !litA at' on bg a) hl0 (by simp only [h1]; rfl)
           rw [List.all_eq_not_any_not] at h2
           simpa [lit] using h2)
        | (have h2 := all_yes hi0 hc0 hv0
           rw [List.all_eq_not_any_not] at h2
           simpa [lit] using h2)
    refine g_ [1,2,3,4,9] ?_
    refine .of' _ _ ⟨n0 - 1, by omega, i0 + 1, _, by omega, M_, ?_, rfl⟩ L_ L_ L_
    have h1 : litA at' on bg (c.as'.getD i0 default) = false := hc1
    rw [take_all _ _ _ hl0, hv0, h1]; rfl
  refine g_ [8] ?_
  refine e_ Tryz.results122 ?_
  first
  | exact True.intro
  | first
    | (have h1 : litA at' on bg (c.as'.getD i0 default) = true := hc1
       have h2 := all_no (p := fun a => !litA at' on bg a) hl0 (by simp only [h1]; rfl)
       rw [List.all_eq_not_any_not] at h2
       simpa [lit] using h2)
    | (have h2 := all_yes hi0 hc0 hv0
       rw [List.all_eq_not_any_not] at h2
       simpa [lit] using h2)
end Go.Proofs.YtnmfmeehmieifaaGreat
namespace Go.Proofs.YtnmfmeehmieifaaGreat
open Go Sg
set_option linter.unusedSectionVars false
variable [Glob]
set_option maxRecDepth 100000
set_option linter.unusedSimpArgs false
set_option linter.unusedVariables false
set_option maxHeartbeats 4000000
theorem mcopy_ok (k : Mrk) (h1 : k.on.length ≤ 1099511627776) (h2 : k.kept.length ≤ 1099511627776) : PureF Tryz.prog 73 [.agg k.cs] [.agg k.cs] := by
  refine pureF_of Tryz.func73 rfl Tryz.ntmps73 (by simp) T_ ?_
  intro f0 B Q hQ
  refine g_ [1,2] ?_
  refine n_ ?_
  refine dr_ mixed [2] 4 2 [B, B + 1, B + 2, B + 3, B + 4, B + 5] [⟨[],[],[],[2],false⟩,⟨[1],[],[],[],false⟩,⟨[4],[0],[],[],false⟩,⟨[3,5],[2],[2],[3],false⟩,⟨[],[],[],[4],false⟩,⟨[1],[],[],[],false⟩,⟨[8],[0],[],[],false⟩,⟨[7,9],[4],[4],[5],false⟩,⟨[6,10],[],[],[],false⟩,⟨[2,11],[1],[1],[],false⟩] [0,1,2,3,4,5,6,7,8,9] [[],[],[1],[0,1,2],[],[],[5],[0,1,2,3,4,5,6],[0,1,2,3,4,5,6,7],[0,1,2,3,4,5,6,7,8]] 6 ?_
  intro O A K hO hA hK;simp only [atL_cons,atL_nil,Nat.reduceAdd,Nat.zero_add] at hO hA
  refine SO_ ?_
  refine hK _ (S_ ?_);clear hK K hO hA O A
  refine wpM_frz [B + 3, B + 5] [(4, B + 3, 0, k.on.length, rowsB k.on), (4, B + 5, 0, k.kept.length, rowsB k.kept)] (by intro q hq; simp at hq; rcases hq with rfl | rfl <;> simp -implicitDefEqProofs (disch := omega) only [go_sem]) (by
    intro q hq
    simp only [List.mem_cons, List.not_mem_nil, or_false] at hq
    rcases hq with rfl | rfl
    · exact ⟨by simp, rowsOf_bls (T := 4) T_⟩
    · exact ⟨by simp, rowsOf_bls (T := 4) T_⟩) ?_
  simp -implicitDefEqProofs (disch := omega) only [go_sem]
  refine e_ Tryz.results73 ?_
  first
  | exact True.intro
  | rfl
end Go.Proofs.YtnmfmeehmieifaaGreat
namespace Go.Proofs.YtnmfmeehmieifaaGreat
open Go Sg
set_option linter.unusedSectionVars false
variable [Glob]
set_option maxRecDepth 100000
set_option linter.unusedSimpArgs false
set_option linter.unusedVariables false
set_option maxHeartbeats 4000000
theorem Cht.ok_st {c : Cht} (h : c.ok = true) : 1 ≤ c.steps ∧ c.steps ≤ 6 ∧ c.ts.length ≤ 6 ∧ c.as'.length ≤ 6 := by
  unfold Cht.ok at h
  split at h
  · cases h
  · rename_i hh
    simp only [Bool.or_eq_true, decide_eq_true_eq, not_or] at hh
    omega
def mstep (c : Cht) (kp on bg : List Bool) (m : MM) (a : GAct) : MM := m.put a.to' (numIs (kp.getD a.to'.at'.toNat false || lit c a.to'.at' on bg))
def mfold (c : Cht) (kp on bg : List Bool) (m : MM) (l : List GAct) : MM := l.foldl (mstep c kp on bg) m
@[go_sem] theorem mfold_nil (c : Cht) (kp on bg : List Bool) (m : MM) : mfold c kp on bg m [] = m := rfl
theorem mfold_take (c : Cht) (kp on bg : List Bool) (m : MM) (l : List GAct) (i : Nat) (h : i < l.length) : mfold c kp on bg m (l.take (i + 1)) = mstep c kp on bg (mfold c kp on bg m (l.take i)) (l.getD i default) := by
  rw [List.take_succ_eq_append_getElem h, mfold, List.foldl_append]
  simp [List.getD, h, mfold]
theorem mfold_six (c : Cht) (kp on bg : List Bool) (l : List GAct) : ∀ m : MM, m.Six → (mfold c kp on bg m l).Six := by
  induction l with
  | nil => intro m h; exact h
  | cons a l ih => intro m h; exact ih _ (MM.put_six h _ _)
def stepM (c : Cht) (k : Mrk) (m : MM) : Mrk × MM :=
  let fs := fires m c k.on
  let on := goes c k.on fs
  let kp := keptM c k.kept on
  (⟨on, kp⟩, mfold c kp on (begins c fs) m c.as')
theorem fires_Fs (m : MM) (c : Cht) (on : List Bool) : Fs c (fires m c on) ∧ (fires m c on).length ≤ c.ts.length := by
  have h : ∀ n, (∀ x ∈ (fpre m c on n).2, 0 ≤ x ∧ x < (n : Int)) := by
    intro n
    induction n with
    | zero => intro x hx; simp [fpre] at hx
    | succ n ih =>
      rw [fpre_succ, fstep]
      intro x hx
      split at hx
      · have := ih x hx; omega
      · simp only [List.mem_append, List.mem_singleton] at hx
        rcases hx with hx | rfl
        · have := ih x hx; omega
        · omega
  refine ⟨fun i hi => ?_, (fpre_len m c on c.ts.length).2⟩
  refine h c.ts.length _ ?_
  rw [List.getD_eq_getElem?_getD, List.getElem?_eq_getElem hi]; exact List.getElem_mem hi
structure Cht.Go (c : Cht) (n : Nat) : Prop where
  steps : c.steps.toNat = n
  st : 0 ≤ c.steps
  n6 : n ≤ 6
  t : ∀ i, i < c.ts.length → (c.ts.getD i default).Go n
  a : ∀ i, i < c.as'.length → (c.as'.getD i default).In n
theorem step_ok (c : Cht) (k : Mrk) (m : MM) (x y z : Nat) (hm : m.Six) (h1 : x ≠ y) (h2 : x ≠ z) (h3 : y ≠ z) (hc : c.Sm) (hk : k.kept.length = 6) (hg : c.Go k.on.length) :
    CallF Tryz.prog 72 [.agg c.cs, .agg k.cs, .agg (ocs x y z)] (m.ol x y z) 0 (fun _ o => o = { rs := [.agg (stepM c k m).1.cs, .agg (ocs x y z)], u := (stepM c k m).2.ou x y z }) := by
  have hts := hc.ts
  have has := hc.as'
  have hon6 := hg.n6
  have hst := hg.st
  have hst2 := hg.steps
  obtain ⟨hfs, hfl⟩ := fires_Fs m c k.on
  have hs : stepM c k m = (⟨goes c k.on (fires m c k.on), keptM c k.kept (goes c k.on (fires m c k.on))⟩, mfold c (keptM c k.kept (goes c k.on (fires m c k.on))) (goes c k.on (fires m c k.on)) (begins c (fires m c k.on)) m c.as') := rfl
  rw [hs]
  clear hs
  generalize hF : fires m c k.on = fs at *
  have honl : (goes c k.on fs).length = k.on.length := goes_len c k.on fs
  generalize hO : goes c k.on fs = on at *
  have hkpl : (keptM c k.kept on).length = 6 := by rw [keptM_len, hk]
  generalize hK : keptM c k.kept on = kp at *
  have hbgl : (begins c fs).length = on.length := by rw [begins, spread_len, List.length_replicate, honl, hst2]
  generalize hG : begins c fs = bg at *
  refine callF_of' Tryz.func72 rfl Tryz.ntmps72 (by simp) ?_
  intro f0 B ns Q hB hns hQ
  have hx : x < B := hB x (by simp [hasKey, lk, MM.ol])
  have hy : y < B := hB y (by simp [hasKey, lk, MM.ol, h1])
  have hz : z < B := hB z (by simp [hasKey, lk, MM.ol, h2, h3])
  obtain rfl : ns = [] := List.eq_nil_of_length_eq_zero hns
  refine g_ [3,4,5,6,7] ?_
  refine n_ ?_
  refine wpM_regionK [3,4,5,6,7,8] rfl fun Q1 hQ1 => ?_
  refine S_ ?_
  refine call_rs (fires_ok c k m x y z hm h1 h2 h3 hc (by omega) hg.t) (by simp -implicitDefEqProofs (disch := omega) only [go_sem, h1, h2, h3]) Tryz.call58 rfl rfl rfl F_ ?_
  rw [hF]
  refine S_ ?_
  refine hQ1 _ _ (S_ ?_);clear hQ1 Q1
  refine n_ ?_
  refine wpM_regionK [3,4,5,6,7,8,9] rfl fun Q1 hQ1 => ?_
  refine S_ ?_
  refine cp_ (hG ▸ begins_ok c fs hc (by omega) (by omega) hfs (hst2 ▸ hg.t)) Tryz.call117 ?_
  refine hQ1 _ _ (S_ ?_);clear hQ1 Q1
  refine n_ ?_
  refine wpM_regionK [3,4,5,6,7,9] rfl fun Q1 hQ1 => ?_
  refine S_ ?_
  refine cp_ (hO ▸ go_ok c k.on fs hc (by omega) (by omega) hfs hg.t) Tryz.call118 ?_
  refine hQ1 _ _ (S_ ?_);clear hQ1 Q1
  refine n_ ?_
  refine wpM_regionK [3,4,5,6,7,9] rfl fun Q1 hQ1 => ?_
  refine S_ ?_
  refine cp_ (hK ▸ kept_ok c k.kept on hc hk (by omega) (honl ▸ hg.a)) Tryz.call119 ?_
  refine hQ1 _ _ (S_ ?_);clear hQ1 Q1
  refine g_ [3,4,5,6,7,9,10] ?_
  refine n_ ?_
  refine wpM_loopS (fun s n s' => ∃ (i0 M0 : Nat) , i0 + n = c.as'.length ∧ s.M ≤ M0 ∧ (Tr i0) ∧ s' = { s with env := setE 10 (.int .i64 (i0 : Nat)) s.env, l := setl x (.cells 3 (ints (mfold c kp on bg m (c.as'.take i0)).i)) (setl y (.cells 3 (ints (mfold c kp on bg m (c.as'.take i0)).o)) (setl z (.cells 3 (ints (mfold c kp on bg m (c.as'.take i0)).v)) s.l)), M := M0 }) (c.as'.length) ?_ ?_
  ·
    refine .of' _ _ ⟨0, _, by omega, Nat.le_refl _, trivial, rfl⟩ ?_ ?_ ?_ <;> exact L_
  rintro n0 s' ⟨i0, M0, hi0, hM0, hv0, rfl⟩
  try dsimp only at hM0
  try refine S_ ?_
  refine g_ [3,4,5,6,7,9,10,36] ?_
  refine c_ (fun hc0 => ?_) fun hc0 => ?_
  ·
    have hl0 : i0 < c.as'.length := by omega
    have hin : (c.as'.getD i0 default).In k.on.length := hg.a i0 hl0
    have hin2 := hin
    unfold GAct.In at hin
    have hms : (mfold c kp on bg m (c.as'.take i0)).Six := mfold_six _ _ _ _ _ _ hm
    have hmt := mfold_take c kp on bg m c.as' i0 hl0
    generalize hM : mfold c kp on bg m (c.as'.take i0) = mm at *
    refine g_ [3,4,5,6,7,9,10,11] ?_
    refine dr_ mixed [3,4,5,6,7,9,10] 0 6 [B, B + 1, B + 2, x, y, z] [⟨[5],[2],[],[],false⟩,⟨[3],[],[],[],false⟩,⟨[47],[0],[],[],false⟩,⟨[10],[],[],[],false⟩,⟨[48,49],[],[],[],false⟩,⟨[50],[],[],[],false⟩,⟨[51],[],[],[],false⟩,⟨[4],[],[],[],false⟩,⟨[53],[1],[],[],false⟩,⟨[11],[],[],[],false⟩,⟨[54,55],[],[],[],false⟩,⟨[56],[],[],[],false⟩,⟨[57],[],[],[],false⟩,⟨[3,58],[0],[],[],false⟩,⟨[11,58],[],[],[],false⟩,⟨[4,58],[],[],[],false⟩,⟨[58,61],[1],[],[],false⟩,⟨[9,58],[],[],[],false⟩,⟨[58,59,60,62,63],[],[],[],true⟩,⟨[58,64],[],[],[],false⟩,⟨[65],[],[],[],true⟩,⟨[46,52,66],[3,4,5],[3,4,5],[],true⟩,⟨[5,67],[2],[2],[],false⟩] [0,1,2,3,4,5,6,7,8,9,10,11,12,13,14,15,16,17,18,19,20,21,22] [[],[],[1],[],[1,2,3],[1,2,3,4],[1,2,3,4,5],[],[7],[],[7,8,9],[7,8,9,10],[7,8,9,10,11],[7,8,9,10,11,12],[7,8,9,10,11,12],[7,8,9,10,11,12],[7,8,9,10,11,12,15],[7,8,9,10,11,12],[7,8,9,10,11,12,13,14,15,16,17],[7,8,9,10,11,12,13,14,15,16,17,18],[7,8,9,10,11,12,13,14,15,16,17,18,19],[0,1,2,3,4,5,6,7,8,9,10,11,12,13,14,15,16,17,18,19,20],[0,1,2,3,4,5,6,7,8,9,10,11,12,13,14,15,16,17,18,19,20,21]] 6 (htbl := by simp [h1, h2, h3]; omega) (hnm := by simp) ?_
    intro O A K hO hA hK;simp only [atL_cons,atL_nil,Nat.reduceAdd,Nat.zero_add] at hO hA
    refine SE_ ?_
    first | refine lg_ (fun hb => lit_ok c (c.as'.getD i0 default).to'.at' on bg hc (by omega) hbgl (honl ▸ hg.a)) Tryz.call122 ?_ | refine lpE_ (lit_ok c (c.as'.getD i0 default).to'.at' on bg hc (by omega) hbgl (honl ▸ hg.a)) Tryz.call122 ?_
    refine lpE_ (is_ok (kp.getD (c.as'.getD i0 default).to'.at'.toNat false || lit c (c.as'.getD i0 default).to'.at' on bg)) Tryz.call121 ?_
    refine loud_fn (first := []) (cap := []) (l := mm.ol x y z) (put_ok mm (c.as'.getD i0 default).to' (numIs (kp.getD (c.as'.getD i0 default).to'.at'.toNat false || lit c (c.as'.getD i0 default).to'.at' on bg)) x y z hms h1 h2 h3 (by omega)) Tryz.call120 rfl rfl F_ (subG_spec (by simp -implicitDefEqProofs (disch := omega) only [go_sem, h1, h2, h3])) rfl ?_
    rintro out rfl
    refine ⟨rfl, ?_⟩
    refine SE_ ?_
    refine hK _ (S_ ?_);clear hK K hO hA O A
    refine g_ [3,4,5,6,7,9,10] ?_
    change mfold c kp on bg m (c.as'.take (i0 + 1)) = mm.put (c.as'.getD i0 default).to' (numIs (kp.getD (c.as'.getD i0 default).to'.at'.toNat false || lit c (c.as'.getD i0 default).to'.at' on bg)) at hmt
    rw [← hmt]
    refine .of' _ _ ⟨n0 - 1, by omega, i0 + 1, _, by omega, M_, ?_, rfl⟩ L_ L_ L_
    first | trivial | omega
  refine n_ ?_
  have hie : i0 = c.as'.length := by omega
  rw [hie, List.take_of_length_le (Nat.le_refl _)]
  refine dr_ mixed [6,7] 0 4 [B+1, B+2, B+3, B+4] [⟨[4],[0],[],[],false⟩,⟨[5],[1],[],[],false⟩,⟨[6,68],[2],[2],[],false⟩,⟨[7,69],[3],[3],[],false⟩] [0,1,2,3] [[],[],[0],[0,1,2]] 4 ?_
  intro O A K hO hA hK;simp only [atL_cons,atL_nil,Nat.reduceAdd,Nat.zero_add] at hO hA
  refine SO_ ?_
  refine hK _ (S_ ?_);clear hK K hO hA O A
  refine wpM_ret ?_
  try refine S_ ?_
  refine hQ _ _ (ret0 (MM.ou _ x y z) rfl rfl rfl (by rw [Tryz.results72] <;> simp (maxSteps := 1000000) -implicitDefEqProofs (disch := omega) only [go_sem] <;> rfl) rfl ?_ ?_ ?_ ?_)
  all_goals simp -implicitDefEqProofs (disch := omega) only [go_sem, h1, h2, h3, true_or, or_true]
theorem plOk_in {l : List Int} {b : Int} (h : plOk l b = true) : ∀ i, i < l.length → 0 ≤ l.getD i 0 ∧ l.getD i 0 < b := by
  intro i hi
  simp only [plOk, Bool.and_eq_true, List.all_eq_true, List.mem_range] at h
  have := h.1 i hi
  simp only [plBad, Bool.not_eq_true', Bool.or_eq_false_iff, decide_eq_false_iff_not] at this
  omega
theorem Cht.ok_Go {c : Cht} (h : c.ok = true) : c.Go c.steps.toNat := by
  have h0 := Cht.ok_st h
  unfold Cht.ok at h
  split at h
  · cases h
  · simp only [Bool.and_eq_true, List.all_eq_true] at h
    refine ⟨rfl, by omega, by omega, fun i hi => ?_, fun i hi => ?_⟩
    · have hm : c.ts.getD i default ∈ c.ts := by rw [List.getD_eq_getElem?_getD, List.getElem?_eq_getElem hi]; exact List.getElem_mem hi
      have := h.1 _ hm
      simp only [Trn.bad, Bool.not_eq_true', Bool.or_eq_false_iff, Bool.not_eq_false'] at this
      obtain ⟨⟨a1, a2⟩, a3⟩ := this
      simp only [Ex.ok, Bool.and_eq_true] at a3
      exact ⟨fun j hj => by have := plOk_in a1 j hj; omega, fun j hj => by have := plOk_in a2 j hj; omega, a3.1⟩
    · have hm : c.as'.getD i default ∈ c.as' := by rw [List.getD_eq_getElem?_getD, List.getElem?_eq_getElem hi]; exact List.getElem_mem hi
      have := h.2 _ hm
      simp only [GAct.bad, Bool.not_eq_true', Bool.or_eq_false_iff, Bool.not_eq_false', decide_eq_false_iff_not] at this
      obtain ⟨⟨⟨⟨_, a2⟩, a3⟩, a4⟩, _⟩ := this
      have := AD.ok_at a4
      exact ⟨by omega, by omega, this.1, this.2⟩
theorem stepM_len (c : Cht) (k : Mrk) (m : MM) : (stepM c k m).1.on.length = k.on.length ∧ (stepM c k m).1.kept.length = k.kept.length := ⟨goes_len _ _ _, keptM_len _ _ _⟩
theorem stepM_six {c : Cht} {k : Mrk} {m : MM} (hm : m.Six) : (stepM c k m).2.Six := mfold_six _ _ _ _ _ _ hm
def chtStep (c : Cht) (k : Mrk) (m : MM) : Mrk × MM := if c.ok && mrkOk c k && m.ok then stepM c k m else (⟨[], []⟩, ⟨[], [], []⟩)
theorem chtStep_ok (c : Cht) (k : Mrk) (m : MM) (hc : c.Sm) (hm : m.Sm) : PureF Tryz.prog 33 [.agg c.cs, .agg k.cs, .agg m.cs] [.agg (chtStep c k m).1.cs, .agg (chtStep c k m).2.cs] := by
  refine pureF_of Tryz.func33 rfl Tryz.ntmps33 (by simp) T_ ?_
  intro f0 B Q hQ
  refine g_ [3,4,5,6,7] ?_
  refine n_ ?_
  refine wpM_regionK [3,4,5,6,7,23] rfl fun Q1 hQ1 => ?_
  refine SD_ ?_
  refine cpD_ (chtOk_ok c hc) Tryz.call55 ?_
  first | refine cg_ (fun hb => mrkOk_ok c k) Tryz.call56 ?_ | refine cpD_ (mrkOk_ok c k) Tryz.call56 ?_
  first | refine cg_ (fun hb => memOk_ok m hm) Tryz.call57 ?_ | refine cpD_ (memOk_ok m hm) Tryz.call57 ?_
  refine hQ1 _ _ (S_ ?_);clear hQ1 Q1
  refine c_ (fun hc0 => ?_) fun hc0 => ?_
  ·
    refine g_ [6,7] ?_
    have hcs : chtStep c k m = (⟨[], []⟩, ⟨[], [], []⟩) := by rw [chtStep, if_neg]; intro hh; rw [Bool.and_eq_true, Bool.and_eq_true] at hh; rw [hh.1.1, hh.1.2, hh.2] at hc0; cases hc0
    refine wpM_le [(6, .ptr (B + 3) 0), (7, .ptr (B + 4) 0)] [(B + 3, .cells 50 [.rows 4 [], .rows 4 []]), (B + 4, .cells 52 [.rows 3 [], .rows 3 [], .rows 3 []])] T_ T_ T_ ?_
    refine e_ Tryz.results33 ?_
    first
    | exact True.intro
    | rw [hcs]
      repeat' apply And.intro
      all_goals rfl
  have hok : (c.ok && mrkOk c k && m.ok) = true := by
    simp only [Bool.or_eq_false_iff, Bool.not_eq_false'] at hc0
    rw [hc0.1.1, hc0.1.2, hc0.2]; rfl
  have hcs : chtStep c k m = stepM c k m := by rw [chtStep, if_pos hok]
  rw [Bool.and_eq_true, Bool.and_eq_true] at hok
  obtain ⟨⟨hok1, hok2⟩, hok3⟩ := hok
  have hsix := MM.ok_six hok3
  have hst := Cht.ok_st hok1
  simp only [mrkOk, Bool.and_eq_true, beq_iff_eq] at hok2
  have hgo : c.Go k.on.length := by
    have := Cht.ok_Go hok1
    rwa [show c.steps.toNat = k.on.length by omega] at this
  have hl2 := stepM_len c k m
  have hs6 := stepM_six (c := c) (k := k) hsix
  have e1 := hsix.i
  have e2 := hsix.o
  have e3 := hsix.v
  have d1 := hs6.i
  have d2 := hs6.o
  have d3 := hs6.v
  refine n_ ?_
  refine dr_ mixed [6,7,8,9] 5 3 [B, B + 1, B + 2, B + 5, B + 6, B + 7, B + 8, B + 9] [⟨[3],[0],[],[],false⟩,⟨[4],[1],[],[],false⟩,⟨[28],[],[],[],true⟩,⟨[5],[2],[],[],false⟩,⟨[30],[],[],[3,4,5],true⟩,⟨[27,29,31],[3,4,5],[3,4,5],[],true⟩,⟨[32],[],[],[],false⟩,⟨[26],[],[],[],false⟩,⟨[26],[],[],[],false⟩,⟨[],[],[],[6],false⟩,⟨[],[],[],[7],false⟩,⟨[8,33],[6],[6],[],false⟩,⟨[9,34],[7],[7],[],false⟩] [0,1,3,9,10,2,4,5,6,7,8,11,12] [[],[],[1],[],[1,2,3],[0,1,2,3,4],[0,1,2,3,4,5],[0,1,2,3,4,5,6],[0,1,2,3,4,5,6],[],[],[0,1,2,3,4,5,6,7,9,10],[0,1,2,3,4,5,6,7,8,9,10,11]] 8 ?_
  intro O A K hO hA hK;simp only [atL_cons,atL_nil,Nat.reduceAdd,Nat.zero_add] at hO hA
  refine SO_ ?_
  refine lp_ (mcopy_ok k (by omega) (by omega)) Tryz.call73 ?_
  refine loud_fn (first := []) (cap := []) (l := []) (l2copy_ok m hsix) Tryz.call74 rfl rfl F_ (fun i o h => by simp [lk] at h) rfl ?_
  rintro out ⟨x, y, z, hns, rfl⟩
  injection hns with hn1 hns
  injection hns with hn2 hns
  injection hns with hn3 hns
  subst hn1 hn2 hn3
  refine ⟨rfl, ?_⟩
  refine SO_ ?_
  refine loud_fn (first := []) (cap := []) (l := m.ol (B + 5) (B + 6) (B + 7)) (step_ok c k m (B + 5) (B + 6) (B + 7) hsix (by omega) (by omega) (by omega) hc (by omega) hgo) Tryz.call72 rfl rfl F_ (subG_spec T_) rfl ?_
  rintro out rfl
  refine ⟨rfl, ?_⟩
  refine SO_ ?_
  refine hK _ (S_ ?_);clear hK K hO hA O A
  generalize hS : stepM c k m = S at *
  refine wpM_frz [B + 5, B + 6, B + 7] (S.2.tb (B + 5) (B + 6) (B + 7)) (by intro q hq; simp at hq; rcases hq with rfl | rfl | rfl <;> simp -implicitDefEqProofs (disch := omega) only [go_sem]) (S.2.frz hs6 T_ T_ T_) ?_
  simp -implicitDefEqProofs (disch := omega) only [go_sem, MM.tb]
  refine n_ ?_
  refine dr_ mixed [6,7] 3 4 [B + 3, B + 4, B + 8, B + 9, B + 10, B + 11, B + 12] [⟨[8],[2],[],[],false⟩,⟨[35],[],[],[],true⟩,⟨[9],[3],[],[],false⟩,⟨[37],[],[],[4,5,6],true⟩,⟨[6,36],[0],[0],[],false⟩,⟨[7,38],[1],[1],[],false⟩] [0,2,1,3,4,5] [[],[0],[],[0,1,2],[0,1,2,3],[0,1,2,3,4]] 7 ?_
  intro O A K hO hA hK;simp only [atL_cons,atL_nil,Nat.reduceAdd,Nat.zero_add] at hO hA
  refine SO_ ?_
  refine lp_ (mcopy_ok S.1 (by omega) (by omega)) Tryz.call73 ?_
  refine loud_fn (first := []) (cap := []) (l := []) (l2copy_ok S.2 hs6) Tryz.call74 rfl rfl F_ (fun i o h => by simp [lk] at h) rfl ?_
  rintro out ⟨x, y, z, hns, rfl⟩
  injection hns with hn1 hns
  injection hns with hn2 hns
  injection hns with hn3 hns
  subst hn1 hn2 hn3
  refine ⟨rfl, ?_⟩
  refine SO_ ?_
  refine hK _ (S_ ?_);clear hK K hO hA O A
  refine wpM_frz [B + 10, B + 11, B + 12] (S.2.tb (B + 10) (B + 11) (B + 12)) (by intro q hq; simp at hq; rcases hq with rfl | rfl | rfl <;> simp -implicitDefEqProofs (disch := omega) only [go_sem]) (S.2.frz hs6 T_ T_ T_) ?_
  simp -implicitDefEqProofs (disch := omega) only [go_sem, MM.tb]
  refine e_ Tryz.results33 ?_
  first
  | exact True.intro
  | rw [hcs]
    repeat' apply And.intro
    all_goals rfl
end Go.Proofs.YtnmfmeehmieifaaGreat
