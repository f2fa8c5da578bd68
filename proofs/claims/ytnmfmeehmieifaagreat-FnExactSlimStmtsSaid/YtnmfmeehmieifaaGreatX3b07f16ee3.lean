/- A part of a proof: lemmas and contracts of functions; the last text of the claim says what is proved. -/
import Derived.Test.YtnmfmeehmieifaaGreatX372ef8afa6
set_option linter.unusedSectionVars false
set_option linter.unusedSimpArgs false
set_option linter.unusedVariables false
namespace Go.Proofs.YtnmfmeehmieifaaGreat
open Go Sg
set_option linter.unusedSectionVars false
variable [Glob]
set_option maxRecDepth 100000
set_option linter.unusedSimpArgs false
set_option maxHeartbeats 4000000
theorem mixed : Tryz.prog.follows .mixedOrders = true := by kernel_rfl
def ints (l : List Int) : List PV := l.map (PV.int .i64)
@[go_sem] theorem ints_drop (l : List Int) (k : Nat) (h : k < l.length) : ((ints l).drop k)[0]? = some (.int .i64 (l.getD k 0)) := by
  simp [ints, List.getD, h]
structure Bs (bs : List Nat) : Prop where
  lt : ∀ x ∈ bs, x < 256
  len : bs.length ≤ 2000
theorem Bs.get {bs : List Nat} (h : Bs bs) (k : Nat) : bs.getD k 0 < 256 := by
  by_cases hk : k < bs.length
  · rw [List.getD_eq_getElem?_getD, List.getElem?_eq_getElem hk]; exact h.lt _ (List.getElem_mem hk)
  · rw [List.getD_eq_getElem?_getD, List.getElem?_eq_none (by omega)]; simp
end Go.Proofs.YtnmfmeehmieifaaGreat
namespace Go.Proofs.YtnmfmeehmieifaaGreat
open Go Sg
set_option linter.unusedSectionVars false
variable [Glob]
set_option maxRecDepth 100000
set_option linter.unusedSimpArgs false
set_option linter.unusedVariables false
set_option maxHeartbeats 4000000
def cut (n : Int) : Int := max (-1000000) (min 1000000 n)
theorem l1Max_ok (a b : Int) : PureF Tryz.prog 169 [.int .i64 a, .int .i64 b] [.int .i64 (max a b)] := by
  refine pureF_of Tryz.func169 rfl Tryz.ntmps169 (by simp) T_ ?_
  intro f0 B Q hQ
  refine g_ [0,1] ?_
  refine g_ [0,1,7] ?_
  refine c_ (fun hc0 => ?_) fun hc0 => ?_
  ·
    refine g_ [4] ?_
    refine e_ Tryz.results169 ?_
    first
    | exact True.intro
    | omega
  refine g_ [4] ?_
  refine e_ Tryz.results169 ?_
  first
  | exact True.intro
  | omega
theorem l1Min_ok (a b : Int) : PureF Tryz.prog 170 [.int .i64 a, .int .i64 b] [.int .i64 (min a b)] := by
  refine pureF_of Tryz.func170 rfl Tryz.ntmps170 (by simp) T_ ?_
  intro f0 B Q hQ
  refine g_ [0,1] ?_
  refine g_ [0,1,7] ?_
  refine c_ (fun hc0 => ?_) fun hc0 => ?_
  ·
    refine g_ [4] ?_
    refine e_ Tryz.results170 ?_
    first
    | exact True.intro
    | omega
  refine g_ [4] ?_
  refine e_ Tryz.results170 ?_
  first
  | exact True.intro
  | omega
theorem cut_ok (n : Int) : PureF Tryz.prog 143 [.int .i64 n] [.int .i64 (cut n)] := by
  refine pureF_of Tryz.func143 rfl Tryz.ntmps143 (by simp) T_ ?_
  intro f0 B Q hQ
  refine g_ [0] ?_
  refine n_ ?_
  refine wpM_regionK [2] rfl fun Q1 hQ1 => ?_
  refine S_ ?_
  refine cp_ (l1Min_ok 1000000 n) Tryz.call170 ?_
  refine cp_ (l1Max_ok (-1000000) (min 1000000 n)) Tryz.call169 ?_
  refine hQ1 _ _ (S_ ?_);clear hQ1 Q1
  refine e_ Tryz.results143 ?_
  first
  | exact True.intro
  | rfl
structure AD where
  kind : Int
  at' : Int
  deriving DecidableEq, Inhabited
def AD.cs (a : AD) : List PV := [.int .i64 a.kind, .int .i64 a.at']
@[go_sem] theorem AD.cs_eq (a : AD) : a.cs = [.int .i64 a.kind, .int .i64 a.at'] := rfl
theorem eqAD (d : Nat) (a b c e : Int) : eqA Tryz.prog (d + 2) 74 (.agg [.int .i64 a, .int .i64 b]) (.agg [.int .i64 c, .int .i64 e]) = some (a == c && b == e) := by
  unfold eqA
  simp only [Tryz.underlying74, Tryz.stoodInHeld74, Bool.false_eq_true, if_false, eqFs]
  simp -implicitDefEqProofs (disch := omega) only [go_sem, eqA, eqFs, ne_eq, String.reduceEq]
  cases h1 : a == c <;> cases h2 : b == e <;> simp [eqA, Tryz.underlying3, h1, h2]
@[go_sem] theorem neqAD (x y : Operand) (a b c e : Int) : binOpA Tryz.prog .neq 74 x y (.agg [.int .i64 a, .int .i64 b]) (.agg [.int .i64 c, .int .i64 e]) = some (.bool (!(a == c && b == e))) := by
  simp only [binOpA, Tryz.eqGuardType74]
  rw [eqAD 9998]; rfl
@[go_sem] theorem eqlAD (x y : Operand) (a b c e : Int) : binOpA Tryz.prog .eql 74 x y (.agg [.int .i64 a, .int .i64 b]) (.agg [.int .i64 c, .int .i64 e]) = some (.bool (a == c && b == e)) := by
  simp only [binOpA, Tryz.eqGuardType74]
  rw [eqAD 9998]; rfl
def AD.ok (a : AD) : Bool := decide (a.kind ≥ 1) && decide (a.kind ≤ 3) && decide (a.at' ≥ 0) && decide (a.at' < 6)
theorem addrOk_ok (a : AD) : PureF Tryz.prog 102 [.agg a.cs] [.bool a.ok] := by
  refine pureF_of Tryz.func102 rfl Tryz.ntmps102 (by simp) T_ ?_
  intro f0 B Q hQ
  refine g_ [1] ?_
  refine gD_ [2] ?_
  refine e_ Tryz.results102 ?_
  first
  | exact True.intro
  | rfl
inductive Ex where
  | mk (kind n : Int) (a : AD) (kids : List Ex)
  deriving Inhabited
def Ex.kind : Ex → Int | .mk k _ _ _ => k
def Ex.n : Ex → Int | .mk _ n _ _ => n
def Ex.a : Ex → AD | .mk _ _ a _ => a
def Ex.kids : Ex → List Ex | .mk _ _ _ l => l
mutual
def Ex.cs : Ex → List PV
  | .mk k n a l => [.int .i64 k, .int .i64 n, .int .i64 a.kind, .int .i64 a.at', .rows 77 (Ex.csL l)]
def Ex.csL : List Ex → List (List PV)
  | [] => []
  | e :: l => e.cs :: Ex.csL l
end
@[go_sem] theorem Ex.cs_eq (e : Ex) : e.cs = [.int .i64 e.kind, .int .i64 e.n, .int .i64 e.a.kind, .int .i64 e.a.at', .rows 77 (Ex.csL e.kids)] := by cases e; simp only [Ex.cs, Ex.kind, Ex.n, Ex.a, Ex.kids]
theorem Ex.csL_map (l : List Ex) : Ex.csL l = l.map Ex.cs := by
  induction l with
  | nil => rfl
  | cons e l ih => simp [Ex.csL, ih]
@[go_sem] theorem Ex.csL_len (l : List Ex) : (Ex.csL l).length = l.length := by simp [Ex.csL_map]
@[go_sem] theorem Ex.csL_get (l : List Ex) (k : Nat) (h : k < l.length) : (Ex.csL l).getD k [] = (l.getD k default).cs := by simp [Ex.csL_map, List.getD, h]
def kidsN (k : Int) : Int := if k == 1 || k == 2 then 0 else if k == 10 then 1 else if decide (k ≥ 3) && decide (k ≤ 9) then 2 else -1
theorem l3Kids_ok (k : Int) : PureF Tryz.prog 168 [.int .i64 k] [.int .i64 (kidsN k)] := by
  refine pureF_of Tryz.func168 rfl Tryz.ntmps168 (by simp) T_ ?_
  intro f0 B Q hQ
  refine g_ [0] ?_
  refine gD_ [0,3] ?_
  refine c_ (fun hc0 => ?_) fun hc0 => ?_
  ·
    refine g_ [2] ?_
    refine e_ Tryz.results168 ?_
    first
    | exact True.intro
    | simp [kidsN, *]
  refine g_ [0,10] ?_
  refine c_ (fun hc1 => ?_) fun hc1 => ?_
  ·
    refine g_ [2] ?_
    refine e_ Tryz.results168 ?_
    first
    | exact True.intro
    | simp [kidsN, *]
  refine gD_ [13] ?_
  refine c_ (fun hc2 => ?_) fun hc2 => ?_
  ·
    refine g_ [2] ?_
    refine e_ Tryz.results168 ?_
    first
    | exact True.intro
    | simp [kidsN, *]
  refine g_ [2] ?_
  refine e_ Tryz.results168 ?_
  first
  | exact True.intro
  | simp [kidsN, *]
end Go.Proofs.YtnmfmeehmieifaaGreat
namespace Go.Proofs.YtnmfmeehmieifaaGreat
open Go Sg
set_option linter.unusedSectionVars false
variable [Glob]
set_option maxRecDepth 100000
set_option linter.unusedSimpArgs false
set_option linter.unusedVariables false
set_option maxHeartbeats 4000000
mutual
def Ex.sz : Ex → Nat | .mk _ _ _ l => 1 + Ex.szL l
def Ex.szL : List Ex → Nat | [] => 0 | e :: l => e.sz + Ex.szL l
end
theorem Ex.sz_eq (e : Ex) : e.sz = 1 + Ex.szL e.kids := by cases e; simp only [Ex.sz, Ex.kids]
theorem Ex.sz_pos (e : Ex) : 0 < e.sz := by rw [Ex.sz_eq]; omega
theorem Ex.len_szL (l : List Ex) : l.length ≤ Ex.szL l := by
  induction l with
  | nil => simp
  | cons e l ih => simp only [List.length_cons, Ex.szL]; have := e.sz_pos; omega
theorem Ex.get_szL (l : List Ex) (k : Nat) (h : k < l.length) : (l.getD k default).sz ≤ Ex.szL l := by
  induction l generalizing k with
  | nil => simp at h
  | cons e l ih =>
    simp only [Ex.szL]
    cases k with
    | zero => simp
    | succ k =>
      have := ih k (by simpa using h)
      simp only [List.getD_cons_succ]; omega
theorem Ex.kid_sz {e : Ex} {k : Nat} (h : k < e.kids.length) : (e.kids.getD k default).sz < e.sz := by
  have := Ex.get_szL e.kids k h
  rw [Ex.sz_eq e]; omega
theorem Ex.kids_len (e : Ex) : e.kids.length < e.sz := by
  have := Ex.len_szL e.kids
  rw [Ex.sz_eq e]; omega
def formD : Nat → Ex → Bool
  | 0, _ => false
  | d + 1, e => if kidsN e.kind != (e.kids.length : Int) then false
    else if (e.kind == 1 && cut e.n != e.n) || (e.kind != 1 && e.n != 0) then false
    else if (e.kind == 2 && !e.a.ok) || (e.kind != 2 && !(e.a.kind == 0 && e.a.at' == 0)) then false
    else e.kids.all (formD d)
theorem take_all {α : Type} [Inhabited α] (p : α → Bool) (l : List α) (i : Nat) (h : i < l.length) : (l.take (i + 1)).all p = ((l.take i).all p && p (l.getD i default)) := by
  rw [List.take_succ_eq_append_getElem h, List.all_append]
  simp [List.getD, h]
theorem all_no {α : Type} [Inhabited α] {p : α → Bool} {l : List α} {i : Nat} (h : i < l.length) (hp : (!p (l.getD i default)) = true) : l.all p = false := by
  rw [List.all_eq_false]
  refine ⟨l.getD i default, ?_, by simpa using hp⟩
  rw [List.getD_eq_getElem?_getD, List.getElem?_eq_getElem h]; exact List.getElem_mem h
theorem all_yes {α : Type} [Inhabited α] {p : α → Bool} {l : List α} {i n : Nat} (hi : i + n = l.length) (h : ¬ (i : Int) < (l.length : Int)) (hp : (l.take i).all p = true) : l.all p = true := by
  have : i = l.length := by omega
  rwa [List.take_of_length_le (by omega)] at hp
theorem l3Form_ok (d : Nat) : ∀ (e : Ex) (deep : Int), deep.toNat = d → deep ≤ 1000000 → e.sz ≤ 1099511627776 → PureF Tryz.prog 141 [.agg e.cs, .int .i64 deep] [.bool (formD d e)] := by
  induction d with
  | zero =>
    intro e deep hd hdl hs
    have hlen := e.kids_len
    refine pureF_of Tryz.func141 rfl Tryz.ntmps141 (by simp) T_ ?_
    intro f0 B Q hQ
    have hlt : deep < 1 := by omega
    refine g_ [1,2] ?_
    refine n_ ?_
    refine dr_ mixed [1,2,16] 0 1 [B] [⟨[1],[],[],[],false⟩,⟨[6],[],[],[],false⟩,⟨[7],[],[],[],false⟩,⟨[2,8],[],[],[],false⟩,⟨[8,9],[0],[],[],false⟩,⟨[8,10],[],[],[],true⟩,⟨[2,8],[],[],[],false⟩,⟨[8,12],[0],[],[],false⟩,⟨[8,13],[],[],[],false⟩,⟨[8,11,14],[],[],[],false⟩,⟨[8,15],[],[],[],false⟩] [0,1,2,3,4,6,7,8,5,9,10] [[],[0],[0,1],[0,1,2],[0,1,2,3],[0,1,2,3,4],[0,1,2],[0,1,2,6],[0,1,2,6,7],[0,1,2,3,4,5,6,7,8],[0,1,2,3,4,5,6,7,8,9]] 1 ?_
    intro O A K hO hA hK;simp only [atL_cons,atL_nil,Nat.reduceAdd,Nat.zero_add] at hO hA
    refine SE_ ?_
    first | refine lg_ (fun hb => l3Kids_ok e.kind) Tryz.call168 ?_ | refine lpE_ (l3Kids_ok e.kind) Tryz.call168 ?_
    refine hK _ (S_ ?_);clear hK K hO hA O A
    refine c_ (fun hc0 => ?_) fun hc0 => ?_
    ·
      refine g_ [4] ?_
      refine e_ Tryz.results141 ?_
      first
      | exact True.intro
      | rfl
    simp [hlt] at hc0
  | succ d ih =>
    intro e deep hd hdl hs
    have hlen := e.kids_len
    refine pureF_of Tryz.func141 rfl Tryz.ntmps141 (by simp) T_ ?_
    intro f0 B Q hQ
    have hlt : decide (deep < 1) = false := by simp; omega
    refine g_ [1,2] ?_
    refine n_ ?_
    refine dr_ mixed [1,2,16] 0 1 [B] [⟨[1],[],[],[],false⟩,⟨[6],[],[],[],false⟩,⟨[7],[],[],[],false⟩,⟨[2,8],[],[],[],false⟩,⟨[8,9],[0],[],[],false⟩,⟨[8,10],[],[],[],true⟩,⟨[2,8],[],[],[],false⟩,⟨[8,12],[0],[],[],false⟩,⟨[8,13],[],[],[],false⟩,⟨[8,11,14],[],[],[],false⟩,⟨[8,15],[],[],[],false⟩] [0,1,2,3,4,6,7,8,5,9,10] [[],[0],[0,1],[0,1,2],[0,1,2,3],[0,1,2,3,4],[0,1,2],[0,1,2,6],[0,1,2,6,7],[0,1,2,3,4,5,6,7,8],[0,1,2,3,4,5,6,7,8,9]] 1 ?_
    intro O A K hO hA hK;simp only [atL_cons,atL_nil,Nat.reduceAdd,Nat.zero_add] at hO hA
    refine SE_ ?_
    first | refine lg_ (fun hb => l3Kids_ok e.kind) Tryz.call168 ?_ | refine lpE_ (l3Kids_ok e.kind) Tryz.call168 ?_
    refine hK _ (S_ ?_);clear hK K hO hA O A
    refine c_ (fun hc0 => ?_) fun hc0 => ?_
    ·
      rw [hlt, Bool.false_or] at hc0
      refine g_ [4] ?_
      refine e_ Tryz.results141 ?_
      first
      | exact True.intro
      | clear ih hQ
        simp only [formD, *, ↓reduceIte, Bool.false_eq_true] <;> first | exact (all_no hi2 hc4).symm | exact (all_yes hi hc3 hall).symm
    rw [hlt, Bool.false_or] at hc0
    refine n_ ?_
    refine dr_ mixed [1,2,37] 0 1 [B] [⟨[2],[],[],[],false⟩,⟨[17],[0],[],[],false⟩,⟨[18],[],[],[],false⟩,⟨[19],[],[],[],false⟩,⟨[2,20],[],[],[],false⟩,⟨[20,21],[0],[],[],false⟩,⟨[20,22],[],[],[],true⟩,⟨[2,20],[],[],[],false⟩,⟨[20,24],[0],[],[],false⟩,⟨[20,23,25],[],[],[],false⟩,⟨[20,26],[],[],[],false⟩,⟨[27],[],[],[],false⟩,⟨[2,28],[],[],[],false⟩,⟨[28,29],[0],[],[],false⟩,⟨[28,30],[],[],[],false⟩,⟨[28,31],[],[],[],false⟩,⟨[2,32],[],[],[],false⟩,⟨[32,33],[0],[],[],false⟩,⟨[32,34],[],[],[],false⟩,⟨[28,32,35],[],[],[],false⟩,⟨[28,36],[],[],[],false⟩] [0,1,2,3,4,5,7,8,6,9,10,11,12,13,14,15,16,17,18,19,20] [[],[0],[0,1],[0,1,2],[0,1,2,3],[0,1,2,3,4],[0,1,2,3,4,5],[0,1,2,3],[0,1,2,3,7],[0,1,2,3,4,5,6,7,8],[0,1,2,3,4,5,6,7,8,9],[0,1,2,3,4,5,6,7,8,9,10],[0,1,2,3,4,5,6,7,8,9,10,11],[0,1,2,3,4,5,6,7,8,9,10,11,12],[0,1,2,3,4,5,6,7,8,9,10,11,12,13],[0,1,2,3,4,5,6,7,8,9,10,11,12,13,14],[0,1,2,3,4,5,6,7,8,9,10,11,12,13,14,15],[0,1,2,3,4,5,6,7,8,9,10,11,12,13,14,15,16],[0,1,2,3,4,5,6,7,8,9,10,11,12,13,14,15,16,17],[0,1,2,3,4,5,6,7,8,9,10,11,12,13,14,15,16,17,18],[0,1,2,3,4,5,6,7,8,9,10,11,12,13,14,15,16,17,18,19]] 1 ?_
    intro O A K hO hA hK;simp only [atL_cons,atL_nil,Nat.reduceAdd,Nat.zero_add] at hO hA
    refine SE_ ?_
    first | refine lg_ (fun hb => cut_ok e.n) Tryz.call143 ?_ | refine lpE_ (cut_ok e.n) Tryz.call143 ?_
    refine hK _ (S_ ?_);clear hK K hO hA O A
    refine c_ (fun hc1 => ?_) fun hc1 => ?_
    ·
      refine g_ [4] ?_
      refine e_ Tryz.results141 ?_
      first
      | exact True.intro
      | clear ih hQ
        simp only [formD, *, ↓reduceIte, Bool.false_eq_true] <;> first | exact (all_no hi2 hc4).symm | exact (all_yes hi hc3 hall).symm
    refine n_ ?_
    refine wpM_regionK [1,2,57] rfl fun Q1 hQ1 => ?_
    refine SD_ ?_
    first | refine cg_ (fun hb => addrOk_ok e.a) Tryz.call102 ?_ | refine cpD_ (addrOk_ok e.a) Tryz.call102 ?_
    refine hQ1 _ _ (S_ ?_);clear hQ1 Q1
    refine c_ (fun hc2 => ?_) fun hc2 => ?_
    ·
      refine g_ [4] ?_
      refine e_ Tryz.results141 ?_
      first
      | exact True.intro
      | clear ih hQ
        simp only [formD, *, ↓reduceIte, Bool.false_eq_true] <;> first | exact (all_no hi2 hc4).symm | exact (all_yes hi hc3 hall).symm
    refine g_ [1,2,5] ?_
    refine n_ ?_
    refine wpM_loopS (fun s n s' => ∃ i M : Nat, i + n = e.kids.length ∧ s.M ≤ M ∧ (e.kids.take i).all (formD d) = true ∧ s' = { s with env := setE 5 (.int .i64 i) s.env, M := M }) (e.kids.length) ?_ ?_
    ·
      refine .of ⟨0, _, by omega, Nat.le_refl _, by simp, rfl⟩ ?_ ?_ ?_ rfl rfl (Nat.le_refl _) rfl <;> exact L_
    rintro n s' ⟨i, M, hi, hM, hall, rfl⟩
    try refine S_ ?_
    refine g_ [1,2,5,62] ?_
    refine c_ (fun hc3 => ?_) fun hc3 => ?_
    ·
      have hi2 : i < e.kids.length := by omega
      refine n_ ?_
      refine wpM_regionK [1,2,5,73] rfl fun Q1 hQ1 => ?_
      refine S_ ?_
      refine cp_ (ih (e.kids.getD i default) (deep - 1) (by omega) (by omega) (by have := Ex.kid_sz hi2; omega)) Tryz.call141 ?_
      refine hQ1 _ _ (S_ ?_);clear hQ1 Q1
      refine c_ (fun hc4 => ?_) fun hc4 => ?_
      ·
        refine g_ [4] ?_
        refine e_ Tryz.results141 ?_
        first
        | exact True.intro
        | clear ih hQ
          simp only [formD, *, ↓reduceIte, Bool.false_eq_true] <;> first | exact (all_no hi2 hc4).symm | exact (all_yes hi hc3 hall).symm
      refine g_ [1,2,5] ?_
      refine .of ⟨n - 1, by omega, i + 1, M, by omega, hM, ?_, rfl⟩ ?_ ?_ ?_ rfl rfl (Nat.le_refl _) rfl
      · rw [take_all _ _ _ hi2, hall]; simp at hc4; simp [hc4]
      all_goals exact L_
    refine g_ [4] ?_
    refine e_ Tryz.results141 ?_
    first
    | exact True.intro
    | clear ih hQ
      simp only [formD, *, ↓reduceIte, Bool.false_eq_true] <;> first | exact (all_no hi2 hc4).symm | exact (all_yes hi hc3 hall).symm
def manyD : Nat → Ex → Nat
  | 0, _ => 1
  | d + 1, e => 1 + (e.kids.map (manyD d)).sum
theorem manyD_le (d : Nat) : ∀ e : Ex, manyD d e ≤ e.sz := by
  induction d with
  | zero => intro e; exact e.sz_pos
  | succ d ih =>
    intro e
    have h : ∀ l : List Ex, (l.map (manyD d)).sum ≤ Ex.szL l := by
      intro l
      induction l with
      | nil => simp [Ex.szL]
      | cons x l ihl => simp only [List.map_cons, List.sum_cons, Ex.szL]; have := ih x; omega
    have := h e.kids
    rw [Ex.sz_eq]; simp only [manyD]; omega
theorem take_sum {α : Type} [Inhabited α] (f : α → Nat) (l : List α) (i : Nat) (h : i < l.length) : ((l.take (i + 1)).map f).sum = ((l.take i).map f).sum + f (l.getD i default) := by
  rw [List.take_succ_eq_append_getElem h, List.map_append, List.sum_append]
  simp [List.getD, h]
theorem take_sum_le {α : Type} (f : α → Nat) (l : List α) (i : Nat) : ((l.take i).map f).sum ≤ (l.map f).sum := by
  have : (l.map f).sum = ((l.take i).map f).sum + ((l.drop i).map f).sum := by rw [← List.sum_append, ← List.map_append, List.take_append_drop]
  omega
theorem l3Many_ok (d : Nat) : ∀ (e : Ex) (deep : Int), deep.toNat = d → deep ≤ 1000000 → e.sz ≤ 1099511627776 → PureF Tryz.prog 142 [.agg e.cs, .int .i64 deep] [.int .i64 (manyD d e : Nat)] := by
  induction d with
  | zero =>
    intro e deep hd hdl hs
    have hlen := e.kids_len
    refine pureF_of Tryz.func142 rfl Tryz.ntmps142 (by simp) T_ ?_
    intro f0 B Q hQ
    have hlt : decide (deep > 0) = false := by simp; omega
    refine g_ [1,2] ?_
    refine g_ [1,2,5] ?_
    refine g_ [1,2,5,6] ?_
    refine n_ ?_
    refine wpM_loopS (fun s n s' => s' = s) (0) ?_ ?_
    ·
      exact .here rfl
    rintro n s' rfl
    try refine S_ ?_
    refine gD_ [1,2,5,6,15] ?_
    refine c_ (fun hc0 => ?_) fun hc0 => ?_
    · simp [hlt] at hc0
    refine g_ [4] ?_
    refine e_ Tryz.results142 ?_
    first
    | exact True.intro
    | rfl
  | succ d ih =>
    intro e deep hd hdl hs
    have hlen := e.kids_len
    refine pureF_of Tryz.func142 rfl Tryz.ntmps142 (by simp) T_ ?_
    intro f0 B Q hQ
    have hlt : decide (deep > 0) = true := by simp; omega
    have hmx := manyD_le (d + 1) e
    refine g_ [1,2] ?_
    refine g_ [1,2,5] ?_
    refine g_ [1,2,5,6] ?_
    refine n_ ?_
    refine wpM_loopS (fun s n s' => ∃ i M : Nat, i + n = e.kids.length ∧ s.M ≤ M ∧ s' = { s with env := setE 6 (.int .i64 (i : Nat)) (setE 5 (.int .i64 ((1 + ((e.kids.take i).map (manyD d)).sum : Nat) : Int)) s.env), M := M }) (e.kids.length) ?_ ?_
    ·
      refine .of ⟨0, _, by omega, Nat.le_refl _, rfl⟩ ?_ ?_ ?_ rfl rfl (Nat.le_refl _) rfl <;> exact L_
    rintro n s' ⟨i, M, hi, hM, rfl⟩
    try refine S_ ?_
    refine n_ ?_
    refine wpM_regionK [1,2,5,6,15] rfl fun Q1 hQ1 => ?_
    simp (contextual := true) (maxSteps := 1000000) (implicitDefEqProofs := false) (disch := first | omega | (simp only [decide_eq_true_eq, decide_eq_false_iff_not, Bool.and_eq_true, Bool.or_eq_false_iff, Bool.not_eq_true'] at *; omega)) only [go_sem, hlt, Bool.and_true]
    refine hQ1 _ _ (S_ ?_);clear hQ1 Q1
    refine c_ (fun hc0 => ?_) fun hc0 => ?_
    ·
      have hi2 : i < e.kids.length := by omega
      have hsum := take_sum (manyD d) e.kids i hi2
      have hle := take_sum_le (manyD d) e.kids (i + 1)
      simp only [manyD] at hmx
      rw [hsum] at hle
      refine n_ ?_
      refine wpM_regionK [1,2,5,6] rfl fun Q1 hQ1 => ?_
      refine S_ ?_
      refine cp_ (ih (e.kids.getD i default) (deep - 1) (by omega) (by omega) (by have := Ex.kid_sz hi2; omega)) Tryz.call142 ?_
      refine hQ1 _ _ (S_ ?_);clear hQ1 Q1
      refine g_ [1,2,5,6] ?_
      refine .of ⟨n - 1, by omega, i + 1, M, by omega, hM, rfl⟩ ?_ ?_ ?_ rfl rfl (Nat.le_refl _) rfl
      · simp -implicitDefEqProofs (disch := omega) only [go_sem, PV.int.injEq]
        rw [hsum]
        constructor <;> omega
      all_goals exact L_
    refine g_ [4] ?_
    refine e_ Tryz.results142 ?_
    first
    | exact True.intro
    | have hie : i = e.kids.length := by omega
      simp only [manyD]
      rw [hie, List.take_of_length_le (Nat.le_refl _)]
def Ex.ok (e : Ex) : Bool := formD 6 e && decide (manyD 6 e ≤ 14)
theorem exprOk_ok (e : Ex) (hs : e.sz ≤ 1099511627776) : PureF Tryz.prog 101 [.agg e.cs] [.bool e.ok] := by
  refine pureF_of Tryz.func101 rfl Tryz.ntmps101 (by simp) T_ ?_
  intro f0 B Q hQ
  refine g_ [1] ?_
  refine n_ ?_
  refine wpM_regionK [2] rfl fun Q1 hQ1 => ?_
  refine SD_ ?_
  refine cpD_ (l3Form_ok 6 e 6 rfl (by omega) hs) Tryz.call141 ?_
  first | refine cg_ (fun hb => l3Many_ok 6 e 6 rfl (by omega) hs) Tryz.call142 ?_ | refine cpD_ (l3Many_ok 6 e 6 rfl (by omega) hs) Tryz.call142 ?_
  refine hQ1 _ _ (S_ ?_);clear hQ1 Q1
  refine e_ Tryz.results101 ?_
  first
  | exact True.intro
  | have : decide ((manyD 6 e : Int) ≤ 14) = decide (manyD 6 e ≤ 14) := by simp; omega
    simp only [Ex.ok, this]
end Go.Proofs.YtnmfmeehmieifaaGreat
namespace Go.Proofs.YtnmfmeehmieifaaGreat
open Go Sg
set_option linter.unusedSectionVars false
variable [Glob]
set_option maxRecDepth 100000
set_option linter.unusedSimpArgs false
set_option linter.unusedVariables false
set_option maxHeartbeats 4000000
def rowsI (l : List Int) : List (List PV) := l.map fun x => [.int .i64 x]
def rowsB (l : List Bool) : List (List PV) := l.map fun x => [.bool x]
structure MM where
  i : List Int
  o : List Int
  v : List Int
  deriving DecidableEq, Inhabited
def MM.cs (m : MM) : List PV := [.rows 3 (rowsI m.i), .rows 3 (rowsI m.o), .rows 3 (rowsI m.v)]
@[go_sem] theorem MM.cs_eq (m : MM) : m.cs = [.rows 3 (rowsI m.i), .rows 3 (rowsI m.o), .rows 3 (rowsI m.v)] := rfl
def listOk (l : List Int) : Bool := l.all (fun x => !(cut x != x)) && (l.length : Int) == 6
def MM.ok (m : MM) : Bool := listOk m.i && listOk m.o && listOk m.v
structure MM.Sm (m : MM) : Prop where
  i : m.i.length ≤ 1099511627776
  o : m.o.length ≤ 1099511627776
  v : m.v.length ≤ 1099511627776
theorem add_ok (a b : Int) : PureF Tryz.prog 171 [.int .i64 a, .int .i64 b] [.int .i64 (cut (cut a + cut b))] := by
  have ha : -1000000 ≤ cut a ∧ cut a ≤ 1000000 := by unfold cut; omega
  have hb : -1000000 ≤ cut b ∧ cut b ≤ 1000000 := by unfold cut; omega
  refine pureF_of Tryz.func171 rfl Tryz.ntmps171 (by simp) T_ ?_
  intro f0 B Q hQ
  refine g_ [0,1] ?_
  refine n_ ?_
  refine wpM_regionK [4] rfl fun Q1 hQ1 => ?_
  refine S_ ?_
  refine cp_ (cut_ok a) Tryz.call143 ?_
  refine cp_ (cut_ok b) Tryz.call143 ?_
  refine cp_ (cut_ok (cut a + cut b)) Tryz.call143 ?_
  refine hQ1 _ _ (S_ ?_);clear hQ1 Q1
  refine e_ Tryz.results171 ?_
  first
  | exact True.intro
  | rfl
end Go.Proofs.YtnmfmeehmieifaaGreat
namespace Go.Proofs.YtnmfmeehmieifaaGreat
open Go Sg
set_option linter.unusedSectionVars false
variable [Glob]
set_option maxRecDepth 100000
set_option linter.unusedSimpArgs false
set_option linter.unusedVariables false
set_option maxHeartbeats 4000000
theorem cut_bd (a : Int) : -1000000 ≤ cut a ∧ cut a ≤ 1000000 := by unfold cut; omega
theorem cut_mul (a b : Int) : -1000000000000 ≤ cut a * cut b ∧ cut a * cut b ≤ 1000000000000 := by
  have ha := cut_bd a
  have hb := cut_bd b
  have h1 : (cut a * cut b).natAbs ≤ 1000000 * 1000000 := by
    rw [Int.natAbs_mul]
    exact Nat.mul_le_mul (by omega) (by omega)
  omega
theorem sub_ok (a b : Int) : PureF Tryz.prog 172 [.int .i64 a, .int .i64 b] [.int .i64 (cut (cut a - cut b))] := by
  have ha := cut_bd a
  have hb := cut_bd b
  refine pureF_of Tryz.func172 rfl Tryz.ntmps172 (by simp) T_ ?_
  intro f0 B Q hQ
  refine g_ [0,1] ?_
  refine n_ ?_
  refine wpM_regionK [4] rfl fun Q1 hQ1 => ?_
  refine S_ ?_
  refine cp_ (cut_ok a) Tryz.call143 ?_
  refine cp_ (cut_ok b) Tryz.call143 ?_
  refine cp_ (cut_ok (cut a - cut b)) Tryz.call143 ?_
  refine hQ1 _ _ (S_ ?_);clear hQ1 Q1
  refine e_ Tryz.results172 ?_
  first
  | exact True.intro
  | rfl
theorem mul_ok (a b : Int) : PureF Tryz.prog 173 [.int .i64 a, .int .i64 b] [.int .i64 (cut (cut a * cut b))] := by
  have ha := cut_mul a b
  refine pureF_of Tryz.func173 rfl Tryz.ntmps173 (by simp) T_ ?_
  intro f0 B Q hQ
  refine g_ [0,1] ?_
  refine n_ ?_
  refine wpM_regionK [4] rfl fun Q1 hQ1 => ?_
  refine S_ ?_
  refine cp_ (cut_ok a) Tryz.call143 ?_
  refine cp_ (cut_ok b) Tryz.call143 ?_
  refine cp_ (cut_ok (cut a * cut b)) Tryz.call143 ?_
  refine hQ1 _ _ (S_ ?_);clear hQ1 Q1
  refine e_ Tryz.results173 ?_
  first
  | exact True.intro
  | rfl
def numIs (b : Bool) : Int := if b then 1 else 0
theorem is_ok (b : Bool) : PureF Tryz.prog 121 [.bool b] [.int .i64 (numIs b)] := by
  refine pureF_of Tryz.func121 rfl Tryz.ntmps121 (by simp) T_ ?_
  intro f0 B Q hQ
  refine g_ [0] ?_
  refine g_ [3] ?_
  refine c_ (fun hc0 => ?_) fun hc0 => ?_
  ·
    refine g_ [2] ?_
    refine e_ Tryz.results121 ?_
    first
    | exact True.intro
    | simp [numIs, *]
  refine g_ [2] ?_
  refine e_ Tryz.results121 ?_
  first
  | exact True.intro
  | simp [numIs, *]
theorem on_ok (a : Int) : PureF Tryz.prog 85 [.int .i64 a] [.bool (a != 0)] := by
  refine pureF_of Tryz.func85 rfl Tryz.ntmps85 (by simp) T_ ?_
  intro f0 B Q hQ
  refine g_ [0] ?_
  refine g_ [2] ?_
  refine e_ Tryz.results85 ?_
  first
  | exact True.intro
  | rfl
def two (k a b : Int) : Int := if k == 3 then cut (cut a + cut b) else if k == 4 then cut (cut a - cut b) else if k == 5 then cut (cut a * cut b)
  else if k == 6 then numIs (decide (a < b)) else if k == 7 then numIs (a == b) else if k == 8 then numIs (a != 0 && b != 0) else numIs (a != 0 || b != 0)
theorem two_ok (k a b : Int) : PureF Tryz.prog 145 [.int .i64 k, .int .i64 a, .int .i64 b] [.int .i64 (two k a b)] := by
  refine pureF_of Tryz.func145 rfl Tryz.ntmps145 (by simp) T_ ?_
  intro f0 B Q hQ
  refine g_ [0,1,2] ?_
  refine g_ [1,2,7] ?_
  refine g_ [1,2,7,8] ?_
  refine c_ (fun hc0 => ?_) fun hc0 => ?_
  ·
    refine n_ ?_
    refine wpM_regionK [6] rfl fun Q1 hQ1 => ?_
    refine S_ ?_
    refine cp_ (add_ok a b) Tryz.call171 ?_
    refine hQ1 _ _ (S_ ?_);clear hQ1 Q1
    refine e_ Tryz.results145 ?_
    first
    | exact True.intro
    | simp only [two, *, ↓reduceIte, Bool.false_eq_true]
  refine g_ [1,2,7,13] ?_
  refine c_ (fun hc1 => ?_) fun hc1 => ?_
  ·
    refine n_ ?_
    refine wpM_regionK [6] rfl fun Q1 hQ1 => ?_
    refine S_ ?_
    refine cp_ (sub_ok a b) Tryz.call172 ?_
    refine hQ1 _ _ (S_ ?_);clear hQ1 Q1
    refine e_ Tryz.results145 ?_
    first
    | exact True.intro
    | simp only [two, *, ↓reduceIte, Bool.false_eq_true]
  refine g_ [1,2,7,18] ?_
  refine c_ (fun hc2 => ?_) fun hc2 => ?_
  ·
    refine n_ ?_
    refine wpM_regionK [6] rfl fun Q1 hQ1 => ?_
    refine S_ ?_
    refine cp_ (mul_ok a b) Tryz.call173 ?_
    refine hQ1 _ _ (S_ ?_);clear hQ1 Q1
    refine e_ Tryz.results145 ?_
    first
    | exact True.intro
    | simp only [two, *, ↓reduceIte, Bool.false_eq_true]
  refine g_ [1,2,7,23] ?_
  refine c_ (fun hc3 => ?_) fun hc3 => ?_
  ·
    refine n_ ?_
    refine wpM_regionK [6] rfl fun Q1 hQ1 => ?_
    refine S_ ?_
    refine cp_ (is_ok (decide (a < b))) Tryz.call121 ?_
    refine hQ1 _ _ (S_ ?_);clear hQ1 Q1
    refine e_ Tryz.results145 ?_
    first
    | exact True.intro
    | simp only [two, *, ↓reduceIte, Bool.false_eq_true]
  refine g_ [1,2,7,29] ?_
  refine c_ (fun hc4 => ?_) fun hc4 => ?_
  ·
    refine n_ ?_
    refine wpM_regionK [6] rfl fun Q1 hQ1 => ?_
    refine S_ ?_
    refine cp_ (is_ok (a == b)) Tryz.call121 ?_
    refine hQ1 _ _ (S_ ?_);clear hQ1 Q1
    refine e_ Tryz.results145 ?_
    first
    | exact True.intro
    | simp only [two, *, ↓reduceIte, Bool.false_eq_true]
  refine g_ [1,2,35] ?_
  refine c_ (fun hc5 => ?_) fun hc5 => ?_
  ·
    refine n_ ?_
    refine wpM_regionK [6] rfl fun Q1 hQ1 => ?_
    refine SD_ ?_
    refine cpD_ (on_ok a) Tryz.call85 ?_
    first | refine cg_ (fun hb => on_ok b) Tryz.call85 ?_ | refine cpD_ (on_ok b) Tryz.call85 ?_
    refine cpD_ (is_ok (a != 0 && b != 0)) Tryz.call121 ?_
    refine hQ1 _ _ (S_ ?_);clear hQ1 Q1
    refine e_ Tryz.results145 ?_
    first
    | exact True.intro
    | simp only [two, *, ↓reduceIte, Bool.false_eq_true]
  refine n_ ?_
  refine wpM_regionK [6] rfl fun Q1 hQ1 => ?_
  refine SD_ ?_
  refine cpD_ (on_ok a) Tryz.call85 ?_
  first | refine cg_ (fun hb => on_ok b) Tryz.call85 ?_ | refine cpD_ (on_ok b) Tryz.call85 ?_
  refine cpD_ (is_ok (a != 0 || b != 0)) Tryz.call121 ?_
  refine hQ1 _ _ (S_ ?_);clear hQ1 Q1
  refine e_ Tryz.results145 ?_
  first
  | exact True.intro
  | simp only [two, *, ↓reduceIte, Bool.false_eq_true]
def MM.get (m : MM) (a : AD) : Int := if a.kind == 1 then m.i.getD a.at'.toNat 0 else if a.kind == 2 then m.o.getD a.at'.toNat 0 else m.v.getD a.at'.toNat 0
structure MM.Six (m : MM) : Prop where
  i : m.i.length = 6
  o : m.o.length = 6
  v : m.v.length = 6
mutual
def Ex.of (m : MM) : Ex → Int
  | .mk k n a l => if k == 1 then n else if k == 2 then m.get a else if k == 10 then numIs (!((Ex.ofL m l).getD 0 0 != 0)) else two k ((Ex.ofL m l).getD 0 0) ((Ex.ofL m l).getD 1 0)
def Ex.ofL (m : MM) : List Ex → List Int
  | [] => []
  | e :: l => e.of m :: Ex.ofL m l
end
theorem Ex.ofL_map (m : MM) (l : List Ex) : Ex.ofL m l = l.map (Ex.of m) := by
  induction l with
  | nil => rfl
  | cons e l ih => simp [Ex.ofL, ih]
theorem Ex.ofL_get (m : MM) (l : List Ex) (k : Nat) (h : k < l.length) : (Ex.ofL m l).getD k 0 = (l.getD k default).of m := by simp [Ex.ofL_map, List.getD, h]
theorem Ex.of_eq (m : MM) (e : Ex) : e.of m = if e.kind == 1 then e.n else if e.kind == 2 then m.get e.a else if e.kind == 10 then numIs (!((Ex.ofL m e.kids).getD 0 0 != 0)) else two e.kind ((Ex.ofL m e.kids).getD 0 0) ((Ex.ofL m e.kids).getD 1 0) := by
  cases e; rfl
theorem form_inv {d : Nat} {e : Ex} (h : formD (d + 1) e = true) : kidsN e.kind = (e.kids.length : Int) ∧ (e.kind = 2 → e.a.ok = true) ∧ (∀ i, i < e.kids.length → formD d (e.kids.getD i default) = true) := by
  simp only [formD] at h
  split at h
  · cases h
  · rename_i h1
    split at h
    · cases h
    · split at h
      · cases h
      · rename_i h2 h3
        refine ⟨by simpa using h1, fun hk => ?_, fun i hi => ?_⟩
        · simp only [Bool.or_eq_true, Bool.and_eq_true, not_or, not_and, beq_iff_eq, bne_iff_ne] at h3
          have := h3.1 hk; simpa using this
        · rw [List.all_eq_true] at h
          refine h _ ?_
          rw [List.getD_eq_getElem?_getD, List.getElem?_eq_getElem hi]; exact List.getElem_mem hi
theorem kidsN_two {k : Int} (h1 : (k == 1) = false) (h2 : (k == 2) = false) (h3 : (k == 10) = false) (h : 0 ≤ kidsN k) : kidsN k = 2 := by
  simp only [kidsN, h1, h2, h3, Bool.or_false, Bool.false_eq_true, if_false] at h ⊢
  split
  · rfl
  · rename_i hh; rw [if_neg hh] at h; omega
end Go.Proofs.YtnmfmeehmieifaaGreat
namespace Go.Proofs.YtnmfmeehmieifaaGreat
open Go Sg
set_option linter.unusedSectionVars false
variable [Glob]
set_option maxRecDepth 100000
set_option linter.unusedSimpArgs false
set_option linter.unusedVariables false
set_option maxHeartbeats 4000000
def bls (l : List Bool) : List PV := l.map PV.bool
@[go_sem] theorem rowsI_flat (l : List Int) : (rowsI l).flatten = ints l := by
  induction l with
  | nil => rfl
  | cons x l ih => simp only [rowsI, ints, List.map_cons, List.flatten_cons] at ih ⊢; rw [ih]; rfl
theorem ints_nil : ([] : List PV) = ints [] := rfl
theorem rowsOf_ints {f : Nat → Option AObj} {id : Nat} {T : TypeId} {l : List Int} (h : f id = some (.cells T (ints l))) : RowsOf Tryz.prog f 3 id 0 l.length (rowsI l) := by
  refine ⟨by rw [cellsOf3]; omega, by simp [rowsI], ?_, T, _, h, ?_, ?_⟩
  · intro c hc
    simp only [rowsI, List.mem_map] at hc
    obtain ⟨x, _, rfl⟩ := hc
    rw [cellsOf3]; exact ⟨rfl, rfl⟩
  · rw [cellsOf3]; simp [ints]
  · rw [cellsOf3, rowsI_flat]; simp [ints, List.take_of_length_le]
@[go_sem] theorem ints_nil' : ints [] = [] := rfl
def ocs (x y z : Nat) : List PV := [.sl 3 x 0 6, .sl 3 y 0 6, .sl 3 z 0 6]
@[go_sem] theorem ocs_eq (x y z : Nat) : ocs x y z = [.sl 3 x 0 6, .sl 3 y 0 6, .sl 3 z 0 6] := rfl
def MM.ol (m : MM) (x y z : Nat) : List (Nat × AObj) := [(x, .cells 3 (ints m.i)), (y, .cells 3 (ints m.o)), (z, .cells 3 (ints m.v))]
@[go_sem] theorem MM.ol_eq (m : MM) (x y z : Nat) : m.ol x y z = [(x, .cells 3 (ints m.i)), (y, .cells 3 (ints m.o)), (z, .cells 3 (ints m.v))] := rfl
def MM.ou (m : MM) (x y z : Nat) : List (Nat × Option AObj) := [(x, some (.cells 3 (ints m.i))), (y, some (.cells 3 (ints m.o))), (z, some (.cells 3 (ints m.v)))]
@[go_sem] theorem MM.ou_eq (m : MM) (x y z : Nat) : m.ou x y z = [(x, some (.cells 3 (ints m.i))), (y, some (.cells 3 (ints m.o))), (z, some (.cells 3 (ints m.v)))] := rfl
def MM.tb (m : MM) (x y z : Nat) : List (TypeId × Nat × Nat × Nat × List (List PV)) := [(3, x, 0, 6, rowsI m.i), (3, y, 0, 6, rowsI m.o), (3, z, 0, 6, rowsI m.v)]
theorem MM.sub (m : MM) {x y z : Nat} (h1 : x ≠ y) (h2 : x ≠ z) (h3 : y ≠ z) : PV.subL (thOf (m.tb x y z)) (ocs x y z) = m.cs := by
  simp [ocs, MM.cs, PV.subL, PV.sub, thOf, MM.tb, h1, h2, h3]
theorem rowsOf_ints' {f : Nat → Option AObj} {id n : Nat} {T : TypeId} {l : List Int} (h : f id = some (.cells T (ints l))) (hn : l.length = n) : RowsOf Tryz.prog f 3 id 0 n (rowsI l) := by subst hn; exact rowsOf_ints h
theorem MM.tb_ok (m : MM) (hm : m.Six) {f : Nat → Option AObj} {x y z : Nat} (hx : f x = some (.cells 3 (ints m.i))) (hy : f y = some (.cells 3 (ints m.o))) (hz : f z = some (.cells 3 (ints m.v))) : ∀ q ∈ m.tb x y z, RowsOf Tryz.prog f q.1 q.2.1 q.2.2.1 q.2.2.2.1 q.2.2.2.2 := by
  intro q hq
  simp only [MM.tb, List.mem_cons, List.not_mem_nil, or_false] at hq
  rcases hq with rfl | rfl | rfl
  · exact rowsOf_ints' hx hm.i
  · exact rowsOf_ints' hy hm.o
  · exact rowsOf_ints' hz hm.v
theorem MM.frz (m : MM) (hm : m.Six) {f : Nat → Option AObj} {x y z : Nat} (hx : f x = some (.cells 3 (ints m.i))) (hy : f y = some (.cells 3 (ints m.o))) (hz : f z = some (.cells 3 (ints m.v))) : ∀ q ∈ m.tb x y z, q.2.1 ∈ [x, y, z] ∧ RowsOf Tryz.prog f q.1 q.2.1 q.2.2.1 q.2.2.2.1 q.2.2.2.2 := by
  intro q hq
  refine ⟨?_, m.tb_ok hm hx hy hz q hq⟩
  simp only [MM.tb, List.mem_cons, List.not_mem_nil, or_false] at hq
  rcases hq with rfl | rfl | rfl <;> simp
mutual
theorem sub_flatE (θ : TypeId → Nat → Nat → Nat → Option PV) : (e : Ex) → PV.subL θ e.cs = e.cs
  | .mk k n a l => by simp [Ex.cs, PV.subL, PV.sub]
end
theorem sub_rowsB (θ : TypeId → Nat → Nat → Nat → Option PV) (e : TypeId) (r : List (List PV)) : PV.sub θ (.rows e r) = .rows e r := rfl
def MM.put (m : MM) (a : AD) (n : Int) : MM := if a.kind == 2 then { m with o := m.o.set a.at'.toNat (cut n) } else if a.kind == 3 then { m with v := m.v.set a.at'.toNat (cut n) } else m
theorem MM.put_six {m : MM} (hm : m.Six) (a : AD) (n : Int) : (m.put a n).Six := by
  unfold MM.put
  split
  · exact ⟨hm.i, by simp [hm.o], hm.v⟩
  · split
    · exact ⟨hm.i, hm.o, by simp [hm.v]⟩
    · exact hm
theorem range_all (p : Nat → Bool) (i : Nat) : (List.range (i + 1)).all p = ((List.range i).all p && p i) := by
  rw [List.range_succ, List.all_append]; simp
theorem range_no {p : Nat → Bool} {i n : Nat} (h : i < n) (hp : p i = false) : (List.range n).all p = false := by
  rw [List.all_eq_false]
  exact ⟨i, List.mem_range.2 h, by simpa using hp⟩
end Go.Proofs.YtnmfmeehmieifaaGreat
namespace Go.Proofs.YtnmfmeehmieifaaGreat
open Go Sg
set_option linter.unusedSectionVars false
variable [Glob]
set_option maxRecDepth 100000
set_option linter.unusedSimpArgs false
set_option linter.unusedVariables false
set_option maxHeartbeats 4000000
end Go.Proofs.YtnmfmeehmieifaaGreat
namespace Go.Proofs.YtnmfmeehmieifaaGreat
open Go Sg
set_option linter.unusedSectionVars false
variable [Glob]
set_option maxRecDepth 100000
set_option linter.unusedSimpArgs false
set_option linter.unusedVariables false
set_option maxHeartbeats 4000000
def exc (l : List Ex) : List PV := (Ex.csL l).flatten
@[go_sem] theorem exc_len (l : List Ex) : (exc l).length = l.length * 5 := by
  induction l with
  | nil => rfl
  | cons e l ih => simp only [exc, Ex.csL, List.flatten_cons, List.length_append, Ex.cs_eq, List.length_cons, List.length_nil] at ih ⊢; omega
theorem exc_app (l : List Ex) (e : Ex) : exc l ++ e.cs = exc (l ++ [e]) := by
  simp [exc, Ex.csL_map]
theorem exc_one (e : Ex) : e.cs = exc [e] := by simp [exc, Ex.csL]
theorem idsL_app (p : Nat → Prop) (a b : List PV) : PV.idsL p (a ++ b) = (PV.idsL p a ∧ PV.idsL p b) := by
  induction a with
  | nil => simp [PV.idsL]
  | cons x a ih => simp only [List.cons_append, PV.idsL, ih, and_assoc]
theorem renL_app (p : Nat → Nat) (a b : List PV) : PV.renL p (a ++ b) = PV.renL p a ++ PV.renL p b := by
  induction a with
  | nil => simp [PV.renL]
  | cons x a ih => simp only [List.cons_append, PV.renL, ih]
@[go_sem] theorem exc_ren (p : Nat → Nat) (l : List Ex) : PV.renL p (exc l) = exc l := by
  induction l with
  | nil => simp [exc, Ex.csL, PV.renL]
  | cons e l ih =>
    simp only [exc, Ex.csL, List.flatten_cons] at ih ⊢; rw [renL_app, ih]
    congr 1; rw [Ex.cs_eq]; simp [PV.renL, PV.ren]
theorem rowsOf_exc {f : Nat → Option AObj} {id : Nat} {T : TypeId} {l : List Ex} (h : f id = some (.cells T (exc l))) : RowsOf Tryz.prog f 77 id 0 l.length (Ex.csL l) := by
  refine ⟨by rw [cellsOf77]; omega, by rw [Ex.csL_len], ?_, T, _, h, ?_, ?_⟩
  · intro c hc
    rw [Ex.csL_map, List.mem_map] at hc
    obtain ⟨x, _, rfl⟩ := hc
    rw [cellsOf77, Ex.cs_eq]; exact ⟨rfl, rfl⟩
  · rw [cellsOf77, exc_len]; omega
  · rw [cellsOf77, List.drop_zero, List.take_of_length_le (by rw [exc_len]; omega)]; rfl
theorem Ex.szL_app (l : List Ex) (e : Ex) : Ex.szL (l ++ [e]) = Ex.szL l + e.sz := by
  induction l with
  | nil => simp [Ex.szL]
  | cons x l ih => simp only [List.cons_append, Ex.szL, ih]; omega
@[go_sem] theorem Ex.mk_kind (k n : Int) (a : AD) (l : List Ex) : (Ex.mk k n a l).kind = k := rfl
@[go_sem] theorem Ex.mk_n (k n : Int) (a : AD) (l : List Ex) : (Ex.mk k n a l).n = n := rfl
@[go_sem] theorem Ex.mk_a (k n : Int) (a : AD) (l : List Ex) : (Ex.mk k n a l).a = a := rfl
@[go_sem] theorem Ex.mk_kids (k n : Int) (a : AD) (l : List Ex) : (Ex.mk k n a l).kids = l := rfl
@[go_sem] theorem Ex.csL_nil : Ex.csL [] = [] := rfl
end Go.Proofs.YtnmfmeehmieifaaGreat
namespace Go.Proofs.YtnmfmeehmieifaaGreat
open Go Sg
set_option linter.unusedSectionVars false
variable [Glob]
set_option maxRecDepth 100000
set_option linter.unusedSimpArgs false
set_option linter.unusedVariables false
set_option maxHeartbeats 4000000
theorem l3Copy_ok : ∀ (N : Nat) (e : Ex), e.sz ≤ N → e.sz ≤ 1099511627776 → PureF Tryz.prog 81 [.agg e.cs] [.agg e.cs] := by
  intro N
  induction N with
  | zero => intro e h; have := e.sz_pos; omega
  | succ N ih =>
    intro e hN hs
    have hlen := e.kids_len
    refine pureF_of Tryz.func81 rfl Tryz.ntmps81 (by simp) T_ ?_
    intro f0 B Q hQ
    refine g_ [1,2] ?_
    refine g_ [1,2,3] ?_
    refine g_ [1,2,3,4] ?_
    refine n_ ?_
    refine wpM_loopS (fun s r s' => (r = e.kids.length ∧ s' = s) ∨ ∃ (i0 M0 y : Nat), 0 < i0 ∧ i0 + r = e.kids.length ∧ s.M ≤ y ∧ y < M0 ∧ s' = { s with env := setE 4 (.int .i64 (i0 : Nat)) s.env, l := (y, .cells 77 (exc (e.kids.take i0))) :: setl (B + 2) (.cells 77 [.int .i64 e.kind, .int .i64 e.n, .int .i64 e.a.kind, .int .i64 e.a.at', .sl 77 y 0 i0]) s.l, M := M0 }) (e.kids.length) ?_ ?_
    ·
      refine .of' _ _ (.inl ⟨rfl, rfl⟩) ?_ ?_ ?_ <;> exact L_
    rintro r s' (⟨rfl, rfl⟩ | ⟨i0, M0, y, hi0, hir, hy, hyM, rfl⟩)
    ·
      try refine S_ ?_
      refine g_ [1,2,3,4,16] ?_
      refine c_ (fun hc0 => ?_) fun hc0 => ?_
      ·
        have hks := Ex.kid_sz (e := e) (k := 0) (by omega)
        refine n_ ?_
        refine dr_ mixed [1,2,3,4] 2 2 [B + 2, B, B + 3, B + 4] [⟨[3],[],[],[],false⟩,⟨[19],[0],[],[],false⟩,⟨[1],[],[],[],false⟩,⟨[21],[1],[],[],false⟩,⟨[4],[],[],[],false⟩,⟨[22,23],[],[],[],false⟩,⟨[24],[],[],[],false⟩,⟨[25],[],[],[],true⟩,⟨[26],[],[],[2],false⟩,⟨[20,27],[2],[],[3],false⟩,⟨[3],[],[],[],false⟩,⟨[28,29],[0],[0],[],false⟩] [0,1,2,3,4,5,6,7,8,9,10,11] [[],[0],[],[2],[],[2,3,4],[2,3,4,5],[2,3,4,5,6],[2,3,4,5,6,7],[0,1,2,3,4,5,6,7,8],[0,1,2,3,4,5,6,7,8,9],[0,1,2,3,4,5,6,7,8,9,10]] 4 ?_
        intro O A K hO hA hK;simp only [atL_cons,atL_nil,Nat.reduceAdd,Nat.zero_add] at hO hA
        simp -implicitDefEqProofs (disch := omega) only [go_sem, exc_len, hO, hA]
        refine loud_p (ih (e.kids.getD 0 default) (by omega) (by omega)) Tryz.call81 rfl rfl (by first | rfl | (simp -implicitDefEqProofs (disch := omega) only [go_sem] <;> rfl)) rfl ?_
        simp -implicitDefEqProofs (disch := omega) only [go_sem, exc_len, hO, hA]
        refine hK _ (S_ ?_);clear hK K hO hA O A
        refine g_ [1,2,3,4] ?_
        have e1 : [PV.int .i64 (e.kids.getD 0 default).kind, .int .i64 (e.kids.getD 0 default).n, .int .i64 (e.kids.getD 0 default).a.kind, .int .i64 (e.kids.getD 0 default).a.at', .rows 77 (Ex.csL (e.kids.getD 0 default).kids)] = exc (e.kids.take 1) := by
          have this0 : e.kids.getD 0 default = e.kids[0] := by simp [List.getD, show 0 < e.kids.length by omega]
          rw [List.take_succ_eq_append_getElem (by omega), List.take_zero, List.nil_append, ← exc_one, ← this0, Ex.cs_eq]
        rw [e1]
        refine .of' _ _ ⟨e.kids.length - 1, by omega, .inr ⟨1, _, B + 4, by omega, by omega, ?_, ?_, rfl⟩⟩ ?_ ?_ ?_
        · first | omega | (simp -implicitDefEqProofs (disch := omega) only [go_sem]; done) | (simp -implicitDefEqProofs (disch := omega) only [go_sem]; omega)
        · first | omega | (simp -implicitDefEqProofs (disch := omega) only [go_sem]; done) | (simp -implicitDefEqProofs (disch := omega) only [go_sem]; omega)
        all_goals exact L_
      refine n_ ?_
      have hk0 : e.kids = [] := List.eq_nil_of_length_eq_zero (by omega)
      refine wpM_le [(2, .ptr (B + 1) 0), (3, .ptr (B + 2) 0)] [(B + 2, .cells 77 e.cs), (B + 1, .cells 77 [.int .i64 0, .int .i64 0, .int .i64 0, .int .i64 0, .emp])] (by simp -implicitDefEqProofs (disch := omega) only [go_sem, hk0]) (by simp -implicitDefEqProofs (disch := omega) only [go_sem, hk0]) T_ ?_
      refine g_ [2] ?_
      refine e_ Tryz.results81 ?_
      first
      | exact True.intro
      | rfl
    dsimp only at hy
    try refine S_ ?_
    refine g_ [1,2,3,4,16] ?_
    refine c_ (fun hc0 => ?_) fun hc0 => ?_
    ·
      have hks := Ex.kid_sz (e := e) (k := i0) (by omega)
      have htl : (e.kids.take i0).length = i0 := by simp; omega
      refine n_ ?_
      refine dr_ mixed [1,2,3,4] 2 3 [B + 2, B, y, M0, M0 + 1] [⟨[3],[],[],[],false⟩,⟨[19],[0],[],[],false⟩,⟨[1],[],[],[],false⟩,⟨[21],[1],[],[],false⟩,⟨[4],[],[],[],false⟩,⟨[22,23],[],[],[],false⟩,⟨[24],[],[],[],false⟩,⟨[25],[],[],[],true⟩,⟨[26],[],[],[3],false⟩,⟨[20,27],[2,3],[2],[4],false⟩,⟨[3],[],[],[],false⟩,⟨[28,29],[0],[0],[],false⟩] [0,1,2,3,4,5,6,7,8,9,10,11] [[],[0],[],[2],[],[2,3,4],[2,3,4,5],[2,3,4,5,6],[2,3,4,5,6,7],[0,1,2,3,4,5,6,7,8],[0,1,2,3,4,5,6,7,8,9],[0,1,2,3,4,5,6,7,8,9,10]] 5 (htbl := by simp; omega) (hnm := by simp) ?_
      intro O A K hO hA hK;simp only [atL_cons,atL_nil,Nat.reduceAdd,Nat.zero_add] at hO hA
      simp -implicitDefEqProofs (disch := omega) only [go_sem, htl, hO, hA]
      refine loud_p (ih (e.kids.getD i0 default) (by omega) (by omega)) Tryz.call81 rfl rfl (by first | rfl | (simp -implicitDefEqProofs (disch := omega) only [go_sem] <;> rfl)) rfl ?_
      simp -implicitDefEqProofs (disch := omega) only [go_sem, htl, hO, hA]
      refine hK _ (S_ ?_);clear hK K hO hA O A
      refine g_ [1,2,3,4] ?_
      have e1 : exc (e.kids.take i0) ++ [.int .i64 (e.kids.getD i0 default).kind, .int .i64 (e.kids.getD i0 default).n, .int .i64 (e.kids.getD i0 default).a.kind, .int .i64 (e.kids.getD i0 default).a.at', .rows 77 (Ex.csL (e.kids.getD i0 default).kids)] = exc (e.kids.take (i0 + 1)) := by
        rw [List.take_succ_eq_append_getElem (by omega), ← exc_app, Ex.cs_eq]
        have : e.kids.getD i0 default = e.kids[i0] := by simp [List.getD, show i0 < e.kids.length by omega]
        rw [this]
      rw [e1]
      refine .of' _ _ ⟨r - 1, by omega, .inr ⟨i0 + 1, _, M0 + 1, by omega, by omega, ?_, ?_, rfl⟩⟩ ?_ ?_ ?_
      · first | omega | (simp -implicitDefEqProofs (disch := omega) only [go_sem]; done) | (simp -implicitDefEqProofs (disch := omega) only [go_sem]; omega)
      · first | omega | (simp -implicitDefEqProofs (disch := omega) only [go_sem]; done) | (simp -implicitDefEqProofs (disch := omega) only [go_sem]; omega)
      all_goals exact L_
    refine n_ ?_
    have hie : i0 = e.kids.length := by omega
    have htl : e.kids.take i0 = e.kids := by rw [hie, List.take_of_length_le (Nat.le_refl _)]
    rw [htl]
    refine wpM_frz [y] [(77, y, 0, i0, Ex.csL e.kids)] (by intro q hq; simp at hq; subst hq; simp -implicitDefEqProofs (disch := omega) only [go_sem]) (by intro q hq; simp only [List.mem_cons, List.not_mem_nil, or_false] at hq; subst hq; rw [hie]; exact ⟨by simp, rowsOf_exc (T := 77) T_⟩) ?_
    simp -implicitDefEqProofs (disch := omega) only [go_sem]
    refine g_ [2] ?_
    refine e_ Tryz.results81 ?_
    first
    | exact True.intro
    | rfl
end Go.Proofs.YtnmfmeehmieifaaGreat
namespace Go.Proofs.YtnmfmeehmieifaaGreat
open Go Sg
set_option linter.unusedSectionVars false
variable [Glob]
set_option maxRecDepth 100000
set_option linter.unusedSimpArgs false
set_option linter.unusedVariables false
set_option maxHeartbeats 4000000
inductive Sm where
  | mk (kind : Int) (to' : AD) (e : Ex) (th el : List Sm)
  deriving Inhabited
def Sm.kind : Sm → Int | .mk k _ _ _ _ => k
def Sm.to' : Sm → AD | .mk _ a _ _ _ => a
def Sm.e : Sm → Ex | .mk _ _ e _ _ => e
def Sm.th : Sm → List Sm | .mk _ _ _ l _ => l
def Sm.el : Sm → List Sm | .mk _ _ _ _ l => l
mutual
def Sm.cs : Sm → List PV
  | .mk k a e th el => [.int .i64 k, .int .i64 a.kind, .int .i64 a.at', .int .i64 e.kind, .int .i64 e.n, .int .i64 e.a.kind, .int .i64 e.a.at', .rows 77 (Ex.csL e.kids), .rows 79 (Sm.csL th), .rows 79 (Sm.csL el)]
def Sm.csL : List Sm → List (List PV)
  | [] => []
  | s :: l => s.cs :: Sm.csL l
end
mutual
def Sm.sz : Sm → Nat | .mk _ _ e th el => 1 + e.sz + Sm.szL th + Sm.szL el
def Sm.szL : List Sm → Nat | [] => 0 | s :: l => s.sz + Sm.szL l
end
@[go_sem] theorem Sm.cs_eq (s : Sm) : s.cs = [.int .i64 s.kind, .int .i64 s.to'.kind, .int .i64 s.to'.at', .int .i64 s.e.kind, .int .i64 s.e.n, .int .i64 s.e.a.kind, .int .i64 s.e.a.at', .rows 77 (Ex.csL s.e.kids), .rows 79 (Sm.csL s.th), .rows 79 (Sm.csL s.el)] := by cases s; simp only [Sm.cs, Sm.kind, Sm.to', Sm.e, Sm.th, Sm.el]
theorem Sm.csL_map (l : List Sm) : Sm.csL l = l.map Sm.cs := by
  induction l with
  | nil => rfl
  | cons e l ih => simp [Sm.csL, ih]
@[go_sem] theorem Sm.csL_len (l : List Sm) : (Sm.csL l).length = l.length := by simp [Sm.csL_map]
@[go_sem] theorem Sm.csL_get (l : List Sm) (k : Nat) (h : k < l.length) : (Sm.csL l).getD k [] = (l.getD k default).cs := by simp [Sm.csL_map, List.getD, h]
theorem Sm.sz_eq (s : Sm) : s.sz = 1 + s.e.sz + Sm.szL s.th + Sm.szL s.el := by cases s; simp only [Sm.sz, Sm.e, Sm.th, Sm.el]
theorem Sm.len_szL (l : List Sm) : l.length ≤ Sm.szL l := by
  induction l with
  | nil => simp
  | cons s l ih => simp only [List.length_cons, Sm.szL]; have := s.sz_eq; omega
theorem Sm.get_szL (l : List Sm) (k : Nat) (h : k < l.length) : (l.getD k default).sz ≤ Sm.szL l := by
  induction l generalizing k with
  | nil => simp at h
  | cons e l ih =>
    simp only [Sm.szL]
    cases k with
    | zero => simp
    | succ k =>
      have := ih k (by simpa using h)
      simp only [List.getD_cons_succ]; omega
theorem Sm.get_in {l : List Sm} {k : Nat} (h : k < l.length) : (l.getD k default).e.sz + Sm.szL (l.getD k default).th + Sm.szL (l.getD k default).el < Sm.szL l := by
  have h1 := Sm.get_szL l k h
  have h2 := (l.getD k default).sz_eq
  omega
def manyS : Nat → List Sm → Nat
  | 0, l => l.length
  | d + 1, l => l.length + (l.map fun s => manyS d s.th + manyS d s.el).sum
theorem manyS_le (d : Nat) : ∀ l : List Sm, manyS d l ≤ Sm.szL l := by
  induction d with
  | zero => intro l; exact Sm.len_szL l
  | succ d ih =>
    intro l
    simp only [manyS]
    induction l with
    | nil => simp
    | cons s l ihl => simp only [List.length_cons, List.map_cons, List.sum_cons, Sm.szL]; have h1 := ih s.th; have h2 := ih s.el; have := s.sz_eq; omega
theorem l4Many_ok (d : Nat) : ∀ (l : List Sm) (deep : Int), deep.toNat = d → deep ≤ 1000000 → Sm.szL l ≤ 1099511627776 → PureF Tryz.prog 79 [.rows 79 (Sm.csL l), .int .i64 deep] [.int .i64 (manyS d l : Nat)] := by
  induction d with
  | zero =>
    intro l deep hd hdl hs
    have hlen := Sm.len_szL l
    refine pureF_of Tryz.func79 rfl Tryz.ntmps79 (by simp) T_ ?_
    intro f0 B Q hQ
    have hlt : decide (deep > 0) = false := by simp; omega
    refine g_ [0,1] ?_
    refine g_ [0,1,5] ?_
    refine g_ [0,1,5,6] ?_
    refine n_ ?_
    refine wpM_loopS (fun s n s' => s' = s) (0) ?_ ?_
    ·
      exact .here rfl
    rintro n s' rfl
    try refine S_ ?_
    refine gD_ [0,1,5,6,16] ?_
    refine c_ (fun hc0 => ?_) fun hc0 => ?_
    · simp [hlt] at hc0
    refine g_ [4] ?_
    refine e_ Tryz.results79 ?_
    first
    | exact True.intro
    | rfl
  | succ d ih =>
    intro l deep hd hdl hs
    have hlen := Sm.len_szL l
    refine pureF_of Tryz.func79 rfl Tryz.ntmps79 (by simp) T_ ?_
    intro f0 B Q hQ
    have hlt : decide (deep > 0) = true := by simp; omega
    have hmx := manyS_le (d + 1) l
    refine g_ [0,1] ?_
    refine g_ [0,1,5] ?_
    refine g_ [0,1,5,6] ?_
    refine n_ ?_
    refine wpM_loopS (fun s n s' => ∃ i M : Nat, i + n = l.length ∧ s.M ≤ M ∧ s' = { s with env := setE 6 (.int .i64 (i : Nat)) (setE 5 (.int .i64 ((l.length + ((l.take i).map fun s => manyS d s.th + manyS d s.el).sum : Nat) : Int)) s.env), M := M }) (l.length) ?_ ?_
    ·
      refine .of ⟨0, _, by omega, Nat.le_refl _, rfl⟩ ?_ ?_ ?_ rfl rfl (Nat.le_refl _) rfl <;> exact L_
    rintro n s' ⟨i, M, hi, hM, rfl⟩
    try refine S_ ?_
    refine n_ ?_
    refine wpM_regionK [0,1,5,6,16] rfl fun Q1 hQ1 => ?_
    simp (contextual := true) (maxSteps := 1000000) (implicitDefEqProofs := false) (disch := first | omega | (simp only [decide_eq_true_eq, decide_eq_false_iff_not, Bool.and_eq_true, Bool.or_eq_false_iff, Bool.not_eq_true'] at *; omega)) only [go_sem, hlt, Bool.and_true]
    refine hQ1 _ _ (S_ ?_);clear hQ1 Q1
    refine c_ (fun hc0 => ?_) fun hc0 => ?_
    ·
      have hi2 : i < l.length := by omega
      have hin := Sm.get_in hi2
      have hsum := take_sum (fun s : Sm => manyS d s.th + manyS d s.el) l i hi2
      have hle := take_sum_le (fun s : Sm => manyS d s.th + manyS d s.el) l (i + 1)
      simp only [manyS] at hmx
      rw [hsum] at hle
      refine n_ ?_
      refine dr_ mixed [0,1,5,6] 0 0 [] [⟨[5],[],[],[],false⟩,⟨[0],[],[],[],false⟩,⟨[6],[],[],[],false⟩,⟨[20,21],[],[],[],false⟩,⟨[22],[],[],[],false⟩,⟨[23],[],[],[],false⟩,⟨[1],[],[],[],false⟩,⟨[25],[],[],[],false⟩,⟨[24,26],[],[],[],true⟩,⟨[19,27],[],[],[],false⟩,⟨[0],[],[],[],false⟩,⟨[6],[],[],[],false⟩,⟨[29,30],[],[],[],false⟩,⟨[31],[],[],[],false⟩,⟨[32],[],[],[],false⟩,⟨[1],[],[],[],false⟩,⟨[34],[],[],[],false⟩,⟨[33,35],[],[],[],true⟩,⟨[28,36],[],[],[],false⟩,⟨[37],[],[],[],false⟩] [0,1,2,3,4,5,6,7,10,11,12,13,14,15,16,8,9,17,18,19] [[],[],[],[1,2],[1,2,3],[1,2,3,4],[],[6],[1,2,3,4,5,6,7],[0,1,2,3,4,5,6,7,8],[],[],[10,11],[10,11,12],[10,11,12,13],[],[15],[1,2,3,4,5,6,7,8,10,11,12,13,14,15,16],[0,1,2,3,4,5,6,7,8,9,10,11,12,13,14,15,16,17],[0,1,2,3,4,5,6,7,8,9,10,11,12,13,14,15,16,17,18]] 0 ?_
      intro O A K hO hA hK;simp only [atL_cons,atL_nil,Nat.reduceAdd,Nat.zero_add] at hO hA
      refine SO_ ?_
      refine lp_ (ih (l.getD i default).th (deep - 1) (by omega) (by omega) (by omega)) Tryz.call79 ?_
      refine lp_ (ih (l.getD i default).el (deep - 1) (by omega) (by omega) (by omega)) Tryz.call79 ?_
      refine hK _ (S_ ?_);clear hK K hO hA O A
      refine g_ [0,1,5,6] ?_
      refine .of ⟨n - 1, by omega, i + 1, M, by omega, hM, rfl⟩ ?_ ?_ ?_ rfl rfl (Nat.le_refl _) rfl
      · simp -implicitDefEqProofs (disch := omega) only [go_sem, PV.int.injEq]
        rw [hsum]
        constructor <;> omega
      all_goals exact L_
    refine g_ [4] ?_
    refine e_ Tryz.results79 ?_
    first
    | exact True.intro
    | have hie : i = l.length := by omega
      simp only [manyS]
      rw [hie, List.take_of_length_le (Nat.le_refl _)]
def Sm.plain (s : Sm) : Bool := if s.kind == 1 then s.to'.ok && s.to'.kind != 1 && (s.th.length : Int) == 0 && (s.el.length : Int) == 0
  else if s.kind == 2 then s.to'.kind == 0 && s.to'.at' == 0
  else if s.kind == 3 then s.to'.kind == 0 && s.to'.at' == 0 && (s.el.length : Int) == 0 else false
def formS : Nat → List Sm → Bool
  | 0, l => l.length == 0
  | d + 1, l => l.all fun s => s.plain && s.e.ok && formS d s.th && formS d s.el
theorem l4Form_ok (d : Nat) : ∀ (l : List Sm) (deep : Int), deep.toNat = d → deep ≤ 1000000 → Sm.szL l ≤ 1099511627776 → PureF Tryz.prog 80 [.rows 79 (Sm.csL l), .int .i64 deep] [.bool (formS d l)] := by
  induction d with
  | zero =>
    intro l deep hd hdl hs
    have hlen := Sm.len_szL l
    refine pureF_of Tryz.func80 rfl Tryz.ntmps80 (by simp) T_ ?_
    intro f0 B Q hQ
    have hlt : decide (deep < 1) = true := by simp; omega
    refine g_ [0,1] ?_
    refine n_ ?_
    refine wpM_regionK [0,1,14] rfl fun Q1 hQ1 => ?_
    simp (contextual := true) (maxSteps := 1000000) (implicitDefEqProofs := false) (disch := first | omega | (simp only [decide_eq_true_eq, decide_eq_false_iff_not, Bool.and_eq_true, Bool.or_eq_false_iff, Bool.not_eq_true'] at *; omega)) only [go_sem, hlt, Bool.and_true]
    refine hQ1 _ _ (S_ ?_);clear hQ1 Q1
    refine c_ (fun hc0 => ?_) fun hc0 => ?_
    ·
      refine g_ [4] ?_
      refine e_ Tryz.results80 ?_
      first
      | exact True.intro
      | first | rfl | (simp only [formS]; symm; rw [beq_eq_false_iff_ne]; omega)
    have hl0 : l = [] := by cases l with
      | nil => rfl
      | cons x y => simp at hc0
    subst hl0
    refine g_ [0,1,5] ?_
    refine n_ ?_
    refine wpM_loopS (fun s n s' => s' = s) (0) ?_ ?_
    ·
      exact .here rfl
    rintro n s' rfl
    try refine S_ ?_
    refine g_ [0,1,5,18] ?_
    refine c_ (fun hc1 => ?_) fun hc1 => ?_
    · simp at hc1
    refine g_ [4] ?_
    refine e_ Tryz.results80 ?_
    first
    | exact True.intro
    | first | rfl | (simp only [formS]; symm; rw [beq_eq_false_iff_ne]; omega)
  | succ d ih =>
    intro l deep hd hdl hs
    have hlen := Sm.len_szL l
    refine pureF_of Tryz.func80 rfl Tryz.ntmps80 (by simp) T_ ?_
    intro f0 B Q hQ
    have hlt : decide (deep < 1) = false := by simp; omega
    refine g_ [0,1] ?_
    refine n_ ?_
    refine wpM_regionK [0,1,14] rfl fun Q1 hQ1 => ?_
    simp (contextual := true) (maxSteps := 1000000) (implicitDefEqProofs := false) (disch := first | omega | (simp only [decide_eq_true_eq, decide_eq_false_iff_not, Bool.and_eq_true, Bool.or_eq_false_iff, Bool.not_eq_true'] at *; omega)) only [go_sem, hlt, Bool.and_false]
    refine hQ1 _ _ (S_ ?_);clear hQ1 Q1
    refine c1_ ?_
    refine g_ [0,1,5] ?_
    refine n_ ?_
    refine wpM_loopS (fun s n s' => ∃ i M : Nat, i + n = l.length ∧ s.M ≤ M ∧ (l.take i).all (fun s => s.plain && s.e.ok && formS d s.th && formS d s.el) = true ∧ s' = { s with env := setE 5 (.int .i64 i) s.env, M := M }) (l.length) ?_ ?_
    ·
      refine .of ⟨0, _, by omega, Nat.le_refl _, by simp, rfl⟩ ?_ ?_ ?_ rfl rfl (Nat.le_refl _) rfl <;> exact L_
    rintro n s' ⟨i, M, hi, hM, hall, rfl⟩
    try refine S_ ?_
    refine g_ [0,1,5,18] ?_
    refine c_ (fun hc1 => ?_) fun hc1 => ?_
    ·
      have hi2 : i < l.length := by omega
      have hin := Sm.get_in hi2
      refine g_ [0,1,5,6] ?_
      refine g_ [0,1,5,6,7] ?_
      refine g_ [0,1,5,6,7,26] ?_
      refine g_ [0,1,5,6,7,26,27] ?_
      refine c_ (fun hc2 => ?_) fun hc2 => ?_
      ·
        refine wpM_regionK [0,1,5,6,7] rfl fun Q1 hQ1 => ?_
        refine SD_ ?_
        refine cpD_ (addrOk_ok (l.getD i default).to') Tryz.call102 ?_
        refine hQ1 _ _ (S_ ?_);clear hQ1 Q1
        refine n_ ?_
        refine wpM_regionK [0,1,5,91] rfl fun Q1 hQ1 => ?_
        refine SD_ ?_
        first | refine cg_ (fun hb => exprOk_ok (l.getD i default).e (by omega)) Tryz.call101 ?_ | refine cpD_ (exprOk_ok (l.getD i default).e (by omega)) Tryz.call101 ?_
        first | refine cg_ (fun hb => ih (l.getD i default).th (deep - 1) (by omega) (by omega) (by omega)) Tryz.call80 ?_ | refine cpD_ (ih (l.getD i default).th (deep - 1) (by omega) (by omega) (by omega)) Tryz.call80 ?_
        first | refine cg_ (fun hb => ih (l.getD i default).el (deep - 1) (by omega) (by omega) (by omega)) Tryz.call80 ?_ | refine cpD_ (ih (l.getD i default).el (deep - 1) (by omega) (by omega) (by omega)) Tryz.call80 ?_
        refine hQ1 _ _ (S_ ?_);clear hQ1 Q1
        refine c_ (fun hc3 => ?_) fun hc3 => ?_
        ·
          refine g_ [4] ?_
          refine e_ Tryz.results80 ?_
          first
          | exact True.intro
          | first
            | (simp only [formS]; exact (all_yes hi hc1 hall).symm)
            | (simp only [formS]; refine (all_no hi2 ?_).symm
               try simp only [Bool.not_and, Bool.or_assoc] at hc3
               try simp only [Bool.not_and, Bool.or_assoc] at hc5
               try simp only [Bool.not_and, Bool.or_assoc] at hc7
               simp only [Sm.plain, *, ↓reduceIte, Bool.false_eq_true, Bool.not_and, Bool.or_assoc])
        refine g_ [0,1,5] ?_
        refine .of ⟨n - 1, by omega, i + 1, M + 1, by omega, Nat.le_succ_of_le hM, ?_, rfl⟩ ?_ ?_ ?_ rfl rfl (Nat.le_refl _) rfl
        · rw [take_all _ _ _ hi2, hall, Bool.true_and]
          try simp only [Bool.or_eq_false_iff, Bool.not_eq_false', Bool.and_eq_true] at hc3
          try simp only [Bool.or_eq_false_iff, Bool.not_eq_false', Bool.and_eq_true] at hc5
          try simp only [Bool.or_eq_false_iff, Bool.not_eq_false', Bool.and_eq_true] at hc7
          simp only [Sm.plain, *, ↓reduceIte, Bool.false_eq_true, Bool.and_self]
        all_goals exact L_
      refine g_ [0,1,5,6,7,26,50] ?_
      refine c_ (fun hc4 => ?_) fun hc4 => ?_
      ·
        refine g_ [0,1,5,6,7] ?_
        refine n_ ?_
        refine wpM_regionK [0,1,5,91] rfl fun Q1 hQ1 => ?_
        refine SD_ ?_
        first | refine cg_ (fun hb => exprOk_ok (l.getD i default).e (by omega)) Tryz.call101 ?_ | refine cpD_ (exprOk_ok (l.getD i default).e (by omega)) Tryz.call101 ?_
        first | refine cg_ (fun hb => ih (l.getD i default).th (deep - 1) (by omega) (by omega) (by omega)) Tryz.call80 ?_ | refine cpD_ (ih (l.getD i default).th (deep - 1) (by omega) (by omega) (by omega)) Tryz.call80 ?_
        first | refine cg_ (fun hb => ih (l.getD i default).el (deep - 1) (by omega) (by omega) (by omega)) Tryz.call80 ?_ | refine cpD_ (ih (l.getD i default).el (deep - 1) (by omega) (by omega) (by omega)) Tryz.call80 ?_
        refine hQ1 _ _ (S_ ?_);clear hQ1 Q1
        refine c_ (fun hc5 => ?_) fun hc5 => ?_
        ·
          refine g_ [4] ?_
          refine e_ Tryz.results80 ?_
          first
          | exact True.intro
          | first
            | (simp only [formS]; exact (all_yes hi hc1 hall).symm)
            | (simp only [formS]; refine (all_no hi2 ?_).symm
               try simp only [Bool.not_and, Bool.or_assoc] at hc3
               try simp only [Bool.not_and, Bool.or_assoc] at hc5
               try simp only [Bool.not_and, Bool.or_assoc] at hc7
               simp only [Sm.plain, *, ↓reduceIte, Bool.false_eq_true, Bool.not_and, Bool.or_assoc])
        refine g_ [0,1,5] ?_
        refine .of ⟨n - 1, by omega, i + 1, M + 1, by omega, Nat.le_succ_of_le hM, ?_, rfl⟩ ?_ ?_ ?_ rfl rfl (Nat.le_refl _) rfl
        · rw [take_all _ _ _ hi2, hall, Bool.true_and]
          try simp only [Bool.or_eq_false_iff, Bool.not_eq_false', Bool.and_eq_true] at hc3
          try simp only [Bool.or_eq_false_iff, Bool.not_eq_false', Bool.and_eq_true] at hc5
          try simp only [Bool.or_eq_false_iff, Bool.not_eq_false', Bool.and_eq_true] at hc7
          simp only [Sm.plain, *, ↓reduceIte, Bool.false_eq_true, Bool.and_self]
        all_goals exact L_
      refine g_ [0,1,5,6,7,56] ?_
      refine c_ (fun hc6 => ?_) fun hc6 => ?_
      ·
        refine gD_ [0,1,5,6,7] ?_
        refine n_ ?_
        refine wpM_regionK [0,1,5,91] rfl fun Q1 hQ1 => ?_
        refine SD_ ?_
        first | refine cg_ (fun hb => exprOk_ok (l.getD i default).e (by omega)) Tryz.call101 ?_ | refine cpD_ (exprOk_ok (l.getD i default).e (by omega)) Tryz.call101 ?_
        first | refine cg_ (fun hb => ih (l.getD i default).th (deep - 1) (by omega) (by omega) (by omega)) Tryz.call80 ?_ | refine cpD_ (ih (l.getD i default).th (deep - 1) (by omega) (by omega) (by omega)) Tryz.call80 ?_
        first | refine cg_ (fun hb => ih (l.getD i default).el (deep - 1) (by omega) (by omega) (by omega)) Tryz.call80 ?_ | refine cpD_ (ih (l.getD i default).el (deep - 1) (by omega) (by omega) (by omega)) Tryz.call80 ?_
        refine hQ1 _ _ (S_ ?_);clear hQ1 Q1
        refine c_ (fun hc7 => ?_) fun hc7 => ?_
        ·
          refine g_ [4] ?_
          refine e_ Tryz.results80 ?_
          first
          | exact True.intro
          | first
            | (simp only [formS]; exact (all_yes hi hc1 hall).symm)
            | (simp only [formS]; refine (all_no hi2 ?_).symm
               try simp only [Bool.not_and, Bool.or_assoc] at hc3
               try simp only [Bool.not_and, Bool.or_assoc] at hc5
               try simp only [Bool.not_and, Bool.or_assoc] at hc7
               simp only [Sm.plain, *, ↓reduceIte, Bool.false_eq_true, Bool.not_and, Bool.or_assoc])
        refine g_ [0,1,5] ?_
        refine .of ⟨n - 1, by omega, i + 1, M + 1, by omega, Nat.le_succ_of_le hM, ?_, rfl⟩ ?_ ?_ ?_ rfl rfl (Nat.le_refl _) rfl
        · rw [take_all _ _ _ hi2, hall, Bool.true_and]
          try simp only [Bool.or_eq_false_iff, Bool.not_eq_false', Bool.and_eq_true] at hc3
          try simp only [Bool.or_eq_false_iff, Bool.not_eq_false', Bool.and_eq_true] at hc5
          try simp only [Bool.or_eq_false_iff, Bool.not_eq_false', Bool.and_eq_true] at hc7
          simp only [Sm.plain, *, ↓reduceIte, Bool.false_eq_true, Bool.and_self]
        all_goals exact L_
      refine wpM_skip ?_
      refine S_ ?_
      refine wpM_seq ?_
      refine wpM_regionK [0, 1, 5, 91] rfl ?_; intro Q1 hQ1
      refine SD_ ?_
      refine hQ1 _ _ ?_; clear hQ1 Q1
      refine S_ ?_
      refine wpM_condK ?_
      refine S_ ?_
      refine wpM_seq ?_
      refine wpM_regionK [4] rfl ?_; intro Q1 hQ1
      refine S_ ?_
      refine hQ1 _ _ ?_; clear hQ1 Q1
      refine S_ ?_
      refine wpM_ret ?_
      try refine S_ ?_
      refine hQ _ _ rfl rfl rfl (by simp -implicitDefEqProofs (disch := omega) only [go_sem, le_yes, true_or]) ?_ (.inl rfl)
      rw [Tryz.results80]
      try simp -implicitDefEqProofs (disch := omega) only [go_sem, List.cons.injEq, PV.bool.injEq, PV.int.injEq, PV.agg.injEq]
      all_goals
        simp only [formS]; refine (all_no hi2 ?_).symm
        simp only [Sm.plain, hc2, hc4, hc6, ↓reduceIte, Bool.false_eq_true, Bool.false_and, Bool.not_false]
    refine g_ [4] ?_
    refine e_ Tryz.results80 ?_
    first
    | exact True.intro
    | first
      | (simp only [formS]; exact (all_yes hi hc1 hall).symm)
      | (simp only [formS]; refine (all_no hi2 ?_).symm
         try simp only [Bool.not_and, Bool.or_assoc] at hc3
         try simp only [Bool.not_and, Bool.or_assoc] at hc5
         try simp only [Bool.not_and, Bool.or_assoc] at hc7
         simp only [Sm.plain, *, ↓reduceIte, Bool.false_eq_true, Bool.not_and, Bool.or_assoc])
def okS (l : List Sm) : Bool := decide (manyS 4 l ≤ 16) && formS 4 l
theorem stmtsOk_ok (l : List Sm) (hs : Sm.szL l ≤ 1099511627776) : PureF Tryz.prog 38 [.rows 79 (Sm.csL l)] [.bool (okS l)] := by
  refine pureF_of Tryz.func38 rfl Tryz.ntmps38 (by simp) T_ ?_
  intro f0 B Q hQ
  refine g_ [0] ?_
  refine n_ ?_
  refine wpM_regionK [2] rfl fun Q1 hQ1 => ?_
  refine SD_ ?_
  refine cpD_ (l4Many_ok 4 l 4 rfl (by omega) hs) Tryz.call79 ?_
  first | refine cg_ (fun hb => l4Form_ok 4 l 4 rfl (by omega) hs) Tryz.call80 ?_ | refine cpD_ (l4Form_ok 4 l 4 rfl (by omega) hs) Tryz.call80 ?_
  refine hQ1 _ _ (S_ ?_);clear hQ1 Q1
  refine e_ Tryz.results38 ?_
  first
  | exact True.intro
  | have : decide ((manyS 4 l : Int) ≤ 16) = decide (manyS 4 l ≤ 16) := by simp; omega
    simp only [okS, this]
end Go.Proofs.YtnmfmeehmieifaaGreat
namespace Go.Proofs.YtnmfmeehmieifaaGreat
open Go Sg
set_option linter.unusedSectionVars false
variable [Glob]
set_option maxRecDepth 100000
set_option linter.unusedSimpArgs false
set_option linter.unusedVariables false
set_option maxHeartbeats 4000000
def smc (l : List Sm) : List PV := (Sm.csL l).flatten
@[go_sem] theorem smc_len (l : List Sm) : (smc l).length = l.length * 10 := by
  induction l with
  | nil => rfl
  | cons e l ih => simp only [smc, Sm.csL, List.flatten_cons, List.length_append, Sm.cs_eq, List.length_cons, List.length_nil] at ih ⊢; omega
theorem smc_app (l : List Sm) (e : Sm) : smc l ++ e.cs = smc (l ++ [e]) := by
  simp [smc, Sm.csL_map]
theorem smc_one (e : Sm) : e.cs = smc [e] := by simp [smc, Sm.csL]
theorem rowsOf_smc {f : Nat → Option AObj} {id n : Nat} {T : TypeId} {l : List Sm} (h : f id = some (.cells T (smc l))) (hn : l.length = n) : RowsOf Tryz.prog f 79 id 0 n (Sm.csL l) := by
  subst hn
  refine ⟨by rw [cellsOf79]; omega, by rw [Sm.csL_len], ?_, T, _, h, ?_, ?_⟩
  · intro c hc
    rw [Sm.csL_map, List.mem_map] at hc
    obtain ⟨x, _, rfl⟩ := hc
    rw [cellsOf79, Sm.cs_eq]; exact ⟨rfl, rfl⟩
  · rw [cellsOf79, smc_len]; omega
  · rw [cellsOf79, List.drop_zero, List.take_of_length_le (by rw [smc_len]; omega)]; rfl
theorem Sm.szL_app (l : List Sm) (e : Sm) : Sm.szL (l ++ [e]) = Sm.szL l + e.sz := by
  induction l with
  | nil => simp [Sm.szL]
  | cons x l ih => simp only [List.cons_append, Sm.szL, ih]; omega
@[go_sem] theorem Sm.mk_kind (k : Int) (a : AD) (e : Ex) (th el : List Sm) : (Sm.mk k a e th el).kind = k := rfl
@[go_sem] theorem Sm.mk_to (k : Int) (a : AD) (e : Ex) (th el : List Sm) : (Sm.mk k a e th el).to' = a := rfl
@[go_sem] theorem Sm.mk_e (k : Int) (a : AD) (e : Ex) (th el : List Sm) : (Sm.mk k a e th el).e = e := rfl
@[go_sem] theorem Sm.mk_th (k : Int) (a : AD) (e : Ex) (th el : List Sm) : (Sm.mk k a e th el).th = th := rfl
@[go_sem] theorem Sm.mk_el (k : Int) (a : AD) (e : Ex) (th el : List Sm) : (Sm.mk k a e th el).el = el := rfl
@[go_sem] theorem Sm.csL_nil : Sm.csL [] = [] := rfl
end Go.Proofs.YtnmfmeehmieifaaGreat
namespace Go.Proofs.YtnmfmeehmieifaaGreat
open Go Sg
set_option linter.unusedSectionVars false
variable [Glob]
set_option maxRecDepth 100000
set_option linter.unusedSimpArgs false
set_option linter.unusedVariables false
set_option maxHeartbeats 4000000
@[go_sem] theorem smc_nil : smc [] = [] := rfl
end Go.Proofs.YtnmfmeehmieifaaGreat
namespace Go.Proofs.YtnmfmeehmieifaaGreat
open Go Sg
set_option linter.unusedSectionVars false
variable [Glob]
set_option maxRecDepth 100000
set_option linter.unusedSimpArgs false
set_option linter.unusedVariables false
set_option maxHeartbeats 4000000
end Go.Proofs.YtnmfmeehmieifaaGreat
namespace Go.Proofs.YtnmfmeehmieifaaGreat
open Go Sg
set_option linter.unusedSectionVars false
variable [Glob]
set_option maxRecDepth 100000
set_option linter.unusedSimpArgs false
set_option linter.unusedVariables false
set_option maxHeartbeats 4000000
structure DRun (m : MM) (l : List Sm) (F : Int) : Prop where
  m : m.Sm
  l : Sm.szL l ≤ 1000000
  F0 : -1 ≤ F
  F1 : F ≤ 101
end Go.Proofs.YtnmfmeehmieifaaGreat
namespace Go.Proofs.YtnmfmeehmieifaaGreat
open Go Sg
set_option linter.unusedSectionVars false
variable [Glob]
set_option maxRecDepth 100000
set_option linter.unusedSimpArgs false
set_option linter.unusedVariables false
set_option maxHeartbeats 4000000
theorem icut_ok (n : Int) : PureF Tryz.prog 155 [.int .i64 n] [.int .i64 (cut n)] := by
  refine pureF_of Tryz.func155 rfl Tryz.ntmps155 (by simp) T_ ?_
  intro f0 B Q hQ
  refine g_ [0] ?_
  refine g_ [2] ?_
  refine e_ Tryz.results155 ?_
  first
  | exact True.intro
  | unfold cut; omega
def isNum (n : Int) : Bool := decide (n ≥ -1000000) && decide (n ≤ 1000000)
theorem isNum_cut (n : Int) : isNum n = (cut n == n) := by
  unfold isNum cut
  rw [Bool.eq_iff_iff]
  simp only [Bool.and_eq_true, decide_eq_true_eq, beq_iff_eq]
  omega
theorem isNum_ok (n : Int) : PureF Tryz.prog 148 [.int .i64 n] [.bool (isNum n)] := by
  refine pureF_of Tryz.func148 rfl Tryz.ntmps148 (by simp) T_ ?_
  intro f0 B Q hQ
  refine g_ [0] ?_
  refine gD_ [2] ?_
  refine e_ Tryz.results148 ?_
  first
  | exact True.intro
  | rfl
theorem iis_ok (b : Bool) : PureF Tryz.prog 127 [.bool b] [.int .i64 (numIs b)] := by
  refine pureF_of Tryz.func127 rfl Tryz.ntmps127 (by simp) T_ ?_
  intro f0 B Q hQ
  refine g_ [0] ?_
  refine g_ [3] ?_
  refine c_ (fun hc0 => ?_) fun hc0 => ?_
  ·
    refine g_ [2] ?_
    refine e_ Tryz.results127 ?_
    first
    | exact True.intro
    | simp [numIs, *]
  refine g_ [2] ?_
  refine e_ Tryz.results127 ?_
  first
  | exact True.intro
  | simp [numIs, *]
theorem ion_ok (a : Int) : PureF Tryz.prog 113 [.int .i64 a] [.bool (a != 0)] := by
  refine pureF_of Tryz.func113 rfl Tryz.ntmps113 (by simp) T_ ?_
  intro f0 B Q hQ
  refine g_ [0] ?_
  refine g_ [2] ?_
  refine e_ Tryz.results113 ?_
  first
  | exact True.intro
  | rfl
theorem iaddrOk_ok (a : AD) : PureF Tryz.prog 151 [.agg a.cs] [.bool a.ok] := by
  refine pureF_of Tryz.func151 rfl Tryz.ntmps151 (by simp) T_ ?_
  intro f0 B Q hQ
  refine g_ [1] ?_
  refine gD_ [2] ?_
  refine e_ Tryz.results151 ?_
  first
  | exact True.intro
  | rfl
def isTwo (k : Int) : Bool := decide (k ≥ 3) && decide (k ≤ 9)
theorem isTwo_ok (k : Int) : PureF Tryz.prog 175 [.int .i64 k] [.bool (isTwo k)] := by
  refine pureF_of Tryz.func175 rfl Tryz.ntmps175 (by simp) T_ ?_
  intro f0 B Q hQ
  refine g_ [0] ?_
  refine gD_ [2] ?_
  refine e_ Tryz.results175 ?_
  first
  | exact True.intro
  | rfl
def recOf (k : Int) : PV := if k == 1 then .iface 236 (.agg []) else if k == 2 then .iface 237 (.agg []) else if isTwo k then .iface 238 (.agg []) else if k == 10 then .iface 239 (.agg []) else .nilif
@[go_sem] theorem buildA_numReckoning : buildA Tryz.prog 236 [] = some (.agg []) := buildA_of (pl := []) (z := []) zeroA236 (placesA_struct Tryz.underlying236 rfl rfl) []
@[go_sem] theorem buildA_addrReckoning : buildA Tryz.prog 237 [] = some (.agg []) := buildA_of (pl := []) (z := []) zeroA237 (placesA_struct Tryz.underlying237 rfl rfl) []
@[go_sem] theorem buildA_twoReckoning : buildA Tryz.prog 238 [] = some (.agg []) := buildA_of (pl := []) (z := []) zeroA238 (placesA_struct Tryz.underlying238 rfl rfl) []
@[go_sem] theorem buildA_notReckoning : buildA Tryz.prog 239 [] = some (.agg []) := buildA_of (pl := []) (z := []) zeroA239 (placesA_struct Tryz.underlying239 rfl rfl) []
theorem recOf_pure (k : Int) : (recOf k).pure = true := by
  unfold recOf
  repeat' split
  all_goals rfl
theorem recOf_ok (k : Int) : PureF Tryz.prog 152 [.int .i64 k] [recOf k] := by
  refine pureF_of Tryz.func152 rfl Tryz.ntmps152 (by simp) (by simp [PV.pureL, recOf_pure]) ?_
  intro f0 B Q hQ
  refine g_ [0] ?_
  refine g_ [0,3] ?_
  refine c_ (fun hc0 => ?_) fun hc0 => ?_
  ·
    refine g_ [2] ?_
    refine e_ Tryz.results152 ?_
    first
    | exact True.intro
    | simp only [recOf, *, ↓reduceIte, Bool.false_eq_true]
  refine g_ [0,8] ?_
  refine c_ (fun hc1 => ?_) fun hc1 => ?_
  ·
    refine g_ [2] ?_
    refine e_ Tryz.results152 ?_
    first
    | exact True.intro
    | simp only [recOf, *, ↓reduceIte, Bool.false_eq_true]
  refine n_ ?_
  refine wpM_regionK [0,13] rfl fun Q1 hQ1 => ?_
  refine S_ ?_
  refine cp_ (isTwo_ok k) Tryz.call175 ?_
  refine hQ1 _ _ (S_ ?_);clear hQ1 Q1
  refine c_ (fun hc2 => ?_) fun hc2 => ?_
  ·
    refine g_ [2] ?_
    refine e_ Tryz.results152 ?_
    first
    | exact True.intro
    | simp only [recOf, *, ↓reduceIte, Bool.false_eq_true]
  refine g_ [18] ?_
  refine c_ (fun hc3 => ?_) fun hc3 => ?_
  ·
    refine g_ [2] ?_
    refine e_ Tryz.results152 ?_
    first
    | exact True.intro
    | simp only [recOf, *, ↓reduceIte, Bool.false_eq_true]
  refine g_ [2] ?_
  refine e_ Tryz.results152 ?_
  first
  | exact True.intro
  | simp only [recOf, *, ↓reduceIte, Bool.false_eq_true]
theorem kids1_ok : PureF Tryz.prog 241 [.agg []] [.int .i64 0] := by
  refine pureF_of Tryz.func241 rfl Tryz.ntmps241 (by simp) T_ ?_
  intro f0 B Q hQ
  refine g_ [] ?_
  refine g_ [2] ?_
  refine e_ Tryz.results241 ?_
  first
  | exact True.intro
  | rfl
theorem kids2_ok : PureF Tryz.prog 245 [.agg []] [.int .i64 0] := by
  refine pureF_of Tryz.func245 rfl Tryz.ntmps245 (by simp) T_ ?_
  intro f0 B Q hQ
  refine g_ [] ?_
  refine g_ [2] ?_
  refine e_ Tryz.results245 ?_
  first
  | exact True.intro
  | rfl
theorem kids3_ok : PureF Tryz.prog 250 [.agg []] [.int .i64 2] := by
  refine pureF_of Tryz.func250 rfl Tryz.ntmps250 (by simp) T_ ?_
  intro f0 B Q hQ
  refine g_ [] ?_
  refine g_ [2] ?_
  refine e_ Tryz.results250 ?_
  first
  | exact True.intro
  | rfl
theorem kids4_ok : PureF Tryz.prog 260 [.agg []] [.int .i64 1] := by
  refine pureF_of Tryz.func260 rfl Tryz.ntmps260 (by simp) T_ ?_
  intro f0 B Q hQ
  refine g_ [] ?_
  refine g_ [2] ?_
  refine e_ Tryz.results260 ?_
  first
  | exact True.intro
  | rfl
def noAddr (e : Ex) : Bool := e.a.kind == 0 && e.a.at' == 0
theorem shape1_ok (e : Ex) : PureF Tryz.prog 243 [.agg [], .agg e.cs] [.bool (isNum e.n && noAddr e)] := by
  refine pureF_of Tryz.func243 rfl Tryz.ntmps243 (by simp) T_ ?_
  intro f0 B Q hQ
  refine g_ [3] ?_
  refine n_ ?_
  refine wpM_regionK [4] rfl fun Q1 hQ1 => ?_
  refine SD_ ?_
  refine cpD_ (isNum_ok e.n) Tryz.call148 ?_
  refine hQ1 _ _ (S_ ?_);clear hQ1 Q1
  refine e_ Tryz.results243 ?_
  first
  | exact True.intro
  | rfl
theorem shape2_ok (e : Ex) : PureF Tryz.prog 247 [.agg [], .agg e.cs] [.bool (e.a.ok && e.n == 0)] := by
  refine pureF_of Tryz.func247 rfl Tryz.ntmps247 (by simp) T_ ?_
  intro f0 B Q hQ
  refine g_ [3] ?_
  refine n_ ?_
  refine wpM_regionK [4] rfl fun Q1 hQ1 => ?_
  refine SD_ ?_
  refine cpD_ (iaddrOk_ok e.a) Tryz.call151 ?_
  refine hQ1 _ _ (S_ ?_);clear hQ1 Q1
  refine e_ Tryz.results247 ?_
  first
  | exact True.intro
  | rfl
theorem shape3_ok (e : Ex) : PureF Tryz.prog 252 [.agg [], .agg e.cs] [.bool (e.n == 0 && noAddr e)] := by
  refine pureF_of Tryz.func252 rfl Tryz.ntmps252 (by simp) T_ ?_
  intro f0 B Q hQ
  refine g_ [3] ?_
  refine gD_ [4] ?_
  refine e_ Tryz.results252 ?_
  first
  | exact True.intro
  | rfl
theorem shape4_ok (e : Ex) : PureF Tryz.prog 262 [.agg [], .agg e.cs] [.bool (e.n == 0 && noAddr e)] := by
  refine pureF_of Tryz.func262 rfl Tryz.ntmps262 (by simp) T_ ?_
  intro f0 B Q hQ
  refine g_ [3] ?_
  refine gD_ [4] ?_
  refine e_ Tryz.results262 ?_
  first
  | exact True.intro
  | rfl
theorem imaker_ok (k : Nat) (hk : k < 3) (a b : Int) : PureF Tryz.prog 259 [.int .i64 (k : Int), .int .i64 a, .int .i64 b] [.int .i64 (if k = 0 then cut (cut a + cut b) else if k = 1 then cut (cut a - cut b) else cut (cut a * cut b))] := by
  have ha := cut_bd a
  have hb := cut_bd b
  have hm := cut_mul a b
  refine pureF_of Tryz.func259 rfl Tryz.ntmps259 (by simp) T_ ?_
  intro f0 B Q hQ
  refine g_ [0,1,2] ?_
  refine n_ ?_
  refine wpM_regionK [0,1,2] rfl fun Q1 hQ1 => ?_
  refine S_ ?_
  refine cp_ (icut_ok a) Tryz.call155 ?_
  refine cp_ (icut_ok b) Tryz.call155 ?_
  refine hQ1 _ _ (S_ ?_);clear hQ1 Q1
  refine g_ [1,2,11] ?_
  refine g_ [1,2,11,12] ?_
  refine c_ (fun hc0 => ?_) fun hc0 => ?_
  ·
    refine n_ ?_
    refine wpM_regionK [6] rfl fun Q1 hQ1 => ?_
    refine S_ ?_
    refine cp_ (icut_ok (cut a + cut b)) Tryz.call155 ?_
    refine hQ1 _ _ (S_ ?_);clear hQ1 Q1
    refine e_ Tryz.results259 ?_
    first
    | exact True.intro
    | simp only [beq_iff_eq, beq_eq_false_iff_ne, ne_eq] at *
      have : k = 0 ∨ k = 1 ∨ k = 2 := by omega
      rcases this with rfl | rfl | rfl <;> simp_all
  refine g_ [1,2,18] ?_
  refine c_ (fun hc1 => ?_) fun hc1 => ?_
  ·
    refine n_ ?_
    refine wpM_regionK [6] rfl fun Q1 hQ1 => ?_
    refine S_ ?_
    refine cp_ (icut_ok (cut a - cut b)) Tryz.call155 ?_
    refine hQ1 _ _ (S_ ?_);clear hQ1 Q1
    refine e_ Tryz.results259 ?_
    first
    | exact True.intro
    | simp only [beq_iff_eq, beq_eq_false_iff_ne, ne_eq] at *
      have : k = 0 ∨ k = 1 ∨ k = 2 := by omega
      rcases this with rfl | rfl | rfl <;> simp_all
  refine n_ ?_
  refine wpM_regionK [6] rfl fun Q1 hQ1 => ?_
  refine S_ ?_
  refine cp_ (icut_ok (cut a * cut b)) Tryz.call155 ?_
  refine hQ1 _ _ (S_ ?_);clear hQ1 Q1
  refine e_ Tryz.results259 ?_
  first
  | exact True.intro
  | simp only [beq_iff_eq, beq_eq_false_iff_ne, ne_eq] at *
    have : k = 0 ∨ k = 1 ∨ k = 2 := by omega
    rcases this with rfl | rfl | rfl <;> simp_all
theorem iadd_ok (a b : Int) : PureF Tryz.prog 256 [.int .i64 a, .int .i64 b] [.int .i64 (cut (cut a + cut b))] := by
  refine pureF_of Tryz.func256 rfl Tryz.ntmps256 (by simp) T_ ?_
  intro f0 B Q hQ
  refine g_ [0,1] ?_
  refine n_ ?_
  refine wpM_regionK [4] rfl fun Q1 hQ1 => ?_
  refine S_ ?_
  refine cp_ (imaker_ok 0 (by omega) a b) Tryz.call259 ?_
  refine hQ1 _ _ (S_ ?_);clear hQ1 Q1
  refine e_ Tryz.results256 ?_
  first
  | exact True.intro
  | rfl
theorem isub_ok (a b : Int) : PureF Tryz.prog 257 [.int .i64 a, .int .i64 b] [.int .i64 (cut (cut a - cut b))] := by
  refine pureF_of Tryz.func257 rfl Tryz.ntmps257 (by simp) T_ ?_
  intro f0 B Q hQ
  refine g_ [0,1] ?_
  refine n_ ?_
  refine wpM_regionK [4] rfl fun Q1 hQ1 => ?_
  refine S_ ?_
  refine cp_ (imaker_ok 1 (by omega) a b) Tryz.call259 ?_
  refine hQ1 _ _ (S_ ?_);clear hQ1 Q1
  refine e_ Tryz.results257 ?_
  first
  | exact True.intro
  | rfl
theorem imul_ok (a b : Int) : PureF Tryz.prog 258 [.int .i64 a, .int .i64 b] [.int .i64 (cut (cut a * cut b))] := by
  refine pureF_of Tryz.func258 rfl Tryz.ntmps258 (by simp) T_ ?_
  intro f0 B Q hQ
  refine g_ [0,1] ?_
  refine n_ ?_
  refine wpM_regionK [4] rfl fun Q1 hQ1 => ?_
  refine S_ ?_
  refine cp_ (imaker_ok 2 (by omega) a b) Tryz.call259 ?_
  refine hQ1 _ _ (S_ ?_);clear hQ1 Q1
  refine e_ Tryz.results258 ?_
  first
  | exact True.intro
  | rfl
end Go.Proofs.YtnmfmeehmieifaaGreat
namespace Go.Proofs.YtnmfmeehmieifaaGreat
open Go Sg
set_option linter.unusedSectionVars false
variable [Glob]
set_option maxRecDepth 100000
set_option linter.unusedSimpArgs false
set_option linter.unusedVariables false
set_option maxHeartbeats 4000000
theorem parts_ok (e : Ex) : CallF Tryz.prog 160 [.agg e.cs] [] 1 (fun ns o => ∃ x, ns = [x] ∧ o = { rs := [.fn (.func 176) [] [.ptr x 0]], nw := [(x, .cells 77 e.cs)] }) := by
  refine callF_of' Tryz.func160 rfl Tryz.ntmps160 (by simp) ?_
  intro f0 B ns Q hB hns hQ
  obtain ⟨x, rfl⟩ : ∃ x, ns = [x] := by
    match ns, hns with
    | [x], _ => exact ⟨x, rfl⟩
  refine g_ [1] ?_
  refine g_ [2] ?_
  refine wpM_ret ?_
  try refine S_ ?_
  refine hQ _ _ (retK [B] [] [(x, .cells 77 e.cs)] rfl rfl rfl (by rw [Tryz.results160] <;> simp (maxSteps := 1000000) -implicitDefEqProofs (disch := omega) only [go_sem] <;> rfl) ?_ ⟨x, rfl, rfl⟩ ?_ ?_ ?_ ?_ ?_ ?_)
  all_goals (first | (simp -implicitDefEqProofs (disch := omega) only [go_sem, List.nodup_cons, List.nodup_nil, true_or, or_true, List.mem_cons, List.not_mem_nil]; done) | (simp -implicitDefEqProofs (disch := omega) only [go_sem, List.nodup_cons, List.nodup_nil, true_or, or_true, List.mem_cons, List.not_mem_nil]; omega))
def rfs : Code → List (Code × Code)
  | .seq a b | .cond _ a b => rfs a ++ rfs b
  | .block _ a | .loop a => rfs a
  | .rangeFunc _ _ a b => [(a, b)]
  | _ => []
def recNil (k : Int) : Bool := !(k == 1 || k == 2 || isTwo k || k == 10)
def kidsR (k : Int) : Int := if k == 10 then 1 else if isTwo k then 2 else 0
def shapeR (e : Ex) : Bool := if e.kind == 1 then isNum e.n && noAddr e else if e.kind == 2 then e.a.ok && e.n == 0 else e.n == 0 && noAddr e
@[go_sem] theorem eql_rec (x : Operand) (v : Value) (k : Int) : binOpA Tryz.prog .eql 218 x (.const v) (recOf k) .nilif = some (.bool (recNil k)) := by
  unfold recOf recNil
  cases h1 : k == 1 <;> cases h2 : k == 2 <;> cases h3 : isTwo k <;> cases h4 : k == 10 <;> simp [binOpA, eqPair, eqA, Tryz.underlying218, isConstOp]
@[go_sem] theorem isConstOp_const (v : Value) : isConstOp (.const v) = true := rfl
theorem rec_meth (k : Int) (hn : recNil k = false) : ∃ t fk fs, recOf k = .iface t (.agg []) ∧
    (∀ args w, (callFunc fk args).run Tryz.prog w = .ok (.enter fk args) w) ∧ (∀ (v : Value) w, (method (Tryz.prog.types.size + Made.depth) t v "loop.example/stopgate/impl.kids").run Tryz.prog w = .ok (fk, v) w) ∧ PureF Tryz.prog fk [.agg []] [.int .i64 (kidsR k)] ∧
    (∀ args w, (callFunc fs args).run Tryz.prog w = .ok (.enter fs args) w) ∧ (∀ (v : Value) w, (method (Tryz.prog.types.size + Made.depth) t v "loop.example/stopgate/impl.shape").run Tryz.prog w = .ok (fs, v) w) ∧ (∀ e : Ex, e.kind = k → PureF Tryz.prog fs [.agg [], .agg e.cs] [.bool (shapeR e)]) := by
  by_cases h1 : k = 1
  · subst h1
    refine ⟨236, 241, 243, rfl, Tryz.call241, method_run info236 Tryz.underlying236 (by simp) (by rfl) rfl rfl, kids1_ok, Tryz.call243, method_run info236 Tryz.underlying236 (by simp) (by rfl) rfl rfl, fun e he => ?_⟩
    have : shapeR e = (isNum e.n && noAddr e) := by simp [shapeR, he]
    rw [this]; exact shape1_ok e
  by_cases h2 : k = 2
  · subst h2
    refine ⟨237, 245, 247, rfl, Tryz.call245, method_run info237 Tryz.underlying237 (by simp) (by rfl) rfl rfl, kids2_ok, Tryz.call247, method_run info237 Tryz.underlying237 (by simp) (by rfl) rfl rfl, fun e he => ?_⟩
    have : shapeR e = (e.a.ok && e.n == 0) := by simp [shapeR, he]
    rw [this]; exact shape2_ok e
  by_cases h3 : isTwo k = true
  · have h10 : (k == 10) = false := by
      simp only [isTwo, Bool.and_eq_true, decide_eq_true_eq] at h3
      simp; omega
    have hk : kidsR k = 2 := by simp [kidsR, h3, h10]
    rw [hk]
    refine ⟨238, 250, 252, by simp [recOf, h1, h2, h3], Tryz.call250, method_run info238 Tryz.underlying238 (by simp) (by rfl) rfl rfl, kids3_ok, Tryz.call252, method_run info238 Tryz.underlying238 (by simp) (by rfl) rfl rfl, fun e he => ?_⟩
    have : shapeR e = (e.n == 0 && noAddr e) := by simp [shapeR, he, h1, h2]
    rw [this]; exact shape3_ok e
  have h10 : k = 10 := by
    simp only [Bool.not_eq_true] at h3
    simpa [recNil, h1, h2, h3] using hn
  subst h10
  refine ⟨239, 260, 262, rfl, Tryz.call260, method_run info239 Tryz.underlying239 (by simp) (by rfl) rfl rfl, kids4_ok, Tryz.call262, method_run info239 Tryz.underlying239 (by simp) (by rfl) rfl rfl, fun e he => ?_⟩
  have : shapeR e = (e.n == 0 && noAddr e) := by simp [shapeR, he]
  rw [this]; exact shape4_ok e
def badE (n : Int) (deep : Int) (e : Ex) : Bool := decide (n > 14) || decide (deep ≥ 6) || recNil e.kind || (e.kids.length : Int) != kidsR e.kind || !shapeR e
mutual
def vis : Ex → Nat → Nat → Option Nat
  | .mk k n a l, deep, c => if badE ((c : Int) + 1) (deep : Int) (.mk k n a l) then none else visL l (deep + 1) (c + 1)
def visL : List Ex → Nat → Nat → Option Nat
  | [], _, c => some c
  | e :: l, deep, c => match vis e deep c with
    | none => none
    | some c' => visL l deep c'
end
theorem vis_eq (e : Ex) (deep c : Nat) : vis e deep c = if badE ((c : Int) + 1) (deep : Int) e then none else visL e.kids (deep + 1) (c + 1) := by cases e; rfl
theorem visL_append (l l' : List Ex) (deep : Nat) : ∀ c, visL (l ++ l') deep c = (visL l deep c).bind (visL l' deep) := by
  induction l with
  | nil => intro c; rfl
  | cons e l ih =>
    intro c
    simp only [List.cons_append, visL]
    cases vis e deep c with
    | none => rfl
    | some c' => exact ih c'
theorem visL_take (l : List Ex) (deep c i : Nat) (h : i < l.length) : visL (l.take (i + 1)) deep c = (visL (l.take i) deep c).bind (vis (l.getD i default) deep) := by
  rw [List.take_succ_eq_append_getElem h, visL_append]
  have : l.getD i default = l[i] := by simp [List.getD, h]
  rw [this]
  congr 1
  funext c'
  simp only [visL]
  cases vis l[i] deep c' <;> rfl
theorem visL_none {l : List Ex} {deep c i : Nat} (h : visL (l.take i) deep c = none) : visL l deep c = none := by
  conv => lhs; rw [← List.take_append_drop i l]
  rw [visL_append, h]; rfl
def okSt (x : Nat) (rc : AObj) (b n : Nat) : List (Nat × AObj) :=
  [(x + 7, .cells 3 [.int .i64 (n : Int)]), (x + 5, rc), (x + 2, .cells 3 [.int .i64 (n : Int)]), (x + 1, .cells 4 [.bool false]),
   (x + 6, .cells 240 [.fn (.yield b) [] []]), (x + 8, .cells 122 [.fn (.func 177) [] [.ptr (x + 7) 0, .ptr (x + 6) 0, .ptr (x + 8) 0]])]
def okRec (x b d fn : Nat) (fv : PV) (asg body : Code) (st : LoopState) (pe : Option Code) : AObj := .loop b d st pe fn 40 [(2, .ptr (x + 1) 0), (3, .ptr (x + 2) 0), (8, fv)] #[9, 10] asg body
@[go_sem] theorem okRec_eq (x b d fn : Nat) (fv : PV) (asg body : Code) (st : LoopState) (pe : Option Code) : okRec x b d fn fv asg body st pe = .loop b d st pe fn 40 [(2, .ptr (x + 1) 0), (3, .ptr (x + 2) 0), (8, fv)] #[9, 10] asg body := rfl
@[go_sem] theorem okSt_eq (x : Nat) (rc : AObj) (b n : Nat) : okSt x rc b n = [(x + 7, .cells 3 [.int .i64 (n : Int)]), (x + 5, rc), (x + 2, .cells 3 [.int .i64 (n : Int)]), (x + 1, .cells 4 [.bool false]),
   (x + 6, .cells 240 [.fn (.yield b) [] []]), (x + 8, .cells 122 [.fn (.func 177) [] [.ptr (x + 7) 0, .ptr (x + 6) 0, .ptr (x + 8) 0]])] := rfl
def visQ (x b d fn : Nat) (fv : PV) (asg body : Code) (e : Ex) (deep cnt : Nat) (f0 : Nat → Option AObj) (B : Nat) (ex : ExitA) (s : MS) : Prop :=
  ex = .ret ∧ ((∃ cnt' M', vis e deep cnt = some cnt' ∧ cnt' ≤ 14 ∧ B ≤ M' ∧ s = ⟨[(7, .bool true)], okSt x (okRec x b d fn fv asg body .ready none) b cnt', f0, B, M', []⟩) ∨
    (∃ cnt' M', vis e deep cnt = none ∧ B ≤ M' ∧ s = ⟨[(7, .bool false)], okSt x (okRec x b d fn fv asg body .done (some .ret)) b cnt', f0, B, M', []⟩))
theorem walk_ok (x b d fn : Nat) (fv : PV) (asg body c : Code) (hcode : Tryz.f134.body.map rfs = some [(asg, body)]) (hc : Tryz.f177.body = some c) : ∀ (N : Nat) (e : Ex), e.sz ≤ N → e.sz ≤ 1099511627776 →
    ∀ (deep cnt : Nat) (dI : Int) (f0 : Nat → Option AObj) (B : Nat), dI = (deep : Int) → x + 9 ≤ B → deep ≤ 6 → cnt ≤ 14 →
      wpM Tryz.prog none 39 c ⟨envOf 0 [.agg e.cs, .int .i64 dI, .ptr (x + 7) 0, .ptr (x + 6) 0, .ptr (x + 8) 0], okSt x (okRec x b d fn fv asg body .ready none) b cnt, f0, B, B, []⟩ (visQ x b d fn fv asg body e deep cnt f0 B) := by
  have hcode' := Option.some.inj hcode
  simp only [rfs, List.nil_append, List.append_nil, List.cons.injEq, Prod.mk.injEq, and_true] at hcode'
  obtain ⟨hasg, hbody⟩ := hcode'
  obtain rfl : _ = c := Option.some.inj hc
  intro N
  induction N with
  | zero => intro e h; have := e.sz_pos; omega
  | succ N ih =>
    intro e hN hs deep cnt dI f0 B hdI hB hd hcn
    have hlen := e.kids_len
    refine wpM_wk ?_
    refine g_ [1,2,3,4,5] ?_
    refine g_ [1,2,3,4,5] ?_
    refine n_ ?_
    refine wpM_regionK [1,4,5,24] rfl fun Q1 hQ1 => ?_
    refine S_ ?_
    refine OpM_roundK (x + 5) rfl rfl rfl rfl (by simp -implicitDefEqProofs (disch := omega) only [go_sem]; rfl) rfl rfl ?_
    intro K' hK'
    refine wpM_code hasg ?_
    simp -implicitDefEqProofs (disch := omega) only [go_sem]
    refine g_ [2,3,4,10] ?_
    refine g_ [2,3,4,5] ?_
    refine ⟨d, none, fn, 40, [(2, .ptr (x + 1) 0), (3, .ptr (x + 2) 0), (8, fv)], #[9, 10], asg, body, rfl, ?_⟩
    refine wpM_code hbody ?_
    refine g_ [2,3,4,5] ?_
    refine n_ ?_
    refine wpM_regionK [2,3,4,5,6] rfl fun Q1 hQ1 => ?_
    refine S_ ?_
    refine cp_ (recOf_ok e.kind) Tryz.call152 ?_
    refine hQ1 _ _ (S_ ?_);clear hQ1 Q1
    refine n_ ?_
    refine dr_ mixed [2,39] 0 2 [x+2, B+1] [⟨[3],[0],[],[],false⟩,⟨[16],[],[],[],false⟩,⟨[17],[],[],[],false⟩,⟨[4,18],[],[],[],false⟩,⟨[18,19],[],[],[],false⟩,⟨[18,20],[],[],[],false⟩,⟨[21],[],[],[],false⟩,⟨[6,22],[],[],[],false⟩,⟨[22,23],[],[],[],false⟩,⟨[22,24],[],[],[],false⟩,⟨[25],[],[],[],false⟩,⟨[5,26],[],[],[],false⟩,⟨[26,27],[1],[],[],false⟩,⟨[26,28],[],[],[],false⟩,⟨[6,26],[],[],[],false⟩,⟨[26,30],[],[],[],true⟩,⟨[26,29,31],[],[],[],false⟩,⟨[26,32],[],[],[],false⟩,⟨[33],[],[],[],false⟩,⟨[6,34],[],[],[],false⟩,⟨[5,34],[1],[],[],false⟩,⟨[34,35,36],[],[],[],true⟩,⟨[34,37],[],[],[],false⟩,⟨[34,38],[],[],[],false⟩] [0,1,2,3,4,5,6,7,8,9,10,11,12,13,14,15,16,17,18,19,20,21,22,23] [[],[0],[0,1],[0,1,2],[0,1,2,3],[0,1,2,3,4],[0,1,2,3,4,5],[0,1,2,3,4,5,6],[0,1,2,3,4,5,6,7],[0,1,2,3,4,5,6,7,8],[0,1,2,3,4,5,6,7,8,9],[0,1,2,3,4,5,6,7,8,9,10],[0,1,2,3,4,5,6,7,8,9,10,11],[0,1,2,3,4,5,6,7,8,9,10,11,12],[0,1,2,3,4,5,6,7,8,9,10],[0,1,2,3,4,5,6,7,8,9,10,14],[0,1,2,3,4,5,6,7,8,9,10,11,12,13,14,15],[0,1,2,3,4,5,6,7,8,9,10,11,12,13,14,15,16],[0,1,2,3,4,5,6,7,8,9,10,11,12,13,14,15,16,17],[0,1,2,3,4,5,6,7,8,9,10,11,12,13,14,15,16,17,18],[0,1,2,3,4,5,6,7,8,9,10,11,12,13,14,15,16,17,18],[0,1,2,3,4,5,6,7,8,9,10,11,12,13,14,15,16,17,18,19,20],[0,1,2,3,4,5,6,7,8,9,10,11,12,13,14,15,16,17,18,19,20,21],[0,1,2,3,4,5,6,7,8,9,10,11,12,13,14,15,16,17,18,19,20,21,22]] 2 (htbl := by simp; omega) (hnm := by simp) ?_
    intro O A K hO hA hK;simp only [atL_cons,atL_nil,Nat.reduceAdd,Nat.zero_add] at hO hA
    refine SE_ ?_
    refine loudG (v := .int .i64 (kidsR e.kind)) (fun K2 hb h2 => ?_) ?_
    · have hb2 := hb
      simp only [Bool.not_eq_true', Bool.or_eq_false_iff] at hb2
      obtain ⟨t, fk, fs, hr, q1, q2, q3, q4, q5, q6⟩ := rec_meth e.kind hb2.2
      exact loudi_p (args := []) q3 q1 q2 rfl (by simp -implicitDefEqProofs (disch := omega) only [go_sem, hb, gd_of hb, hr]) rfl rfl h2
    refine SE_ ?_
    refine loudG (v := .bool (shapeR e)) (fun K2 hb h2 => ?_) ?_
    · have hb2 := hb
      simp only [Bool.not_eq_true', Bool.or_eq_false_iff] at hb2
      obtain ⟨t, fk, fs, hr, q1, q2, q3, q4, q5, q6⟩ := rec_meth e.kind hb2.1.2
      exact loudi_p (args := [.agg e.cs]) (q6 e rfl) q4 q5 rfl (by simp -implicitDefEqProofs (disch := omega) only [go_sem, hb, gd_of hb, hr]) (by simp -implicitDefEqProofs (disch := omega) only [go_sem, hb, gd_of hb]) rfl h2
    refine SE_ ?_
    refine hK _ (S_ ?_);clear hK K hO hA O A
    refine c_ (fun hc0 => ?_) fun hc0 => ?_
    ·
      refine g_ [2] ?_
      refine wpM_ret ?_
      try refine S_ ?_
      have hbad : badE ((cnt : Int) + 1) dI e = true := hc0
      refine ⟨d, .busy, none, fn, 40, [(2, .ptr (x + 1) 0), (3, .ptr (x + 2) 0), (8, fv)], #[9, 10], asg, body, by simp -implicitDefEqProofs (disch := omega) only [go_sem], ?_⟩
      refine hK' _ ?_; clear hK' K'
      simp -implicitDefEqProofs (disch := omega) only [go_sem]
      refine hQ1 _ _ ?_; clear hQ1 Q1
      simp -implicitDefEqProofs (disch := omega) only [go_sem]
      refine wpM_condK ?_
      simp -implicitDefEqProofs (disch := omega) only [go_sem]
      refine wpM_seq ?_
      refine wpM_regionK [7] rfl ?_; intro Q1 hQ1
      simp -implicitDefEqProofs (disch := omega) only [go_sem]
      refine hQ1 _ _ ?_; clear hQ1 Q1
      simp -implicitDefEqProofs (disch := omega) only [go_sem]
      refine wpM_ret ?_
      refine .of' _ _ ⟨rfl, .inr ⟨cnt + 1, _, ?_, ?_, rfl⟩⟩ ?_ ?_ ?_
      · rw [vis_eq, ← hdI, if_pos hbad]
      · first | omega | (simp -implicitDefEqProofs (disch := omega) only [go_sem]; done)
      all_goals exact L_
    refine n_ ?_
    have hbad : badE ((cnt : Int) + 1) dI e = false := hc0
    clear hc0
    have hb2 := hbad
    simp only [badE, Bool.or_eq_false_iff] at hb2
    obtain ⟨⟨⟨⟨hg1, hg2⟩, _⟩, _⟩, _⟩ := hb2
    have hg2' : deep < 6 := by simp at hg2; omega
    have hg1' : cnt + 1 ≤ 14 := by simp at hg1; omega
    refine ⟨d, .busy, none, fn, 40, [(2, .ptr (x + 1) 0), (3, .ptr (x + 2) 0), (8, fv)], #[9, 10], asg, body, by simp -implicitDefEqProofs (disch := omega) only [go_sem], ?_⟩
    refine hK' _ ?_; clear hK' K'
    simp -implicitDefEqProofs (disch := omega) only [go_sem, hg1, hg2]
    refine hQ1 _ _ (S_ ?_);clear hQ1 Q1
    refine c1_ ?_
    refine g_ [1,4,26,27,28] ?_
    refine n_ ?_
    refine wpM_loopS (fun s n s' => ∃ (i M ci : Nat), i + n = e.kids.length ∧ B + 1 ≤ M ∧ visL (e.kids.take i) (deep + 1) (cnt + 1) = some ci ∧ ci ≤ 14 ∧ s' = { s with env := setE 28 (.int .i64 (i : Nat)) s.env, l := okSt x (okRec x b d fn fv asg body .ready none) b ci ++ [(B, .cells 77 e.cs)], M := M }) (e.kids.length) ?_ ?_
    ·
      refine .of' _ _ ⟨0, _, cnt + 1, by omega, ?_, rfl, hg1', rfl⟩ ?_ ?_ ?_
      · first | omega | (simp -implicitDefEqProofs (disch := omega) only [go_sem]; done)
      all_goals exact L_
    rintro n s' ⟨i, M, ci, hi, hM, hv, hci, rfl⟩
    try refine S_ ?_
    refine g_ [1,4,26,27,28,29] ?_
    refine c_ (fun hc1 => ?_) fun hc1 => ?_
    ·
      have hl0 : i < e.kids.length := by omega
      have hks := Ex.kid_sz hl0
      refine g_ [1,4,9,26,27,28] ?_
      refine n_ ?_
      refine wpM_regionK [1,4,26,27,28,37] rfl fun Q1 hQ1 => ?_
      refine S_ ?_
      refine OpM_inlineK (first := []) (ps := [.agg (e.kids.getD i default).cs, .int .i64 (dI + 1)]) (cap := [.ptr (x + 7) 0, .ptr (x + 6) 0, .ptr (x + 8) 0]) Tryz.func177 rfl Tryz.ntmps177 (by simp) Tryz.call177 rfl rfl F_ F_ ?_
      intro K' hK'
      refine wpM_frame (okSt x (okRec x b d fn fv asg body .ready none) b ci) [(M, .cells 77 (e.kids.getD i default).cs), (B, .cells 77 e.cs)] T_ T_ T_ (by simp -implicitDefEqProofs (disch := omega) only [go_sem, true_or, or_true]) T_ ?_
      intro f1
      refine wpM_mono (ih (e.kids.getD i default) (by omega) (by omega) (deep + 1) ci (dI + 1) f1 (M + 1) (by rw [hdI]; rfl) (by omega) (by omega) hci) ?_
      rintro ex s' ⟨rfl, ⟨cnt', M', h1, h2, h3, rfl⟩ | ⟨cnt', M', h1, h3, rfl⟩⟩
      rotate_left
      · refine ⟨rfl, rfl, T_, (by simp -implicitDefEqProofs (disch := omega) only [go_sem, true_or, or_true]), ?_⟩
        refine ⟨[], rfl, trivial, [.bool false], (by rw [Tryz.results177]; simp -implicitDefEqProofs (disch := omega) only [go_sem]), ?_⟩
        refine hK' _ ?_; clear hK' K'
        simp -implicitDefEqProofs (disch := omega) only [go_sem]
        refine hQ1 _ _ ?_; clear hQ1 Q1
        simp -implicitDefEqProofs (disch := omega) only [go_sem]
        refine wpM_condK ?_
        simp -implicitDefEqProofs (disch := omega) only [go_sem]
        refine wpM_seq ?_
        refine wpM_regionK [7] rfl ?_; intro Q1 hQ1
        simp -implicitDefEqProofs (disch := omega) only [go_sem]
        refine hQ1 _ _ ?_; clear hQ1 Q1
        simp -implicitDefEqProofs (disch := omega) only [go_sem]
        refine wpM_ret ?_
        refine .of' _ _ ⟨rfl, .inr ⟨cnt', _, ?_, ?_, rfl⟩⟩ ?_ ?_ ?_
        · rw [vis_eq, ← hdI, hbad]
          exact visL_none (i := i + 1) (by rw [visL_take _ _ _ _ hl0, hv]; exact h1)
        · first | omega | (simp -implicitDefEqProofs (disch := omega) only [go_sem]; done) | (simp -implicitDefEqProofs (disch := omega) only [go_sem]; omega)
        all_goals exact L_
      refine ⟨rfl, rfl, T_, (by simp -implicitDefEqProofs (disch := omega) only [go_sem, true_or, or_true]), ?_⟩
      refine ⟨[], rfl, trivial, [.bool true], (by rw [Tryz.results177]; simp -implicitDefEqProofs (disch := omega) only [go_sem]), ?_⟩
      refine hK' _ ?_; clear hK' K'
      have hv2 : visL (e.kids.take (i + 1)) (deep + 1) (cnt + 1) = some cnt' := by rw [visL_take _ _ _ _ hl0, hv]; exact h1
      refine S_ ?_
      refine hQ1 _ _ (S_ ?_);clear hQ1 Q1
      refine c1_ ?_
      refine g_ [1,4,26,27,28] ?_
      refine .of' _ _ ⟨n - 1, by omega, i + 1, _, cnt', by omega, ?_, hv2, h2, rfl⟩ ?_ ?_ ?_
      · first | omega | (simp -implicitDefEqProofs (disch := omega) only [go_sem]; done) | (simp -implicitDefEqProofs (disch := omega) only [go_sem]; omega)
      all_goals exact L_
    refine g_ [7] ?_
    refine wpM_ret ?_
    try refine S_ ?_
    have hie : i = e.kids.length := by omega
    rw [hie, List.take_of_length_le (Nat.le_refl _)] at hv
    refine .of' _ _ ⟨rfl, .inl ⟨ci, _, ?_, hci, ?_, rfl⟩⟩ ?_ ?_ ?_
    · rw [vis_eq, ← hdI, hbad]; exact hv
    · first | omega | (simp -implicitDefEqProofs (disch := omega) only [go_sem]; done) | (simp -implicitDefEqProofs (disch := omega) only [go_sem]; omega)
    all_goals exact L_
end Go.Proofs.YtnmfmeehmieifaaGreat
namespace Go.Proofs.YtnmfmeehmieifaaGreat
open Go Sg
set_option linter.unusedSectionVars false
variable [Glob]
set_option maxRecDepth 100000
set_option linter.unusedSimpArgs false
set_option linter.unusedVariables false
set_option maxHeartbeats 4000000
theorem iexprOk_ok (e : Ex) (hs : e.sz ≤ 1099511627776) : PureF Tryz.prog 134 [.agg e.cs] [.bool (vis e 0 0).isSome] := by
  refine pureF_ofM Tryz.func134 rfl Tryz.ntmps134 (by simp) T_ ?_
  intro f0 B Q hQ
  obtain ⟨asg, body, hcode⟩ : ∃ asg body, Tryz.f134.body.map rfs = some [(asg, body)] := ⟨_, _, rfl⟩
  have hcode' := Option.some.inj hcode
  simp only [rfs, List.nil_append, List.append_nil, List.cons.injEq, Prod.mk.injEq, and_true] at hcode'
  obtain ⟨hasg, hbody⟩ := hcode'
  refine g_ [1,2,9,10] ?_
  refine g_ [1,2,3,9,10] ?_
  refine n_ ?_
  refine wpM_regionK [2,3,8,9,10] rfl fun Q1 hQ1 => ?_
  refine S_ ?_
  refine call_fn (l := []) (first := []) (cap := []) (ps := [.agg e.cs]) (parts_ok e) Tryz.call160 rfl rfl rfl T_ T_ ?_
  rintro out ⟨x, hns, rfl⟩
  injection hns with hn1 hns
  subst hn1
  refine S_ ?_
  refine hQ1 _ _ (S_ ?_);clear hQ1 Q1
  refine n_ ?_
  refine wpM_code (c' := Code.rangeFunc (.tmp 8) #[9, 10] asg body) (by rw [← hasg, ← hbody]) ?_
  refine wpM_rangeFunc (first := []) (cap := [.ptr (B + 3) 0]) T_ Tryz.func176 rfl Tryz.ntmps176 (by simp) Tryz.call176 ?_
  intro fn b d
  refine g_ [1,2] ?_
  refine g_ [1,2,3] ?_
  refine g_ [1,2,3,4] ?_
  refine g_ [1,4] ?_
  refine wpM_regionK [] rfl fun Q1 hQ1 => ?_
  refine S_ ?_
  simp -implicitDefEqProofs (disch := omega) only [go_sem, Nat.add_assoc]
  refine OpM_inlineK (first := []) (ps := [.agg e.cs, .int .i64 0]) (cap := [.ptr (B + 7) 0, .ptr (B + 6) 0, .ptr (B + 8) 0]) Tryz.func177 rfl Tryz.ntmps177 (by simp) Tryz.call177 rfl rfl F_ F_ ?_
  intro K' hK'
  refine wpM_frame (okSt B (okRec B b d fn (.fn (.func 176) [] [.ptr (B + 3) 0]) asg body .ready none) b 0) [(B + 4, .dfr d), (B + 3, .cells 77 e.cs), (B, .cells 77 e.cs)] (by simp -implicitDefEqProofs (disch := omega) only [go_sem, Int.natCast_zero]) T_ T_ (by simp -implicitDefEqProofs (disch := omega) only [go_sem, true_or, or_true]) T_ ?_
  intro f1
  refine wpM_mono (walk_ok B b d fn (.fn (.func 176) [] [.ptr (B + 3) 0]) asg body _ hcode rfl e.sz e (Nat.le_refl _) hs 0 0 0 f1 (B + 9) rfl (by omega) (by omega) (by omega)) ?_
  rintro ex s' ⟨rfl, ⟨cnt', M', q1, q2, q3, rfl⟩ | ⟨cnt', M', q1, q3, rfl⟩⟩
  rotate_left
  · refine ⟨rfl, rfl, T_, (by simp -implicitDefEqProofs (disch := omega) only [go_sem, true_or, or_true]), ?_⟩
    refine ⟨[], rfl, trivial, [.bool false], (by rw [Tryz.results177]; simp -implicitDefEqProofs (disch := omega) only [go_sem]), ?_⟩
    refine hK' _ ?_; clear hK' K'
    simp -implicitDefEqProofs (disch := omega) only [go_sem]
    refine hQ1 _ _ ?_; clear hQ1 Q1
    simp -implicitDefEqProofs (disch := omega) only [go_sem]
    refine ⟨[], rfl, trivial, [], (by rw [Tryz.results176]; simp -implicitDefEqProofs (disch := omega) only [go_sem]), ?_⟩
    refine ⟨d, .done, some .ret, fn, 40, [(2, .ptr (B + 1) 0), (3, .ptr (B + 2) 0), (8, .fn (.func 176) [] [.ptr (B + 3) 0])], #[9, 10], asg, body, T_, (by simp), ?_⟩
    simp -implicitDefEqProofs (disch := omega) only [go_sem, Nat.add_assoc]
    refine hQ [B + 4] _ _ rfl rfl rfl ⟨⟨by simp -implicitDefEqProofs (disch := omega) only [go_sem], ⟨d, by simp -implicitDefEqProofs (disch := omega) only [go_sem]⟩, by simp⟩, trivial⟩ (by simp -implicitDefEqProofs (disch := omega) only [go_sem, true_or]) ?_ (.inl rfl)
    rw [Tryz.results134, q1]
    simp -implicitDefEqProofs (disch := omega) only [go_sem, Option.isSome_none]
  refine ⟨rfl, rfl, T_, (by simp -implicitDefEqProofs (disch := omega) only [go_sem, true_or, or_true]), ?_⟩
  refine ⟨[], rfl, trivial, [.bool true], (by rw [Tryz.results177]; simp -implicitDefEqProofs (disch := omega) only [go_sem]), ?_⟩
  refine hK' _ ?_; clear hK' K'
  refine S_ ?_
  refine hQ1 _ _ (S_ ?_);clear hQ1 Q1
  refine ⟨[], rfl, trivial, [], (by rw [Tryz.results176]; simp -implicitDefEqProofs (disch := omega) only [go_sem]), ?_⟩
  refine ⟨d, .ready, none, fn, 40, [(2, .ptr (B + 1) 0), (3, .ptr (B + 2) 0), (8, .fn (.func 176) [] [.ptr (B + 3) 0])], #[9, 10], asg, body, T_, (by simp), ?_⟩
  simp -implicitDefEqProofs (disch := omega) only [go_sem, Nat.add_assoc]
  refine g_ [2] ?_
  refine wpM_ret ?_
  try refine S_ ?_
  refine hQ [B + 4] _ _ rfl rfl rfl ⟨⟨by simp -implicitDefEqProofs (disch := omega) only [go_sem], ⟨d, by simp -implicitDefEqProofs (disch := omega) only [go_sem]⟩, by simp⟩, trivial⟩ (by simp -implicitDefEqProofs (disch := omega) only [go_sem, true_or]) ?_ (.inl rfl)
  rw [Tryz.results134, q1]
  simp -implicitDefEqProofs (disch := omega) only [go_sem, Option.isSome_some]
end Go.Proofs.YtnmfmeehmieifaaGreat
namespace Go.Proofs.YtnmfmeehmieifaaGreat
open Go Sg
set_option linter.unusedSectionVars false
variable [Glob]
set_option maxRecDepth 100000
set_option linter.unusedSimpArgs false
set_option linter.unusedVariables false
set_option maxHeartbeats 4000000
def idxOf {α : Type} (p : α → Bool) (l : List α) : Int := if l.any p then (l.findIdx p : Int) else -1
theorem idxOf_at {α : Type} {p : α → Bool} {l : List α} {z : α} {i : Nat} (h : i < l.length) (ha : (l.take i).all (fun x => !p x) = true) (hp : p (l.getD i z) = true) : idxOf p l = (i : Int) := by
  have hg : l.getD i z = l[i] := by simp [List.getD, h]
  rw [hg] at hp
  have hany : l.any p = true := List.any_eq_true.2 ⟨l[i], List.getElem_mem h, hp⟩
  rw [idxOf, if_pos hany]
  have : l.findIdx p = i := by
    rw [List.findIdx_eq h]
    refine ⟨hp, fun j hj => ?_⟩
    rw [List.all_eq_true] at ha
    have hm : l[j] ∈ l.take i := by
      rw [List.mem_take_iff_getElem]
      exact ⟨j, by omega, rfl⟩
    have := ha _ hm
    simpa using this
  rw [this]
theorem idxOf_no {α : Type} {p : α → Bool} {l : List α} (ha : l.all (fun x => !p x) = true) : idxOf p l = -1 := by
  have : l.any p = false := by
    rw [List.all_eq_not_any_not] at ha
    simpa using ha
  rw [idxOf, if_neg (by rw [this]; simp)]
theorem idxOf_ge {α : Type} (p : α → Bool) (l : List α) : decide (idxOf p l ≥ 0) = l.any p := by
  unfold idxOf
  cases h : l.any p <;> simp
end Go.Proofs.YtnmfmeehmieifaaGreat
namespace Go.Proofs.YtnmfmeehmieifaaGreat
open Go Sg
set_option linter.unusedSectionVars false
variable [Glob]
set_option maxRecDepth 100000
set_option linter.unusedSimpArgs false
set_option linter.unusedVariables false
set_option maxHeartbeats 4000000
def MM.flat (m : MM) : List Int := m.i ++ (m.o ++ m.v)
theorem MM.flat_len {m : MM} (h : m.Six) : m.flat.length = 18 := by simp [MM.flat, h.i, h.o, h.v]
end Go.Proofs.YtnmfmeehmieifaaGreat
namespace Go.Proofs.YtnmfmeehmieifaaGreat
open Go Sg
set_option linter.unusedSectionVars false
variable [Glob]
set_option maxRecDepth 100000
set_option linter.unusedSimpArgs false
set_option linter.unusedVariables false
set_option maxHeartbeats 4000000
theorem place_ok (id : Nat) (L : List Int) (a : AD) (h : a.ok = true) (hL : L.length = 18) : CallF Tryz.prog 156 [.ptr id 0, .agg a.cs] [(id, .cells 193 (ints L))] 0 (fun _ o => o = { rs := [.ptr id ((a.kind - 1).toNat * 6 + a.at'.toNat)] }) := by
  have hk : 1 ≤ a.kind ∧ a.kind ≤ 3 ∧ 0 ≤ a.at' ∧ a.at' < 6 := by simp only [AD.ok, Bool.and_eq_true, decide_eq_true_eq] at h; omega
  refine callF_of' Tryz.func156 rfl Tryz.ntmps156 (by simp) ?_
  intro f0 B ns Q hB hns hQ
  have hid : id < B := hB id (by simp [hasKey, lk])
  obtain rfl : ns = [] := List.eq_nil_of_length_eq_zero hns
  refine g_ [0,3] ?_
  refine n_ ?_
  refine dr_ mixed [4] 0 2 [B, id] [⟨[0],[],[],[],false⟩,⟨[3],[],[],[],false⟩,⟨[6],[0],[],[],false⟩,⟨[7],[],[],[],false⟩,⟨[3],[],[],[],false⟩,⟨[9],[0],[],[],false⟩,⟨[5],[],[],[],false⟩,⟨[11],[1],[],[],false⟩,⟨[8,12],[1],[],[],false⟩,⟨[10,13],[1],[],[],false⟩,⟨[14],[],[],[],false⟩] [0,1,2,3,4,5,6,7,8,9,10] [[],[],[1],[1,2],[],[4],[0],[0,6],[0,1,2,3,6,7],[0,1,2,3,4,5,6,7,8],[0,1,2,3,4,5,6,7,8,9]] 2 (htbl := by simp; omega) (hnm := by simp) ?_
  intro O A K hO hA hK;simp only [atL_cons,atL_nil,Nat.reduceAdd,Nat.zero_add] at hO hA
  refine SO_ ?_
  refine hK _ (S_ ?_);clear hK K hO hA O A
  refine wpM_ret ?_
  try refine S_ ?_
  refine hQ _ _ (ret0 [] rfl rfl rfl (by rw [Tryz.results156] <;> simp (maxSteps := 1000000) -implicitDefEqProofs (disch := omega) only [go_sem] <;> rfl) rfl ?_ ?_ ?_ ?_)
  all_goals simp -implicitDefEqProofs (disch := omega) only [go_sem, true_or, or_true]
theorem puts_ok (a : AD) : PureF Tryz.prog 154 [.agg a.cs] [.bool (a.ok && a.kind != 1)] := by
  refine pureF_of Tryz.func154 rfl Tryz.ntmps154 (by simp) T_ ?_
  intro f0 B Q hQ
  refine g_ [1] ?_
  refine n_ ?_
  refine wpM_regionK [2] rfl fun Q1 hQ1 => ?_
  refine SD_ ?_
  refine cpD_ (iaddrOk_ok a) Tryz.call151 ?_
  refine hQ1 _ _ (S_ ?_);clear hQ1 Q1
  refine e_ Tryz.results154 ?_
  first
  | exact True.intro
  | rfl
def pos (a : AD) : Nat := (a.kind - 1).toNat * 6 + a.at'.toNat
theorem iget_ok (id : Nat) (L : List Int) (a : AD) (h : a.ok = true) (hL : L.length = 18) : CallF Tryz.prog 249 [.ptr id 0, .agg a.cs] [(id, .cells 193 (ints L))] 0 (fun _ o => o = { rs := [.int .i64 (L.getD (pos a) 0)] }) := by
  have hk : 1 ≤ a.kind ∧ a.kind ≤ 3 ∧ 0 ≤ a.at' ∧ a.at' < 6 := by simp only [AD.ok, Bool.and_eq_true, decide_eq_true_eq] at h; omega
  have hp : pos a < L.length := by unfold pos; omega
  refine callF_of' Tryz.func249 rfl Tryz.ntmps249 (by simp) ?_
  intro f0 B ns Q hB hns hQ
  have hid : id < B := hB id (by simp [hasKey, lk])
  obtain rfl : ns = [] := List.eq_nil_of_length_eq_zero hns
  refine g_ [0,3] ?_
  refine n_ ?_
  refine wpM_regionK [0,3,7] rfl fun Q1 hQ1 => ?_
  simp -implicitDefEqProofs (disch := omega) only [go_sem, h]
  refine call_p (iaddrOk_ok a) Tryz.call151 rfl rfl rfl (by first | rfl | (simp -implicitDefEqProofs (disch := omega) only [go_sem] <;> rfl)) ?_
  simp -implicitDefEqProofs (disch := omega) only [go_sem, h]
  refine hQ1 _ _ (S_ ?_);clear hQ1 Q1
  refine c1_ ?_
  refine n_ ?_
  refine wpM_regionK [4] rfl fun Q1 hQ1 => ?_
  refine S_ ?_
  refine call_rs (place_ok id L a h hL) T_ Tryz.call156 rfl rfl rfl F_ ?_
  rw [show (a.kind - 1).toNat * 6 + a.at'.toNat = pos a from rfl]
  refine S_ ?_
  refine hQ1 _ _ (S_ ?_);clear hQ1 Q1
  refine wpM_ret ?_
  try refine S_ ?_
  refine hQ _ _ (ret0 [] rfl rfl rfl (by rw [Tryz.results249] <;> simp (maxSteps := 1000000) -implicitDefEqProofs (disch := omega) only [go_sem] <;> rfl) rfl ?_ ?_ ?_ ?_)
  all_goals simp -implicitDefEqProofs (disch := omega) only [go_sem, true_or, or_true]
end Go.Proofs.YtnmfmeehmieifaaGreat
namespace Go.Proofs.YtnmfmeehmieifaaGreat
open Go Sg
set_option linter.unusedSectionVars false
variable [Glob]
set_option maxRecDepth 100000
set_option linter.unusedSimpArgs false
set_option linter.unusedVariables false
set_option maxHeartbeats 4000000
theorem MM.flat_get (m : MM) (hm : m.Six) (a : AD) (h : a.ok = true) : m.flat.getD (pos a) 0 = m.get a := by
  have hk : 1 ≤ a.kind ∧ a.kind ≤ 3 ∧ 0 ≤ a.at' ∧ a.at' < 6 := by simp only [AD.ok, Bool.and_eq_true, decide_eq_true_eq] at h; omega
  have e1 := hm.i
  have e2 := hm.o
  have e3 := hm.v
  unfold MM.flat pos MM.get
  have hk3 : a.kind = 1 ∨ a.kind = 2 ∨ a.kind = 3 := by omega
  simp only [List.getD_eq_getElem?_getD]
  rcases hk3 with h | h | h <;> rw [h] <;> simp only [Int.reduceSub, Int.reduceToNat, Int.reduceBEq, Nat.zero_mul, Nat.one_mul, Nat.zero_add, Int.sub_self, Int.toNat_zero, if_true, if_false, Bool.false_eq_true]
  · rw [List.getElem?_append_left (by omega)]
  · rw [List.getElem?_append_right (by omega), List.getElem?_append_left (by omega)]
    congr 2; omega
  · rw [List.getElem?_append_right (by omega), List.getElem?_append_right (by omega)]
    congr 2; omega
theorem itwo_ok (k a b : Int) : PureF Tryz.prog 254 [.int .i64 k, .int .i64 a, .int .i64 b] [.int .i64 (two k a b)] := by
  refine pureF_of Tryz.func254 rfl Tryz.ntmps254 (by simp) T_ ?_
  intro f0 B Q hQ
  refine g_ [0,1,2] ?_
  refine g_ [1,2,7] ?_
  refine g_ [1,2,7,8] ?_
  refine c_ (fun hc0 => ?_) fun hc0 => ?_
  ·
    refine n_ ?_
    refine wpM_regionK [6] rfl fun Q1 hQ1 => ?_
    refine S_ ?_
    refine cp_ (iadd_ok a b) Tryz.call256 ?_
    refine hQ1 _ _ (S_ ?_);clear hQ1 Q1
    refine e_ Tryz.results254 ?_
    first
    | exact True.intro
    | simp only [two, *, ↓reduceIte, Bool.false_eq_true]
  refine g_ [1,2,7,13] ?_
  refine c_ (fun hc1 => ?_) fun hc1 => ?_
  ·
    refine n_ ?_
    refine wpM_regionK [6] rfl fun Q1 hQ1 => ?_
    refine S_ ?_
    refine cp_ (isub_ok a b) Tryz.call257 ?_
    refine hQ1 _ _ (S_ ?_);clear hQ1 Q1
    refine e_ Tryz.results254 ?_
    first
    | exact True.intro
    | simp only [two, *, ↓reduceIte, Bool.false_eq_true]
  refine g_ [1,2,7,18] ?_
  refine c_ (fun hc2 => ?_) fun hc2 => ?_
  ·
    refine n_ ?_
    refine wpM_regionK [6] rfl fun Q1 hQ1 => ?_
    refine S_ ?_
    refine cp_ (imul_ok a b) Tryz.call258 ?_
    refine hQ1 _ _ (S_ ?_);clear hQ1 Q1
    refine e_ Tryz.results254 ?_
    first
    | exact True.intro
    | simp only [two, *, ↓reduceIte, Bool.false_eq_true]
  refine g_ [1,2,7,23] ?_
  refine c_ (fun hc3 => ?_) fun hc3 => ?_
  ·
    refine n_ ?_
    refine wpM_regionK [6] rfl fun Q1 hQ1 => ?_
    refine S_ ?_
    refine cp_ (iis_ok (decide (a < b))) Tryz.call127 ?_
    refine hQ1 _ _ (S_ ?_);clear hQ1 Q1
    refine e_ Tryz.results254 ?_
    first
    | exact True.intro
    | simp only [two, *, ↓reduceIte, Bool.false_eq_true]
  refine g_ [1,2,7,29] ?_
  refine c_ (fun hc4 => ?_) fun hc4 => ?_
  ·
    refine n_ ?_
    refine wpM_regionK [6] rfl fun Q1 hQ1 => ?_
    refine S_ ?_
    refine cp_ (iis_ok (a == b)) Tryz.call127 ?_
    refine hQ1 _ _ (S_ ?_);clear hQ1 Q1
    refine e_ Tryz.results254 ?_
    first
    | exact True.intro
    | simp only [two, *, ↓reduceIte, Bool.false_eq_true]
  refine g_ [1,2,35] ?_
  refine c_ (fun hc5 => ?_) fun hc5 => ?_
  ·
    refine n_ ?_
    refine wpM_regionK [6] rfl fun Q1 hQ1 => ?_
    refine SD_ ?_
    refine cpD_ (ion_ok a) Tryz.call113 ?_
    first | refine cg_ (fun hb => ion_ok b) Tryz.call113 ?_ | refine cpD_ (ion_ok b) Tryz.call113 ?_
    refine cpD_ (iis_ok (a != 0 && b != 0)) Tryz.call127 ?_
    refine hQ1 _ _ (S_ ?_);clear hQ1 Q1
    refine e_ Tryz.results254 ?_
    first
    | exact True.intro
    | simp only [two, *, ↓reduceIte, Bool.false_eq_true]
  refine n_ ?_
  refine wpM_regionK [6] rfl fun Q1 hQ1 => ?_
  refine SD_ ?_
  refine cpD_ (ion_ok a) Tryz.call113 ?_
  first | refine cg_ (fun hb => ion_ok b) Tryz.call113 ?_ | refine cpD_ (ion_ok b) Tryz.call113 ?_
  refine cpD_ (iis_ok (a != 0 || b != 0)) Tryz.call127 ?_
  refine hQ1 _ _ (S_ ?_);clear hQ1 Q1
  refine e_ Tryz.results254 ?_
  first
  | exact True.intro
  | simp only [two, *, ↓reduceIte, Bool.false_eq_true]
def mobj (id : Nat) (m : MM) : List (Nat × AObj) := [(id, .cells 193 (ints m.flat))]
@[go_sem] theorem mobj_eq (id : Nat) (m : MM) : mobj id m = [(id, .cells 193 (ints m.flat))] := rfl
def OfK (m : MM) (id fo : Nat) (e : Ex) : Prop := CallF Tryz.prog fo [.agg [], .ptr id 0, .agg e.cs] (mobj id m) 0 (fun _ o => o = { rs := [.int .i64 (e.of m)] })
theorem of1_ok (m : MM) (id : Nat) (e : Ex) (h : e.kind = 1) : OfK m id 242 e := by
  have he : e.of m = e.n := by rw [Ex.of_eq, h]; rfl
  unfold OfK; rw [he]
  refine callF_of' Tryz.func242 rfl Tryz.ntmps242 (by simp) ?_
  intro f0 B ns Q hB hns hQ
  have hid : id < B := hB id (by simp [hasKey, lk, mobj])
  obtain rfl : ns = [] := List.eq_nil_of_length_eq_zero hns
  refine g_ [5] ?_
  refine g_ [6] ?_
  refine wpM_ret ?_
  try refine S_ ?_
  refine hQ _ _ (ret0 [] rfl rfl rfl (by rw [Tryz.results242] <;> simp (maxSteps := 1000000) -implicitDefEqProofs (disch := omega) only [go_sem] <;> rfl) rfl ?_ ?_ ?_ ?_)
  all_goals simp -implicitDefEqProofs (disch := omega) only [go_sem, true_or, or_true]
theorem of2_ok (m : MM) (hm : m.Six) (id : Nat) (e : Ex) (h : e.kind = 2) (ha : e.a.ok = true) : OfK m id 246 e := by
  have he : e.of m = m.flat.getD (pos e.a) 0 := by rw [Ex.of_eq, h, MM.flat_get m hm e.a ha]; rfl
  unfold OfK; rw [he]
  refine callF_of' Tryz.func246 rfl Tryz.ntmps246 (by simp) ?_
  intro f0 B ns Q hB hns hQ
  have hid : id < B := hB id (by simp [hasKey, lk, mobj])
  obtain rfl : ns = [] := List.eq_nil_of_length_eq_zero hns
  refine g_ [1,5] ?_
  refine n_ ?_
  refine wpM_regionK [6] rfl fun Q1 hQ1 => ?_
  refine S_ ?_
  refine call_rs (iget_ok id m.flat e.a ha (MM.flat_len hm)) T_ Tryz.call249 rfl rfl rfl F_ ?_
  refine S_ ?_
  refine hQ1 _ _ (S_ ?_);clear hQ1 Q1
  refine wpM_ret ?_
  try refine S_ ?_
  refine hQ _ _ (ret0 [] rfl rfl rfl (by rw [Tryz.results246] <;> simp (maxSteps := 1000000) -implicitDefEqProofs (disch := omega) only [go_sem] <;> rfl) rfl ?_ ?_ ?_ ?_)
  all_goals simp -implicitDefEqProofs (disch := omega) only [go_sem, true_or, or_true]
def RecK (m : MM) (id : Nat) (e : Ex) : Prop := CallF Tryz.prog 114 [.ptr id 0, .agg e.cs] (mobj id m) 0 (fun _ o => o = { rs := [.int .i64 (e.of m)] })
theorem of4_ok (m : MM) (id : Nat) (e : Ex) (h : e.kind = 10) (hl : 0 < e.kids.length) (hr : RecK m id (e.kids.getD 0 default)) : OfK m id 261 e := by
  have he : e.of m = numIs (!((e.kids.getD 0 default).of m != 0)) := by rw [Ex.of_eq m e, h, Ex.ofL_get _ _ 0 hl]; rfl
  unfold OfK; rw [he]
  refine callF_of' Tryz.func261 rfl Tryz.ntmps261 (by simp) ?_
  intro f0 B ns Q hB hns hQ
  have hid : id < B := hB id (by simp [hasKey, lk, mobj])
  obtain rfl : ns = [] := List.eq_nil_of_length_eq_zero hns
  refine g_ [1,5] ?_
  refine n_ ?_
  refine wpM_regionK [6] rfl fun Q1 hQ1 => ?_
  refine S_ ?_
  refine call_rs hr T_ Tryz.call114 rfl rfl rfl F_ ?_
  refine S_ ?_
  refine cp_ (ion_ok ((e.kids.getD 0 default).of m)) Tryz.call113 ?_
  refine cp_ (iis_ok (!((e.kids.getD 0 default).of m != 0))) Tryz.call127 ?_
  refine hQ1 _ _ (S_ ?_);clear hQ1 Q1
  refine wpM_ret ?_
  try refine S_ ?_
  refine hQ _ _ (ret0 [] rfl rfl rfl (by rw [Tryz.results261] <;> simp (maxSteps := 1000000) -implicitDefEqProofs (disch := omega) only [go_sem] <;> rfl) rfl ?_ ?_ ?_ ?_)
  all_goals simp -implicitDefEqProofs (disch := omega) only [go_sem, true_or, or_true]
theorem of3_ok (m : MM) (id : Nat) (e : Ex) (h1 : (e.kind == 1) = false) (h2 : (e.kind == 2) = false) (h3 : (e.kind == 10) = false) (hl : 1 < e.kids.length) (hr : RecK m id (e.kids.getD 0 default)) (hr1 : RecK m id (e.kids.getD 1 default)) : OfK m id 251 e := by
  have hl0 : 0 < e.kids.length := by omega
  have he : e.of m = two e.kind ((e.kids.getD 0 default).of m) ((e.kids.getD 1 default).of m) := by rw [Ex.of_eq m e, h1, h2, h3, Ex.ofL_get _ _ 0 hl0, Ex.ofL_get _ _ 1 hl]; rfl
  unfold OfK; rw [he]
  refine callF_of' Tryz.func251 rfl Tryz.ntmps251 (by simp) ?_
  intro f0 B ns Q hB hns hQ
  have hid : id < B := hB id (by simp [hasKey, lk, mobj])
  obtain rfl : ns = [] := List.eq_nil_of_length_eq_zero hns
  refine g_ [1,5] ?_
  refine n_ ?_
  refine dr_ mixed [6] 0 2 [B + 1, id] [⟨[5],[],[],[],false⟩,⟨[7],[0],[],[],false⟩,⟨[1],[],[],[],false⟩,⟨[5],[],[],[],false⟩,⟨[10],[0],[],[],false⟩,⟨[11],[],[],[],false⟩,⟨[12],[],[],[],false⟩,⟨[9,13],[1],[],[],true⟩,⟨[1],[],[],[],false⟩,⟨[5],[],[],[],false⟩,⟨[16],[0],[],[],false⟩,⟨[17],[],[],[],false⟩,⟨[18],[],[],[],false⟩,⟨[15,19],[1],[],[],true⟩,⟨[8,14,20],[],[],[],true⟩,⟨[21],[],[],[],false⟩] [0,1,2,3,4,5,6,8,9,10,11,12,7,13,14,15] [[],[0],[],[],[3],[3,4],[3,4,5],[2,3,4,5,6],[],[],[9],[9,10],[9,10,11],[2,3,4,5,6,7,8,9,10,11,12],[0,1,2,3,4,5,6,7,8,9,10,11,12,13],[0,1,2,3,4,5,6,7,8,9,10,11,12,13,14]] 2 (htbl := by simp; omega) (hnm := by simp) ?_
  intro O A K hO hA hK;simp only [atL_cons,atL_nil,Nat.reduceAdd,Nat.zero_add] at hO hA
  refine SO_ ?_
  refine loud_r hr (subG_spec T_) Tryz.call114 rfl rfl F_ rfl ?_
  refine SO_ ?_
  refine loud_r hr1 (subG_spec T_) Tryz.call114 rfl rfl F_ rfl ?_
  refine SO_ ?_
  refine lp_ (itwo_ok e.kind ((e.kids.getD 0 default).of m) ((e.kids.getD 1 default).of m)) Tryz.call254 ?_
  refine hK _ (S_ ?_);clear hK K hO hA O A
  refine wpM_ret ?_
  try refine S_ ?_
  refine hQ _ _ (ret0 [] rfl rfl rfl (by rw [Tryz.results251] <;> simp (maxSteps := 1000000) -implicitDefEqProofs (disch := omega) only [go_sem] <;> rfl) rfl ?_ ?_ ?_ ?_)
  all_goals simp -implicitDefEqProofs (disch := omega) only [go_sem, true_or, or_true]
theorem rec_of (m : MM) (hm : m.Six) (id d : Nat) (e : Ex) (h : formD (d + 1) e = true) (ih : ∀ i, i < e.kids.length → RecK m id (e.kids.getD i default)) : ∃ t fo, recOf e.kind = .iface t (.agg []) ∧
    (∀ args w, (callFunc fo args).run Tryz.prog w = .ok (.enter fo args) w) ∧ (∀ (v : Value) w, (method (Tryz.prog.types.size + Made.depth) t v "loop.example/stopgate/impl.of").run Tryz.prog w = .ok (fo, v) w) ∧ OfK m id fo e := by
  obtain ⟨hk, ha, _⟩ := form_inv h
  by_cases h1 : e.kind = 1
  · exact ⟨236, 242, by rw [h1]; rfl, Tryz.call242, method_run info236 Tryz.underlying236 (by simp) (by rfl) rfl rfl, of1_ok m id e h1⟩
  by_cases h2 : e.kind = 2
  · exact ⟨237, 246, by rw [h2]; rfl, Tryz.call246, method_run info237 Tryz.underlying237 (by simp) (by rfl) rfl rfl, of2_ok m hm id e h2 (ha h2)⟩
  by_cases h10 : e.kind = 10
  · have hl : 0 < e.kids.length := by rw [h10] at hk; simp [kidsN] at hk; omega
    exact ⟨239, 261, by rw [h10]; rfl, Tryz.call261, method_run info239 Tryz.underlying239 (by simp) (by rfl) rfl rfl, of4_ok m id e h10 hl (ih 0 hl)⟩
  have g1 : (e.kind == 1) = false := by simpa using h1
  have g2 : (e.kind == 2) = false := by simpa using h2
  have g10 : (e.kind == 10) = false := by simpa using h10
  have h2' := kidsN_two g1 g2 g10 (by omega)
  have ht : isTwo e.kind = true := by
    unfold kidsN at h2'
    rw [g1, g2, g10] at h2'
    simp only [Bool.or_self, Bool.false_eq_true, if_false] at h2'
    unfold isTwo
    cases hh : (decide (e.kind ≥ 3) && decide (e.kind ≤ 9))
    · rw [hh] at h2'; simp at h2'
    · rfl
  have hl : 1 < e.kids.length := by omega
  exact ⟨238, 251, by simp [recOf, g1, g2, ht], Tryz.call251, method_run info238 Tryz.underlying238 (by simp) (by rfl) rfl rfl, of3_ok m id e g1 g2 g10 hl (ih 0 (by omega)) (ih 1 hl)⟩
theorem reckon_ok (m : MM) (hm : m.Six) (id : Nat) (d : Nat) : ∀ (e : Ex), formD d e = true → RecK m id e := by
  induction d with
  | zero => intro e h; cases h
  | succ d ih =>
    intro e he
    have hkids := (form_inv he).2.2
    obtain ⟨t, fo, hr, q1, q2, q3⟩ := rec_of m hm id d e he (fun i hi => ih _ (hkids i hi))
    unfold RecK
    refine callF_of' Tryz.func114 rfl Tryz.ntmps114 (by simp) ?_
    intro f0 B ns Q hB hns hQ
    have hid : id < B := hB id (by simp [hasKey, lk, mobj])
    obtain rfl : ns = [] := List.eq_nil_of_length_eq_zero hns
    refine g_ [0,3] ?_
    refine n_ ?_
    refine dr_ mixed [4] 0 2 [B, id] [⟨[3],[],[],[],false⟩,⟨[5],[0],[],[],false⟩,⟨[6],[],[],[],true⟩,⟨[0],[],[],[],false⟩,⟨[3],[0],[],[],false⟩,⟨[7,8,9],[1],[],[],true⟩,⟨[10],[],[],[],false⟩] [0,1,3,4,2,5,6] [[],[0],[0,1],[],[],[0,1,2,3,4],[0,1,2,3,4,5]] 2 (htbl := by simp; omega) (hnm := by simp) ?_
    intro O A K hO hA hK;simp only [atL_cons,atL_nil,Nat.reduceAdd,Nat.zero_add] at hO hA
    refine SO_ ?_
    refine lp_ (recOf_ok e.kind) Tryz.call152 ?_
    refine loud_inv (l := mobj id m) (ps := [.ptr id 0, .agg e.cs]) (k := 0) q3 q1 q2 rfl (by simp -implicitDefEqProofs (disch := omega) only [go_sem, hr]) F_ (subG_spec T_) rfl ?_
    rintro out rfl
    refine ⟨rfl, ?_⟩
    refine SO_ ?_
    refine hK _ (S_ ?_);clear hK K hO hA O A
    refine wpM_ret ?_
    try refine S_ ?_
    refine hQ _ _ (ret0 [] rfl rfl rfl (by rw [Tryz.results114] <;> simp (maxSteps := 1000000) -implicitDefEqProofs (disch := omega) only [go_sem] <;> rfl) rfl ?_ ?_ ?_ ?_)
    all_goals simp -implicitDefEqProofs (disch := omega) only [go_sem, true_or, or_true]
end Go.Proofs.YtnmfmeehmieifaaGreat
namespace Go.Proofs.YtnmfmeehmieifaaGreat
open Go Sg
set_option linter.unusedSectionVars false
variable [Glob]
set_option maxRecDepth 100000
set_option linter.unusedSimpArgs false
set_option linter.unusedVariables false
set_option maxHeartbeats 4000000
theorem loc_eq (e : Ex) : (recNil e.kind || (e.kids.length : Int) != kidsR e.kind || !shapeR e) =
    (kidsN e.kind != (e.kids.length : Int) || ((e.kind == 1 && cut e.n != e.n) || (e.kind != 1 && e.n != 0)) || ((e.kind == 2 && !e.a.ok) || (e.kind != 2 && !(e.a.kind == 0 && e.a.at' == 0)))) := by
  unfold recNil kidsR shapeR kidsN noAddr isTwo
  simp only [isNum_cut]
  have hL : 0 ≤ (e.kids.length : Int) := by omega
  generalize (e.kids.length : Int) = L at *
  generalize cut e.n = cn
  generalize e.n = n
  generalize e.a.ok = ok
  generalize e.a.kind = ak
  generalize e.a.at' = aa
  generalize e.kind = k
  by_cases h1 : k = 1
  · subst h1
    rw [Bool.eq_iff_iff]
    cases ok <;> simp <;> omega
  by_cases h2 : k = 2
  · subst h2
    rw [Bool.eq_iff_iff]
    cases ok <;> simp <;> omega
  by_cases h10 : k = 10
  · subst h10
    rw [Bool.eq_iff_iff]
    cases ok <;> simp <;> omega
  have e1 : (k == 1) = false := by simpa using h1
  have e2 : (k == 2) = false := by simpa using h2
  have e3 : (k == 10) = false := by simpa using h10
  rw [e1, e2, e3]
  by_cases h3 : 3 ≤ k ∧ k ≤ 9
  · have f1 : decide (k ≥ 3) = true := by simp; omega
    have f2 : decide (k ≤ 9) = true := by simp; omega
    rw [f1, f2, Bool.eq_iff_iff]
    cases ok <;> simp <;> omega
  · have f : (decide (k ≥ 3) && decide (k ≤ 9)) = false := by
      rw [Bool.and_eq_false_iff]; simp; omega
    have fk : ((k ≥ 3) ∧ (k ≤ 9)) = False := by simp; omega
    rw [f, Bool.eq_iff_iff]
    cases ok <;> simp [bne, h1, h2] <;> omega
theorem form_eq (d : Nat) (e : Ex) : formD (d + 1) e = (!(recNil e.kind || (e.kids.length : Int) != kidsR e.kind || !shapeR e) && e.kids.all (formD d)) := by
  rw [loc_eq, formD]
  cases (kidsN e.kind != (e.kids.length : Int)) <;> simp only [Bool.false_eq_true, if_false, if_true, Bool.true_or, Bool.false_or, Bool.not_true, Bool.false_and]
  cases ((e.kind == 1 && cut e.n != e.n) || (e.kind != 1 && e.n != 0)) <;> simp only [Bool.false_eq_true, if_false, if_true, Bool.true_or, Bool.false_or, Bool.not_true, Bool.false_and]
  cases ((e.kind == 2 && !e.a.ok) || (e.kind != 2 && !(e.a.kind == 0 && e.a.at' == 0))) <;> simp
theorem bad_eq (c deep : Nat) (e : Ex) : badE ((c : Int) + 1) (deep : Int) e = (decide (14 ≤ c) || decide (6 ≤ deep) || (recNil e.kind || (e.kids.length : Int) != kidsR e.kind || !shapeR e)) := by
  unfold badE
  have h1 : decide ((c : Int) + 1 > 14) = decide (14 ≤ c) := by simp; omega
  have h2 : decide ((deep : Int) ≥ 6) = decide (6 ≤ deep) := by simp; omega
  rw [h1, h2]
  simp only [Bool.or_assoc]
theorem vis_sound (d : Nat) : d ≤ 6 → ∀ (e : Ex) (c c' : Nat), vis e (6 - d) c = some c' → formD d e = true ∧ c' = c + manyD d e ∧ c' ≤ 14 := by
  induction d with
  | zero =>
    intro _ e c c' h
    rw [vis_eq, bad_eq] at h
    simp at h
  | succ d ih =>
    intro hd e c c' h
    have hL : ∀ (l : List Ex) (c c' : Nat), c ≤ 14 → visL l (6 - d) c = some c' → l.all (formD d) = true ∧ c' = c + (l.map (manyD d)).sum ∧ c' ≤ 14 := by
      intro l
      induction l with
      | nil => intro c c' hc h; simp [visL] at h; subst h; simp [hc]
      | cons x l ihl =>
        intro c c' hc h
        simp only [visL] at h
        split at h
        · cases h
        · rename_i c1 h1
          obtain ⟨a1, a2, a3⟩ := ih (by omega) x c c1 h1
          obtain ⟨b1, b2, b3⟩ := ihl c1 c' a3 h
          refine ⟨by simp [a1, b1], ?_, b3⟩
          simp only [List.map_cons, List.sum_cons]; omega
    rw [vis_eq, bad_eq] at h
    split at h
    · cases h
    · rename_i hb
      simp only [Bool.or_eq_true, decide_eq_true_eq, not_or] at hb
      obtain ⟨⟨hb1, hb2⟩, hb3⟩ := hb
      have hdeep : 6 - (d + 1) + 1 = 6 - d := by omega
      rw [hdeep] at h
      obtain ⟨a1, a2, a3⟩ := hL e.kids (c + 1) c' (by omega) h
      refine ⟨?_, ?_, a3⟩
      · rw [form_eq, a1]
        simp only [Bool.and_true, Bool.not_eq_true', Bool.or_eq_false_iff]
        simp only [Bool.not_eq_true] at hb3
        exact ⟨⟨hb3.1.1, hb3.1.2⟩, hb3.2⟩
      · simp only [manyD]; omega
theorem vis_complete (d : Nat) : d ≤ 6 → ∀ (e : Ex) (c : Nat), formD d e = true → c + manyD d e ≤ 14 → vis e (6 - d) c = some (c + manyD d e) := by
  induction d with
  | zero => intro _ e c h; cases h
  | succ d ih =>
    intro hd e c hf hm
    have hL : ∀ (l : List Ex) (c : Nat), l.all (formD d) = true → c + (l.map (manyD d)).sum ≤ 14 → visL l (6 - d) c = some (c + (l.map (manyD d)).sum) := by
      intro l
      induction l with
      | nil => intro c _ _; simp [visL]
      | cons x l ihl =>
        intro c hl hs
        simp only [List.all_cons, Bool.and_eq_true] at hl
        simp only [List.map_cons, List.sum_cons] at hs ⊢
        simp only [visL, ih (by omega) x c hl.1 (by omega)]
        rw [ihl _ hl.2 (by omega)]
        congr 1; omega
    rw [form_eq] at hf
    simp only [Bool.and_eq_true, Bool.not_eq_true'] at hf
    simp only [manyD] at hm ⊢
    rw [vis_eq, bad_eq, hf.1]
    have h1 : decide (14 ≤ c) = false := by simp; omega
    have h2 : decide (6 ≤ 6 - (d + 1)) = false := by simp; omega
    rw [h1, h2]
    have hdeep : 6 - (d + 1) + 1 = 6 - d := by omega
    simp only [Bool.or_self, Bool.false_eq_true, if_false, hdeep]
    rw [hL e.kids (c + 1) hf.2 (by omega)]
    congr 1; omega
theorem vis_ok (e : Ex) : (vis e 0 0).isSome = e.ok := by
  rw [Bool.eq_iff_iff, Ex.ok, Bool.and_eq_true, decide_eq_true_eq]
  constructor
  · intro h
    obtain ⟨c', hc⟩ := Option.isSome_iff_exists.1 h
    obtain ⟨a1, a2, a3⟩ := vis_sound 6 (by omega) e 0 c' hc
    exact ⟨a1, by omega⟩
  · rintro ⟨h1, h2⟩
    have := vis_complete 6 (by omega) e 0 h1 (by omega)
    simp at this
    rw [this]; rfl
end Go.Proofs.YtnmfmeehmieifaaGreat
namespace Go.Proofs.YtnmfmeehmieifaaGreat
open Go Sg
set_option linter.unusedSectionVars false
variable [Glob]
set_option maxRecDepth 100000
set_option linter.unusedSimpArgs false
set_option linter.unusedVariables false
set_option maxHeartbeats 4000000
def doOf (s : Sm) : PV :=
  if s.kind == 1 then .iface 203 (.agg [.int .i64 s.to'.kind, .int .i64 s.to'.at', .int .i64 s.e.kind, .int .i64 s.e.n, .int .i64 s.e.a.kind, .int .i64 s.e.a.at', .rows 77 (Ex.csL s.e.kids)])
  else if s.kind == 2 then .iface 205 (.agg [.int .i64 s.e.kind, .int .i64 s.e.n, .int .i64 s.e.a.kind, .int .i64 s.e.a.at', .rows 77 (Ex.csL s.e.kids), .rows 79 (Sm.csL s.th), .rows 79 (Sm.csL s.el)])
  else if s.kind == 3 then .iface 207 (.agg [.int .i64 s.e.kind, .int .i64 s.e.n, .int .i64 s.e.a.kind, .int .i64 s.e.a.at', .rows 77 (Ex.csL s.e.kids), .rows 79 (Sm.csL s.th)]) else .nilif
theorem doOf_pure (s : Sm) : (doOf s).pure = true := by
  unfold doOf
  repeat' split
  all_goals rfl
theorem doOf_ok (s : Sm) : PureF Tryz.prog 91 [.agg s.cs] [doOf s] := by
  refine pureF_of Tryz.func91 rfl Tryz.ntmps91 (by simp) (by simp [PV.pureL, doOf_pure]) ?_
  intro f0 B Q hQ
  refine g_ [1] ?_
  refine g_ [1,4] ?_
  refine g_ [1,4,5] ?_
  refine c_ (fun hc0 => ?_) fun hc0 => ?_
  ·
    refine g_ [2] ?_
    refine e_ Tryz.results91 ?_
    first
    | exact True.intro
    | simp only [doOf, *, ↓reduceIte, Bool.false_eq_true]
  refine g_ [1,4,13] ?_
  refine c_ (fun hc1 => ?_) fun hc1 => ?_
  ·
    refine g_ [2] ?_
    refine e_ Tryz.results91 ?_
    first
    | exact True.intro
    | simp only [doOf, *, ↓reduceIte, Bool.false_eq_true]
  refine g_ [1,23] ?_
  refine c_ (fun hc2 => ?_) fun hc2 => ?_
  ·
    refine g_ [2] ?_
    refine e_ Tryz.results91 ?_
    first
    | exact True.intro
    | simp only [doOf, *, ↓reduceIte, Bool.false_eq_true]
  refine g_ [2] ?_
  refine e_ Tryz.results91 ?_
  first
  | exact True.intro
  | simp only [doOf, *, ↓reduceIte, Bool.false_eq_true]
theorem plain1_ok (s : Sm) (v : List PV) (hv : v.all PV.cell = true) : PureF Tryz.prog 203 [.agg v, .agg s.cs] [.bool (s.to'.ok && s.to'.kind != 1 && (s.th.length : Int) == 0 && (s.el.length : Int) == 0)] := by
  refine pureF_of Tryz.func203 rfl Tryz.ntmps203 (by simp) T_ ?_
  intro f0 B Q hQ
  refine n_ ?_
  refine wpM_regionK [3] rfl fun Q1 hQ1 => ?_
  simp -implicitDefEqProofs (disch := omega) only [go_sem, hv, true_and]
  refine hQ1 _ _ (S_ ?_);clear hQ1 Q1
  refine n_ ?_
  refine wpM_regionK [4] rfl fun Q1 hQ1 => ?_
  refine SD_ ?_
  refine cpD_ (puts_ok s.to') Tryz.call154 ?_
  refine hQ1 _ _ (S_ ?_);clear hQ1 Q1
  refine e_ Tryz.results203 ?_
  first
  | exact True.intro
  | rfl
theorem plain2_ok (s : Sm) (v : List PV) (hv : v.all PV.cell = true) : PureF Tryz.prog 225 [.agg v, .agg s.cs] [.bool (s.to'.kind == 0 && s.to'.at' == 0)] := by
  refine pureF_of Tryz.func225 rfl Tryz.ntmps225 (by simp) T_ ?_
  intro f0 B Q hQ
  refine n_ ?_
  refine wpM_regionK [3] rfl fun Q1 hQ1 => ?_
  simp -implicitDefEqProofs (disch := omega) only [go_sem, hv, true_and]
  refine hQ1 _ _ (S_ ?_);clear hQ1 Q1
  refine g_ [4] ?_
  refine e_ Tryz.results225 ?_
  first
  | exact True.intro
  | rfl
theorem plain3_ok (s : Sm) (v : List PV) (hv : v.all PV.cell = true) : PureF Tryz.prog 230 [.agg v, .agg s.cs] [.bool (s.to'.kind == 0 && s.to'.at' == 0 && (s.el.length : Int) == 0)] := by
  refine pureF_of Tryz.func230 rfl Tryz.ntmps230 (by simp) T_ ?_
  intro f0 B Q hQ
  refine n_ ?_
  refine wpM_regionK [3] rfl fun Q1 hQ1 => ?_
  simp -implicitDefEqProofs (disch := omega) only [go_sem, hv, true_and]
  refine hQ1 _ _ (S_ ?_);clear hQ1 Q1
  refine gD_ [4] ?_
  refine e_ Tryz.results230 ?_
  first
  | exact True.intro
  | rfl
def doNil (s : Sm) : Bool := !(s.kind == 1 || s.kind == 2 || s.kind == 3)
@[go_sem] theorem eql_do (x : Operand) (v : Value) (s : Sm) : binOpA Tryz.prog .eql 132 x (.const v) (doOf s) .nilif = some (.bool (doNil s)) := by
  unfold doOf doNil
  cases h1 : s.kind == 1 <;> cases h2 : s.kind == 2 <;> cases h3 : s.kind == 3 <;> simp [binOpA, eqPair, eqA, Tryz.underlying132, isConstOp]
theorem do_plain (s : Sm) (hn : doNil s = false) : ∃ t v fp, doOf s = .iface t v ∧ (∀ args w, (callFunc fp args).run Tryz.prog w = .ok (.enter fp args) w) ∧
    (∀ (u : Value) w, (method (Tryz.prog.types.size + Made.depth) t u "loop.example/stopgate/impl.plain").run Tryz.prog w = .ok (fp, u) w) ∧ PureF Tryz.prog fp [v, .agg s.cs] [.bool s.plain] := by
  by_cases h1 : s.kind = 1
  · refine ⟨203, _, 203, by simp only [doOf, h1, beq_self_eq_true, if_true]; rfl, Tryz.call203, method_run info203 Tryz.underlying203 (by simp) (by rfl) rfl rfl, ?_⟩
    have := plain1_ok s
    simp only [Sm.plain, h1, beq_self_eq_true, if_true]
    exact this _ (by rfl)
  by_cases h2 : s.kind = 2
  · refine ⟨205, _, 225, by simp only [doOf, h2, beq_self_eq_true, if_true]; rfl, Tryz.call225, method_run info205 Tryz.underlying205 (by simp) (by rfl) rfl rfl, ?_⟩
    have := plain2_ok s
    simp only [Sm.plain, h2, beq_self_eq_true, if_true]
    exact this _ (by rfl)
  have h3 : s.kind = 3 := by simpa [doNil, h1, h2] using hn
  refine ⟨207, _, 230, by simp only [doOf, h3, beq_self_eq_true, if_true]; rfl, Tryz.call230, method_run info207 Tryz.underlying207 (by simp) (by rfl) rfl rfl, ?_⟩
  have := plain3_ok s
  simp only [Sm.plain, h3, beq_self_eq_true, if_true]
  exact this _ (by rfl)
def badS (n : Int) (deep : Int) (s : Sm) : Bool := decide (n > 16) || decide (deep ≥ 4) || doNil s || !s.plain || !(vis s.e 0 0).isSome
mutual
def Sm.vis : Sm → Nat → Nat → Option Nat
  | .mk k a e th el, d, c => if badS ((c : Int) + 1) (d : Int) (.mk k a e th el) then none else match Sm.visL th (d + 1) (c + 1) with
    | some c2 => Sm.visL el (d + 1) c2
    | none => none
def Sm.visL : List Sm → Nat → Nat → Option Nat
  | [], _, c => some c
  | s :: l, d, c => match s.vis d c with
    | some c2 => Sm.visL l d c2
    | none => none
end
end Go.Proofs.YtnmfmeehmieifaaGreat
namespace Go.Proofs.YtnmfmeehmieifaaGreat
open Go Sg
set_option linter.unusedSectionVars false
variable [Glob]
set_option maxRecDepth 100000
set_option linter.unusedSimpArgs false
set_option linter.unusedVariables false
set_option maxHeartbeats 4000000
theorem Sm.vis_eq (s : Sm) (d c : Nat) : s.vis d c = if badS ((c : Int) + 1) (d : Int) s then none else match Sm.visL s.th (d + 1) (c + 1) with
    | some c2 => Sm.visL s.el (d + 1) c2
    | none => none := by cases s; simp only [Sm.vis, Sm.th, Sm.el] <;> rfl
theorem Sm.visL_app (l : List Sm) : ∀ (r : List Sm) (d c : Nat), Sm.visL (l ++ r) d c = match Sm.visL l d c with
    | some c2 => Sm.visL r d c2
    | none => none := by
  induction l with
  | nil => intro r d c; rfl
  | cons s l ih =>
    intro r d c
    simp only [List.cons_append, Sm.visL]
    cases s.vis d c with
    | none => rfl
    | some c2 => exact ih r d c2
theorem Sm.visL_take (l : List Sm) (d c i : Nat) (h : i < l.length) : Sm.visL (l.take (i + 1)) d c = match Sm.visL (l.take i) d c with
    | some c2 => (l.getD i default).vis d c2
    | none => none := by
  rw [List.take_succ_eq_append_getElem h, Sm.visL_app]
  cases Sm.visL (l.take i) d c with
  | none => rfl
  | some c2 =>
    simp only [Sm.visL, List.getD, List.getElem?_eq_getElem h, Option.getD_some]
    cases (l[i]).vis d c2 <;> rfl
theorem Sm.visL_none {l : List Sm} {d c i : Nat} (h : Sm.visL (l.take i) d c = none) : Sm.visL l d c = none := by
  have := Sm.visL_app (l.take i) (l.drop i) d c
  rw [List.take_append_drop, h] at this
  exact this
def CntO (id : Nat) (l : List Sm) (d c : Nat) (_ : List Nat) (o : COut) : Prop :=
  ∃ (r : Option Nat) (c' : Nat), Sm.visL l d c = r ∧ c' ≤ 17 ∧ (∀ k, r = some k → c' = k ∧ k ≤ 16) ∧ o = { rs := [.bool r.isSome], u := [(id, some (.cells 3 [.int .i64 (c' : Nat)]))] }
def CntF (id : Nat) (l : List Sm) (d c : Nat) : Prop := CallF Tryz.prog 88 [.rows 79 (Sm.csL l), .int .i64 (d : Nat), .ptr id 0] [(id, .cells 3 [.int .i64 (c : Nat)])] 0 (CntO id l d c)
end Go.Proofs.YtnmfmeehmieifaaGreat
namespace Go.Proofs.YtnmfmeehmieifaaGreat
open Go Sg
set_option linter.unusedSectionVars false
variable [Glob]
set_option maxRecDepth 100000
set_option linter.unusedSimpArgs false
set_option linter.unusedVariables false
set_option maxHeartbeats 4000000
theorem count_ok (id : Nat) : ∀ (N : Nat) (l : List Sm), Sm.szL l ≤ N → Sm.szL l ≤ 1099511627776 → ∀ d c : Nat, d ≤ 4 → c ≤ 16 → CntF id l d c := by
  intro N
  induction N with
  | zero =>
    intro l hN
    have h0 : l.length = 0 := by have := Sm.len_szL l; omega
    obtain rfl : l = [] := List.eq_nil_of_length_eq_zero h0
    intro hs d c hd hc
    refine callF_of' Tryz.func88 rfl Tryz.ntmps88 (by simp) ?_
    intro f0 B ns Q hB hns hQ
    have hid : id < B := hB id (by simp [hasKey, lk])
    obtain rfl : ns = [] := List.eq_nil_of_length_eq_zero hns
    refine g_ [0,1,2] ?_
    refine g_ [1,2,10,11,12] ?_
    refine n_ ?_
    refine wpM_loopS (fun s n s' => s' = s) (0) ?_ ?_
    ·
      exact .here rfl
    rintro n s' rfl
    try refine S_ ?_
    refine g_ [1,2,10,11,12,13] ?_
    refine c_ (fun hc0 => ?_) fun hc0 => ?_
    · simp at hc0
    refine g_ [6] ?_
    refine wpM_ret ?_
    try refine S_ ?_
    refine hQ _ _ (ret0 [(id, some (.cells 3 [.int .i64 (c : Nat)]))] rfl rfl rfl (by rw [Tryz.results88] <;> simp (maxSteps := 1000000) -implicitDefEqProofs (disch := omega) only [go_sem] <;> rfl) ⟨some c, c, rfl, by omega, fun k hk => (by injection hk with hk; omega), rfl⟩ ?_ ?_ ?_ ?_)
    all_goals simp -implicitDefEqProofs (disch := omega) only [go_sem, true_or, or_true]
  | succ N ih =>
    intro l hN hs d c hd hc
    have hlen := Sm.len_szL l
    refine callF_of' Tryz.func88 rfl Tryz.ntmps88 (by simp) ?_
    intro f0 B ns Q hB hns hQ
    have hid : id < B := hB id (by simp [hasKey, lk])
    obtain rfl : ns = [] := List.eq_nil_of_length_eq_zero hns
    have hT : Tryz.prog.cellsOf 3 = 1 := cellsOf3
    refine g_ [0,1,2] ?_
    refine g_ [1,2,10,11,12] ?_
    refine n_ ?_
    refine wpM_loopS (fun s n s' => ∃ (i M ci : Nat), i + n = l.length ∧ B ≤ M ∧ Sm.visL (l.take i) d c = some ci ∧ ci ≤ 16 ∧ s' = { s with env := setE 12 (.int .i64 (i : Nat)) s.env, l := [(id, .cells 3 [.int .i64 (ci : Nat)])], M := M }) (l.length) ?_ ?_
    ·
      refine .of' _ _ ⟨0, _, c, by omega, Nat.le_refl _, rfl, hc, rfl⟩ ?_ ?_ ?_ <;> exact L_
    rintro n s' ⟨i, M, ci, hi, hM, hv, hci, rfl⟩
    try refine S_ ?_
    refine g_ [1,2,10,11,12,13] ?_
    refine c_ (fun hc0 => ?_) fun hc0 => ?_
    ·
      have hi2 : i < l.length := by omega
      have hin := Sm.get_in hi2
      refine g_ [1,2,8,10,11,12] ?_
      refine g_ [1,2,8,10,11,12] ?_
      refine n_ ?_
      refine wpM_regionK [1,2,8,9,10,11,12] rfl fun Q1 hQ1 => ?_
      refine S_ ?_
      refine cp_ (doOf_ok (l.getD i default)) Tryz.call91 ?_
      refine hQ1 _ _ (S_ ?_);clear hQ1 Q1
      refine n_ ?_
      refine wpM_regionK [1,2,8,10,11,12,46] rfl fun Q1 hQ1 => ?_
      refine SD_ ?_
      refine callG (v := .bool (l.getD i default).plain) (fun _ _ hb hk' => ?_) ?_
      · have hb2 := hb
        simp only [Bool.not_eq_true', Bool.or_eq_false_iff] at hb2
        obtain ⟨t, v, fp, hr, q1, q2, q3⟩ := do_plain _ hb2.2
        exact inv_p (args := [.agg (l.getD i default).cs]) q3 q1 q2 rfl rfl (by simp -implicitDefEqProofs (disch := omega) only [go_sem, hb, gd_of hb, hr]) (by simp -implicitDefEqProofs (disch := omega) only [go_sem, hb, gd_of hb]) hk'
      refine SD_ ?_
      first | refine cg_ (fun hb => iexprOk_ok (l.getD i default).e (by omega)) Tryz.call134 ?_ | refine cpD_ (iexprOk_ok (l.getD i default).e (by omega)) Tryz.call134 ?_
      refine hQ1 _ _ (S_ ?_);clear hQ1 Q1
      refine c_ (fun hc1 => ?_) fun hc1 => ?_
      ·
        refine g_ [6] ?_
        refine wpM_ret ?_
        try refine S_ ?_
        refine hQ _ _ (ret0 [(id, some (.cells 3 [.int .i64 ((ci + 1 : Nat) : Int)]))] rfl rfl rfl (by rw [Tryz.results88] <;> simp (maxSteps := 1000000) -implicitDefEqProofs (disch := omega) only [go_sem] <;> rfl) ⟨none, ci + 1, ?_, by omega, fun k hk => (by cases hk), rfl⟩ ?_ ?_ ?_ ?_)
        · refine Sm.visL_none (i := i + 1) ?_
          rw [Sm.visL_take l d c i hi2, hv]
          have hbad : badS ((ci : Int) + 1) (d : Int) (l.getD i default) = true := hc1
          simp only [Sm.vis_eq, hbad, if_true]
        all_goals simp -implicitDefEqProofs (disch := omega) only [go_sem, true_or, or_true]
        rfl
      have hbad : badS ((ci : Int) + 1) (d : Int) (l.getD i default) = false := hc1
      have hdd : d + 1 ≤ 4 := by
        simp only [badS, Bool.or_eq_false_iff, decide_eq_false_iff_not] at hbad; omega
      have hcc : ci + 1 ≤ 16 := by
        simp only [badS, Bool.or_eq_false_iff, decide_eq_false_iff_not] at hbad; omega
      refine n_ ?_
      refine wpM_regionK [1,2,10,11,12,62] rfl fun Q1 hQ1 => ?_
      refine SD_ ?_
      refine call_fn (l := [(id, .cells 3 [.int .i64 ((ci + 1 : Nat) : Int)])]) (first := []) (cap := []) (ps := [.rows 79 (Sm.csL (l.getD i default).th), .int .i64 ((d + 1 : Nat) : Int), .ptr id 0]) (ih (l.getD i default).th (by omega) (by omega) (d + 1) (ci + 1) hdd hcc) Tryz.call88 rfl rfl rfl (by simp -implicitDefEqProofs (disch := omega) only [go_sem] <;> rfl) (by simp -implicitDefEqProofs (disch := omega) only [go_sem] <;> rfl) ?_
      rintro out ⟨r1, c1, hr1, hc1', hk1, rfl⟩
      rcases r1 with _ | k1
      · refine S_ ?_
        refine hQ1 _ _ (S_ ?_)
        refine c1_ ?_
        refine g_ [6] ?_
        refine n_ ?_
        refine wpM_ret ?_
        try refine S_ ?_
        refine hQ _ _ (ret0 [(id, some (.cells 3 [.int .i64 (c1 : Nat)]))] rfl rfl rfl (by rw [Tryz.results88] <;> simp (maxSteps := 1000000) -implicitDefEqProofs (disch := omega) only [go_sem] <;> rfl) ⟨none, c1, ?_, hc1', fun k hk => (by cases hk), rfl⟩ ?_ ?_ ?_ ?_)
        · refine Sm.visL_none (i := i + 1) ?_
          rw [Sm.visL_take l d c i hi2, hv]
          simp only [Sm.vis_eq, hbad, hr1, Bool.false_eq_true, if_false]
        all_goals simp -implicitDefEqProofs (disch := omega) only [go_sem, true_or, or_true]
      obtain ⟨rfl, hk1⟩ := hk1 k1 rfl
      refine SD_ ?_
      refine call_fn (l := [(id, .cells 3 [.int .i64 (c1 : Nat)])]) (first := []) (cap := []) (ps := [.rows 79 (Sm.csL (l.getD i default).el), .int .i64 ((d + 1 : Nat) : Int), .ptr id 0]) (ih (l.getD i default).el (by omega) (by omega) (d + 1) c1 hdd hk1) Tryz.call88 rfl rfl rfl (by simp -implicitDefEqProofs (disch := omega) only [go_sem] <;> rfl) T_ ?_
      rintro out ⟨r2, c2, hr2, hc2', hk2, rfl⟩
      refine SD_ ?_
      refine hQ1 _ _ (S_ ?_);clear hQ1 Q1
      refine c_ (fun hc2 => ?_) fun hc2 => ?_
      ·
        refine g_ [6] ?_
        refine wpM_ret ?_
        try refine S_ ?_
        obtain rfl : r2 = none := by
          cases r2 with
          | none => rfl
          | some k2 => simp at hc2
        refine hQ _ _ (ret0 [(id, some (.cells 3 [.int .i64 (c2 : Nat)]))] rfl rfl rfl (by rw [Tryz.results88] <;> simp (maxSteps := 1000000) -implicitDefEqProofs (disch := omega) only [go_sem] <;> rfl) ⟨none, c2, ?_, hc2', fun k hk => (by cases hk), rfl⟩ ?_ ?_ ?_ ?_)
        · refine Sm.visL_none (i := i + 1) ?_
          rw [Sm.visL_take l d c i hi2, hv]
          simp only [Sm.vis_eq, hbad, hr1, hr2, Bool.false_eq_true, if_false]
        all_goals simp -implicitDefEqProofs (disch := omega) only [go_sem, true_or, or_true]
      refine g_ [1,2,10,11,12] ?_
      obtain ⟨k2, rfl⟩ : ∃ k2, r2 = some k2 := by
        cases r2 with
        | none => simp at hc2
        | some k2 => exact ⟨k2, rfl⟩
      obtain ⟨rfl, hk2⟩ := hk2 k2 rfl
      refine .of' _ _ ⟨n - 1, by omega, i + 1, _, c2, by omega, ?_, ?_, hk2, rfl⟩ ?_ ?_ ?_
      · exact M_
      · rw [Sm.visL_take l d c i hi2, hv]
        simp only [Sm.vis_eq, hbad, hr1, hr2, Bool.false_eq_true, if_false]
      all_goals exact L_
    refine g_ [6] ?_
    refine wpM_ret ?_
    try refine S_ ?_
    obtain rfl : i = l.length := by omega
    rw [List.take_of_length_le (Nat.le_refl _)] at hv
    refine hQ _ _ (ret0 [(id, some (.cells 3 [.int .i64 (ci : Nat)]))] rfl rfl rfl (by rw [Tryz.results88] <;> simp (maxSteps := 1000000) -implicitDefEqProofs (disch := omega) only [go_sem] <;> rfl) ⟨some ci, ci, hv, by omega, fun k hk => (by injection hk with hk; omega), rfl⟩ ?_ ?_ ?_ ?_)
    all_goals simp -implicitDefEqProofs (disch := omega) only [go_sem, true_or, or_true]
end Go.Proofs.YtnmfmeehmieifaaGreat
namespace Go.Proofs.YtnmfmeehmieifaaGreat
open Go Sg
set_option maxRecDepth 100000
set_option linter.unusedSimpArgs false
set_option linter.unusedVariables false
set_option linter.unusedSectionVars false
set_option maxHeartbeats 4000000
variable [Glob]
end Go.Proofs.YtnmfmeehmieifaaGreat
namespace Go.Proofs.YtnmfmeehmieifaaGreat
open Go Sg
set_option maxRecDepth 100000
set_option linter.unusedSimpArgs false
set_option linter.unusedVariables false
set_option linter.unusedSectionVars false
set_option maxHeartbeats 4000000
variable [Glob]
def wh (c : MM → Bool) (b : MM → Nat → MM × Nat × Bool) : Nat → MM → Nat → MM × Nat × Bool
  | 0, m, _ => (m, 0, true)
  | g + 1, m, F => if c m then (if (b m F).2.2 then b m F else if (b m F).2.1 = 0 then ((b m F).1, 0, true) else wh c b g (b m F).1 ((b m F).2.1 - 1)) else (m, F, false)
mutual
def Sm.ex : Sm → MM → Nat → MM × Nat × Bool
  | .mk k a e th el, m, F => if k == 1 then (m.put a (e.of m), F, false)
    else if k == 3 then wh (fun m => e.of m != 0) (fun m F => Sm.exL th m F) (F + 1) m F
    else if e.of m != 0 then Sm.exL th m F else Sm.exL el m F
def Sm.exL : List Sm → MM → Nat → MM × Nat × Bool
  | [], m, F => (m, F, false)
  | s :: l, m, F => if (s.ex m F).2.2 then s.ex m F else Sm.exL l (s.ex m F).1 (s.ex m F).2.1
end
theorem wh_le {c : MM → Bool} {b : MM → Nat → MM × Nat × Bool} (h : ∀ m F, (b m F).2.1 ≤ F) : ∀ g m F, (wh c b g m F).2.1 ≤ F
  | 0, m, F => by simp [wh]
  | g + 1, m, F => by
    simp only [wh]
    split
    · split
      · exact h m F
      · split
        · simp
        · exact Nat.le_trans (wh_le h g _ _) (by have := h m F; omega)
    · simp
theorem wh_six {c : MM → Bool} {b : MM → Nat → MM × Nat × Bool} (h : ∀ m F, m.Six → (b m F).1.Six) : ∀ g m F, m.Six → (wh c b g m F).1.Six
  | 0, m, F => fun hm => hm
  | g + 1, m, F => fun hm => by
    simp only [wh]
    split
    · split
      · exact h m F hm
      · split
        · exact h m F hm
        · exact wh_six h g _ _ (h m F hm)
    · exact hm
mutual
theorem Sm.ex_le : (s : Sm) → (m : MM) → (F : Nat) → (s.ex m F).2.1 ≤ F
  | .mk k a e th el, m, F => by
    simp only [Sm.ex]
    split
    · simp
    · split
      · exact wh_le (fun m F => Sm.exL_le th m F) _ _ _
      · split
        · exact Sm.exL_le th m F
        · exact Sm.exL_le el m F
theorem Sm.exL_le : (l : List Sm) → (m : MM) → (F : Nat) → (Sm.exL l m F).2.1 ≤ F
  | [], m, F => by simp [Sm.exL]
  | s :: l, m, F => by
    simp only [Sm.exL]
    split
    · exact Sm.ex_le s m F
    · exact Nat.le_trans (Sm.exL_le l _ _) (Sm.ex_le s m F)
end
mutual
theorem Sm.ex_six : (s : Sm) → (m : MM) → (F : Nat) → m.Six → (s.ex m F).1.Six
  | .mk k a e th el, m, F => fun hm => by
    simp only [Sm.ex]
    split
    · exact MM.put_six hm _ _
    · split
      · exact wh_six (fun m F hm => Sm.exL_six th m F hm) _ _ _ hm
      · split
        · exact Sm.exL_six th m F hm
        · exact Sm.exL_six el m F hm
theorem Sm.exL_six : (l : List Sm) → (m : MM) → (F : Nat) → m.Six → (Sm.exL l m F).1.Six
  | [], m, F => fun hm => hm
  | s :: l, m, F => fun hm => by
    simp only [Sm.exL]
    split
    · exact Sm.ex_six s m F hm
    · exact Sm.exL_six l _ _ (Sm.ex_six s m F hm)
end
theorem pair3 {x : MM × Nat × Bool} (h : x.2.2 = false) : (x.1, x.2.1, false) = x := by rw [← h]
theorem Sm.exL_app (l r : List Sm) (m : MM) (F : Nat) : Sm.exL (l ++ r) m F = if (Sm.exL l m F).2.2 then Sm.exL l m F else Sm.exL r (Sm.exL l m F).1 (Sm.exL l m F).2.1 := by
  induction l generalizing m F with
  | nil => simp [Sm.exL]
  | cons s l ih =>
    simp only [List.cons_append, Sm.exL]
    split
    · rfl
    · rw [ih]
theorem Sm.exL_take (l : List Sm) (m : MM) (F i : Nat) (h : i < l.length) : Sm.exL (l.take (i + 1)) m F = if (Sm.exL (l.take i) m F).2.2 then Sm.exL (l.take i) m F else (l.getD i default).ex (Sm.exL (l.take i) m F).1 (Sm.exL (l.take i) m F).2.1 := by
  rw [List.take_succ_eq_append_getElem h, Sm.exL_app]
  split
  · rfl
  · simp only [Sm.exL, List.getD, List.getElem?_eq_getElem h, Option.getD_some]
    split
    · rfl
    · rename_i h1; rw [Bool.not_eq_true] at h1; exact pair3 h1
theorem formS_at {d : Nat} {l : List Sm} (h : formS d l = true) {i : Nat} (hi : i < l.length) : (l.getD i default).plain = true ∧ (l.getD i default).e.ok = true ∧ ∃ d', formS d' (l.getD i default).th = true ∧ formS d' (l.getD i default).el = true := by
  cases d with
  | zero => simp only [formS, beq_iff_eq] at h; omega
  | succ d =>
    simp only [formS, List.all_eq_true] at h
    have := h (l.getD i default) (by simp [List.getD, hi])
    simp only [Bool.and_eq_true] at this
    exact ⟨this.1.1.1, this.1.1.2, d, this.1.2, this.2⟩
theorem ok_form {e : Ex} (h : e.ok = true) : formD 6 e = true := by
  simp only [Ex.ok, Bool.and_eq_true] at h; first | exact h.1 | exact h.2
def rfoot (r id F : Nat) (m : MM) : List (Nat × AObj) := [(r, .cells 280 [.ptr id 0, .int .i64 (F : Int)]), (id, .cells 193 (ints m.flat))]
@[go_sem] theorem rfoot_eq (r id F : Nat) (m : MM) : rfoot r id F m = [(r, .cells 280 [.ptr id 0, .int .i64 (F : Int)]), (id, .cells 193 (ints m.flat))] := rfl
def ru (r id : Nat) (x : MM × Nat × Bool) : List (Nat × Option AObj) := [(r, some (.cells 280 [.ptr id 0, .int .i64 (x.2.1 : Int)])), (id, some (.cells 193 (ints x.1.flat)))]
@[go_sem] theorem ru_eq (r id : Nat) (x : MM × Nat × Bool) : ru r id x = [(r, some (.cells 280 [.ptr id 0, .int .i64 (x.2.1 : Int)])), (id, some (.cells 193 (ints x.1.flat)))] := rfl
end Go.Proofs.YtnmfmeehmieifaaGreat
namespace Go.Proofs.YtnmfmeehmieifaaGreat
open Go Sg
set_option maxRecDepth 100000
set_option linter.unusedSimpArgs false
set_option linter.unusedVariables false
set_option linter.unusedSectionVars false
set_option maxHeartbeats 4000000
variable [Glob]
theorem badS_eq (n d : Int) (s : Sm) : badS n d s = (decide (n > 16) || decide (d ≥ 4) || !(s.plain && s.e.ok)) := by
  unfold badS
  rw [vis_ok]
  cases hp : s.plain
  · simp
  · have : doNil s = false := by
      unfold Sm.plain at hp
      unfold doNil
      cases h1 : s.kind == 1 <;> cases h2 : s.kind == 2 <;> cases h3 : s.kind == 3 <;> simp_all
    rw [this]
    cases s.e.ok <;> simp
theorem manyS_cons (k : Nat) (s : Sm) (l : List Sm) : manyS (k + 1) (s :: l) = 1 + manyS k s.th + manyS k s.el + manyS (k + 1) l := by
  simp only [manyS, List.length_cons, List.map_cons, List.sum_cons]; omega
theorem formS_cons (k : Nat) (s : Sm) (l : List Sm) : formS (k + 1) (s :: l) = (s.plain && s.e.ok && formS k s.th && formS k s.el && formS (k + 1) l) := by
  simp only [formS, List.all_cons]
theorem manyS_nil (k : Nat) : manyS k [] = 0 := by cases k <;> rfl
theorem formS_nil (k : Nat) : formS k [] = true := by cases k <;> rfl
theorem visL_eq (k : Nat) : ∀ (l : List Sm) (d c : Nat), d + k = 4 → c ≤ 16 → Sm.visL l d c = if formS k l = true ∧ c + manyS k l ≤ 16 then some (c + manyS k l) else none := by
  induction k with
  | zero =>
    intro l d c hd hc
    cases l with
    | nil => simp [Sm.visL, formS, manyS, hc]
    | cons s l =>
      simp only [Sm.visL, Sm.vis_eq, badS_eq]
      have : decide ((d : Int) ≥ 4) = true := by simp; omega
      simp [this, formS]
  | succ k ih =>
    intro l
    induction l with
    | nil => intro d c hd hc; simp [Sm.visL, formS_nil, manyS_nil, hc]
    | cons s l ihl =>
      intro d c hd hc
      simp only [Sm.visL, Sm.vis_eq, badS_eq]
      have hd4 : decide ((d : Int) ≥ 4) = false := by simp; omega
      rw [manyS_cons, formS_cons, hd4, Bool.or_false]
      by_cases h16 : c + 1 > 16
      · have : decide (((c : Int) + 1) > 16) = true := by simp; omega
        rw [this, Bool.true_or, if_pos rfl, if_neg (by omega)]
      · have : decide (((c : Int) + 1) > 16) = false := by simp; omega
        rw [this, Bool.false_or]
        cases hp : (s.plain && s.e.ok)
        · simp
        · simp only [Bool.not_true, Bool.false_eq_true, if_false, Bool.true_and]
          rw [ih s.th (d + 1) (c + 1) (by omega) (by omega)]
          by_cases h1 : formS k s.th = true ∧ c + 1 + manyS k s.th ≤ 16
          · rw [if_pos h1]
            dsimp only
            rw [ih s.el (d + 1) _ (by omega) h1.2]
            by_cases h2 : formS k s.el = true ∧ c + 1 + manyS k s.th + manyS k s.el ≤ 16
            · rw [if_pos h2]
              dsimp only
              rw [ihl d _ hd h2.2]
              rw [h1.1, h2.1]
              simp only [Bool.true_and]
              have e : c + 1 + manyS k s.th + manyS k s.el + manyS (k + 1) l = c + (1 + manyS k s.th + manyS k s.el + manyS (k + 1) l) := by omega
              rw [e]
            · rw [if_neg h2, if_neg]
              rintro ⟨g1, g2⟩
              simp only [Bool.and_eq_true] at g1
              exact h2 ⟨g1.1.2, by omega⟩
          · rw [if_neg h1, if_neg]
            rintro ⟨g1, g2⟩
            simp only [Bool.and_eq_true] at g1
            exact h1 ⟨g1.1.1, by omega⟩
theorem visL_ok (l : List Sm) : Sm.visL l 0 0 = if okS l = true then some (manyS 4 l) else none := by
  rw [visL_eq 4 l 0 0 rfl (by omega)]
  simp only [Nat.zero_add, okS, Bool.and_eq_true, decide_eq_true_eq, and_comm]
theorem visL_is (l : List Sm) : (Sm.visL l 0 0).isSome = okS l := by
  rw [visL_ok]; cases okS l <;> rfl
theorem istmtsOk_ok (l : List Sm) (hs : Sm.szL l ≤ 1099511627776) : PureF Tryz.prog 42 [.rows 79 (Sm.csL l)] [.bool (okS l)] := by
  refine pureF_of Tryz.func42 rfl Tryz.ntmps42 (by simp) T_ ?_
  intro f0 B Q hQ
  have hv := visL_is l
  refine g_ [0] ?_
  refine g_ [0,3] ?_
  refine n_ ?_
  refine wpM_regionK [2] rfl fun Q1 hQ1 => ?_
  refine S_ ?_
  refine call_fn (l := [(B, .cells 3 [.int .i64 ((0 : Nat) : Int)])]) (first := []) (cap := []) (ps := [.rows 79 (Sm.csL l), .int .i64 ((0 : Nat) : Int), .ptr B 0]) (count_ok B _ l (Nat.le_refl _) hs 0 0 (by omega) (by omega)) Tryz.call88 rfl rfl rfl G_ (by simp -implicitDefEqProofs (disch := omega) only [go_sem, Int.natCast_zero]) ?_
  rintro out ⟨r1, c1, hr1, hc1, hk1, rfl⟩
  refine S_ ?_
  refine hQ1 _ _ (S_ ?_);clear hQ1 Q1
  refine e_ Tryz.results42 ?_
  first
  | exact True.intro
  | rw [← hr1, hv]
end Go.Proofs.YtnmfmeehmieifaaGreat
namespace Go.Proofs.YtnmfmeehmieifaaGreat
open Go Sg
set_option maxRecDepth 100000
set_option linter.unusedSimpArgs false
set_option linter.unusedVariables false
set_option linter.unusedSectionVars false
set_option maxHeartbeats 4000000
variable [Glob]
end Go.Proofs.YtnmfmeehmieifaaGreat
namespace Go.Proofs.YtnmfmeehmieifaaGreat
open Go Sg
set_option maxRecDepth 100000
set_option linter.unusedSimpArgs false
set_option linter.unusedVariables false
set_option linter.unusedSectionVars false
set_option maxHeartbeats 4000000
variable [Glob]
theorem Ex.ext' {a b : Ex} (h1 : a.kind = b.kind) (h2 : a.n = b.n) (h3 : a.a = b.a) (h4 : a.kids = b.kids) : a = b := by
  cases a; cases b
  simp only [Ex.kind, Ex.n, Ex.a, Ex.kids] at h1 h2 h3 h4
  subst h1; subst h2; subst h3; subst h4; rfl
open Classical in
noncomputable def same {α : Type} (a b : α) : Bool := decide (a = b)
theorem same_iff {α : Type} {a b : α} : same a b = true ↔ a = b := by simp [same]
theorem same_no {α : Type} {a b : α} (h : a ≠ b) : same a b = false := by simp [same, h]
theorem same_self {α : Type} (a : α) : same a a = true := by simp [same]
theorem eqfE_ok (a b : List Ex) (fid : Nat) (p : Ex → Ex → Bool) (ha : a.length ≤ 1099511627776) (henter : ∀ args w, (callFunc fid args).run Tryz.prog w = .ok (.enter fid args) w)
    (hf : ∀ i, i < a.length → i < b.length → PureF Tryz.prog fid [.agg (a.getD i default).cs, .agg (b.getD i default).cs] [.bool (p (a.getD i default) (b.getD i default))]) :
    PureF Tryz.prog 184 [.rows 77 (Ex.csL a), .rows 77 (Ex.csL b), .fn (.func fid) [] []] [.bool (a.length == b.length && (List.range a.length).all fun i => p (a.getD i default) (b.getD i default))] := by
  refine pureF_of Tryz.func184 rfl Tryz.ntmps184 (by simp) T_ ?_
  intro f0 B Q hQ
  refine g_ [0,1,2] ?_
  refine g_ [0,1,2,14] ?_
  refine c_ (fun hc0 => ?_) fun hc0 => ?_
  ·
    refine g_ [6] ?_
    refine e_ Tryz.results184 ?_
    first
    | exact True.intro
    | simp at hc0
      rw [beq_eq_false_iff_ne.2 (by omega)]; rfl
  have hab : a.length = b.length := by simp at hc0; omega
  refine g_ [1,2,15,16,17] ?_
  refine n_ ?_
  refine wpM_loopS (fun s n s' => ∃ (i0 M0 : Nat) , i0 + n = a.length ∧ s.M ≤ M0 ∧ ((List.range i0).all (fun i => p (a.getD i default) (b.getD i default)) = true) ∧ s' = { s with env := setE 17 (.int .i64 (i0 : Nat)) s.env, M := M0 }) (a.length) ?_ ?_
  ·
    refine .of' _ _ ⟨0, _, by omega, Nat.le_refl _, by simp, rfl⟩ ?_ ?_ ?_ <;> exact L_
  rintro n0 s' ⟨i0, M0, hi0, hM0, hv0, rfl⟩
  try dsimp only at hM0
  try refine S_ ?_
  refine g_ [1,2,15,16,17,18] ?_
  refine c_ (fun hc1 => ?_) fun hc1 => ?_
  ·
    have hl0 : i0 < a.length := by omega
    refine g_ [1,2,7,8,15,16,17] ?_
    refine g_ [1,2,8,9,15,16,17] ?_
    refine n_ ?_
    refine wpM_regionK [1,2,15,16,17,30] rfl fun Q1 hQ1 => ?_
    refine S_ ?_
    refine call_cap (l := []) (cap := []) (args := [.agg (a.getD i0 default).cs, .agg (b.getD i0 default).cs]) (hf i0 hl0 (by omega)) (fun i o h => by simp [lk] at h) henter rfl rfl T_ T_ ?_
    refine S_ ?_
    refine hQ1 _ _ (S_ ?_);clear hQ1 Q1
    refine c_ (fun hc2 => ?_) fun hc2 => ?_
    ·
      refine g_ [6] ?_
      refine e_ Tryz.results184 ?_
      first
      | exact True.intro
      | have h2 : (!p (a.getD i0 default) (b.getD i0 default)) = true := hc2
        rw [range_no hl0 (by simpa using h2)]
        simp
    refine g_ [1,2,15,16,17] ?_
    refine .of' _ _ ⟨n0 - 1, by omega, i0 + 1, _, by omega, M_, ?_, rfl⟩ L_ L_ L_
    have h2 : (!p (a.getD i0 default) (b.getD i0 default)) = false := hc2
    rw [range_all, hv0]; simpa using h2
  refine g_ [6] ?_
  refine e_ Tryz.results184 ?_
  first
  | exact True.intro
  | have h1 : i0 = a.length := by omega
    rw [← h1, hv0]; simp; omega
theorem range_ext {α : Type} [Inhabited α] {a b : List α} (h : a.length = b.length) (p : α → α → Bool) (hp : ∀ i, i < a.length → p (a.getD i default) (b.getD i default) = same (a.getD i default) (b.getD i default)) : (List.range a.length).all (fun i => p (a.getD i default) (b.getD i default)) = same a b := by
  by_cases hab : a = b
  · subst hab
    rw [same_self, List.all_eq_true]
    intro i hi
    rw [hp i (List.mem_range.1 hi), same_self]
  · rw [same_no hab, Bool.eq_false_iff]
    intro hall
    rw [List.all_eq_true] at hall
    refine hab (List.ext_getElem h fun i h1 h2 => ?_)
    have := hall i (List.mem_range.2 h1)
    rw [hp i h1, same_iff] at this
    simpa [List.getD, h1, h2] using this
theorem same_ex (a b : Ex) : (a.kind == b.kind && a.n == b.n && (a.a.kind == b.a.kind && a.a.at' == b.a.at') && (a.kids.length == b.kids.length && (List.range a.kids.length).all fun i => same (a.kids.getD i default) (b.kids.getD i default))) = same a b := by
  by_cases hl : a.kids.length = b.kids.length
  · rw [range_ext hl same fun _ _ => rfl, Bool.eq_iff_iff]
    simp only [Bool.and_eq_true, beq_iff_eq, same_iff]
    constructor
    · rintro ⟨⟨⟨h1, h2⟩, h3, h4⟩, _, h5⟩
      refine Ex.ext' h1 h2 ?_ h5
      cases hx : a.a; cases hy : b.a
      rw [hx, hy] at h3 h4
      simp only at h3 h4
      rw [h3, h4]
    · rintro rfl
      simp
  · rw [same_no (fun h => hl (by rw [h]))]
    have : (a.kids.length == b.kids.length) = false := by simpa using hl
    rw [this]; simp
theorem ialike_ok : ∀ (N : Nat) (a b : Ex), a.sz ≤ N → a.sz ≤ 1099511627776 → PureF Tryz.prog 182 [.agg a.cs, .agg b.cs] [.bool (same a b)] := by
  intro N
  induction N with
  | zero => intro e b h; have := e.sz_pos; omega
  | succ N ih =>
    intro a b hN hs
    have hlen := a.kids_len
    refine pureF_of Tryz.func182 rfl Tryz.ntmps182 (by simp) T_ ?_
    intro f0 B Q hQ
    refine g_ [2,3] ?_
    refine n_ ?_
    refine wpM_regionK [4] rfl fun Q1 hQ1 => ?_
    refine SD_ ?_
    first | refine cg_ (fun hb => eqfE_ok a.kids b.kids 182 same (by omega) Tryz.call182 (fun i h1 h2 => ih _ _ (by have := Ex.kid_sz (e := a) h1; omega) (by have := Ex.kid_sz (e := a) h1; omega))) Tryz.call184 ?_ | refine cpD_ (eqfE_ok a.kids b.kids 182 same (by omega) Tryz.call182 (fun i h1 h2 => ih _ _ (by have := Ex.kid_sz (e := a) h1; omega) (by have := Ex.kid_sz (e := a) h1; omega))) Tryz.call184 ?_
    refine hQ1 _ _ (S_ ?_);clear hQ1 Q1
    refine e_ Tryz.results182 ?_
    first
    | exact True.intro
    | first | (rw [← same_ex]; done) | (rw [← same_ex]; simp only [Bool.and_assoc])
theorem form_len {d : Nat} {e : Ex} (h : formD (d + 1) e = true) : (e.kids.length = 0 ∧ (e.kind = 1 ∨ e.kind = 2)) ∨ (e.kids.length = 1 ∧ e.kind = 10) ∨ (e.kids.length = 2 ∧ 3 ≤ e.kind ∧ e.kind ≤ 9) := by
  have := (form_inv h).1
  unfold kidsN at this
  split at this
  · rename_i h1; simp at h1; left; exact ⟨by omega, h1⟩
  · split at this
    · rename_i h1 h2; simp at h2; right; left; exact ⟨by omega, h2⟩
    · split at this
      · rename_i h1 h2 h3; simp at h3; right; right; exact ⟨by omega, h3⟩
      · omega
end Go.Proofs.YtnmfmeehmieifaaGreat
namespace Go.Proofs.YtnmfmeehmieifaaGreat
open Go Sg
set_option maxRecDepth 100000
set_option linter.unusedSimpArgs false
set_option linter.unusedVariables false
set_option linter.unusedSectionVars false
set_option maxHeartbeats 4000000
variable [Glob]
def numX (n : Int) : Ex := .mk 1 n ⟨0, 0⟩ []
def noX : Ex := .mk 0 0 ⟨0, 0⟩ []
def Ex.isN (e : Ex) (n : Int) : Bool := e.kind == 1 && e.n == n
noncomputable def slim2 (e a b : Ex) : Ex :=
  if a.kind == 1 && b.kind == 1 then numX (two e.kind a.n b.n)
  else if e.kind == 3 && b.isN 0 || e.kind == 4 && b.isN 0 || e.kind == 5 && b.isN 1 then a
  else if e.kind == 3 && a.isN 0 || e.kind == 5 && a.isN 1 then b
  else if e.kind == 5 && (a.isN 0 || b.isN 0) || e.kind == 8 && (a.isN 0 || b.isN 0) then numX 0
  else if e.kind == 7 && same a b then numX 1
  else if (e.kind == 6 || e.kind == 4) && same a b then numX 0
  else e
noncomputable def slimN (e : Ex) : Ex :=
  if e.kind == 10 && (e.kids.getD 0 default).kind == 1 then numX (numIs (!((e.kids.getD 0 default).n != 0)))
  else if (e.kids.length : Int) == 2 then slim2 e (e.kids.getD 0 default) (e.kids.getD 1 default) else e
mutual
noncomputable def Ex.slim : Ex → Ex
  | .mk k n a l => slimN (.mk k n a (Ex.slimL l))
noncomputable def Ex.slimL : List Ex → List Ex
  | [] => []
  | e :: l => e.slim :: Ex.slimL l
end
theorem Ex.slimL_map (l : List Ex) : Ex.slimL l = l.map Ex.slim := by
  induction l with
  | nil => rfl
  | cons e l ih => simp [Ex.slimL, ih]
theorem Ex.slim_eq (e : Ex) : e.slim = slimN (.mk e.kind e.n e.a (Ex.slimL e.kids)) := by cases e; simp only [Ex.slim, Ex.kind, Ex.n, Ex.a, Ex.kids]
def Sm.no (s : Sm) : Bool := (s.kind == 1 && s.e.kind == 2 && (s.e.a.kind == s.to'.kind && s.e.a.at' == s.to'.at')) || (s.kind == 3 && s.e.isN 0) || (s.kind == 2 && (s.th.length : Int) == 0 && (s.el.length : Int) == 0)
def rb (s : Sm) : List Sm := if s.no then [] else if s.kind == 2 && s.e.kind == 1 && s.e.n != 0 then s.th else if s.kind == 2 && s.e.kind == 1 then s.el else [s]
mutual
noncomputable def Sm.sl : Sm → List Sm
  | .mk k a e th el => rb (.mk k a e.slim (Sm.slL th) (Sm.slL el))
noncomputable def Sm.slL : List Sm → List Sm
  | [] => []
  | s :: l => s.sl ++ Sm.slL l
end
noncomputable def Sm.inn (s : Sm) : Sm := .mk s.kind s.to' s.e.slim (Sm.slL s.th) (Sm.slL s.el)
theorem Sm.sl_eq (s : Sm) : s.sl = rb s.inn := by cases s; simp only [Sm.sl, Sm.inn, Sm.kind, Sm.to', Sm.e, Sm.th, Sm.el]
theorem Sm.slL_app (l r : List Sm) : Sm.slL (l ++ r) = Sm.slL l ++ Sm.slL r := by
  induction l with
  | nil => rfl
  | cons s l ih => simp only [List.cons_append, Sm.slL, ih, List.append_assoc]
theorem Sm.slL_take (l : List Sm) (i : Nat) (h : i < l.length) : Sm.slL (l.take (i + 1)) = Sm.slL (l.take i) ++ (l.getD i default).sl := by
  rw [List.take_succ_eq_append_getElem h, Sm.slL_app]
  simp [Sm.slL, List.getD, h]
theorem form_up (d : Nat) : ∀ e : Ex, formD d e = true → formD (d + 1) e = true := by
  induction d with
  | zero => intro e h; cases h
  | succ d ih =>
    intro e h
    rw [formD] at h ⊢
    split at h
    · cases h
    · rename_i h1
      rw [if_neg h1]
      split at h
      · cases h
      · rename_i h2
        rw [if_neg h2]
        split at h
        · cases h
        · rename_i h3
          rw [if_neg h3]
          rw [List.all_eq_true] at h ⊢
          exact fun x hx => ih x (h x hx)
theorem cut_cut' (n : Int) : cut (cut n) = cut n := by unfold cut; omega
theorem cut_numIs (b : Bool) : cut (numIs b) = numIs b := by cases b <;> rfl
theorem cut_two (k a b : Int) : cut (two k a b) = two k a b := by
  unfold two
  repeat' split
  all_goals first | exact cut_cut' _ | exact cut_numIs _
theorem form_num {n : Int} (h : cut n = n) (d : Nat) : formD (d + 1) (numX n) = true := by
  rw [formD]
  show (if _ then false else if _ then false else if _ then false else _) = true
  rw [if_neg (by simp [numX, Ex.kind, Ex.kids, kidsN]), if_neg (by simp [numX, Ex.kind, Ex.n, h]), if_neg (by simp [numX, Ex.kind, Ex.a])]
  rfl
theorem form_kids {d : Nat} {e : Ex} {l : List Ex} (h : formD (d + 1) e = true) (hl : l.length = e.kids.length) (hk : l.all (formD d) = true) : formD (d + 1) (.mk e.kind e.n e.a l) = true := by
  rw [formD] at h ⊢
  show (if kidsN e.kind != (l.length : Int) then false else if (e.kind == 1 && cut e.n != e.n) || (e.kind != 1 && e.n != 0) then false else if (e.kind == 2 && !e.a.ok) || (e.kind != 2 && !(e.a.kind == 0 && e.a.at' == 0)) then false else l.all (formD d)) = true
  rw [hl]
  split at h
  · cases h
  · rename_i h1
    rw [if_neg h1]
    split at h
    · cases h
    · rename_i h2
      rw [if_neg h2]
      split at h
      · cases h
      · rename_i h3
        rw [if_neg h3]; exact hk
theorem slim2_form {d : Nat} {e : Ex} (h : formD (d + 1) e = true) (h0 : formD d (e.kids.getD 0 default) = true) (h1 : formD d (e.kids.getD 1 default) = true) : formD (d + 1) (slim2 e (e.kids.getD 0 default) (e.kids.getD 1 default)) = true := by
  unfold slim2
  repeat' split
  all_goals first | exact form_num (cut_two _ _ _) _ | exact form_num (by decide) _ | exact form_up _ _ h0 | exact form_up _ _ h1 | exact h
theorem slimN_form {d : Nat} {e : Ex} (h : formD (d + 1) e = true) : formD (d + 1) (slimN e) = true := by
  unfold slimN
  split
  · exact form_num (cut_numIs _) _
  · split
    · rename_i h2
      have h2' : e.kids.length = 2 := by simp at h2; omega
      exact slim2_form h ((form_inv h).2.2 0 (by omega)) ((form_inv h).2.2 1 (by omega))
    · exact h
theorem slim_form (d : Nat) : ∀ e : Ex, formD d e = true → formD d e.slim = true := by
  induction d with
  | zero => intro e h; cases h
  | succ d ih =>
    intro e h
    rw [Ex.slim_eq]
    refine slimN_form (form_kids h (by rw [Ex.slimL_map, List.length_map]) ?_)
    rw [Ex.slimL_map, List.all_map]
    rw [List.all_eq_true]
    intro x hx
    obtain ⟨i, hi, rfl⟩ := List.getElem_of_mem hx
    have := (form_inv h).2.2 i hi
    rw [List.getD_eq_getElem?_getD, List.getElem?_eq_getElem hi] at this
    exact ih _ this
noncomputable def Ex.node (e : Ex) : Ex := .mk e.kind e.n e.a (Ex.slimL e.kids)
theorem node_form {d : Nat} {e : Ex} (h : formD (d + 1) e = true) : formD (d + 1) e.node = true := by
  refine form_kids h (by rw [Ex.slimL_map, List.length_map]) ?_
  rw [Ex.slimL_map, List.all_map, List.all_eq_true]
  intro x hx
  obtain ⟨i, hi, rfl⟩ := List.getElem_of_mem hx
  have := (form_inv h).2.2 i hi
  rw [List.getD_eq_getElem?_getD, List.getElem?_eq_getElem hi] at this
  exact slim_form _ _ this
theorem Ex.slim_node (e : Ex) : e.slim = slimN e.node := e.slim_eq
theorem slim2_sz {e : Ex} (h : e.kids.length = 2) : (slim2 e (e.kids.getD 0 default) (e.kids.getD 1 default)).sz ≤ e.sz := by
  have h0 := Ex.kid_sz (e := e) (k := 0) (by omega)
  have h1 := Ex.kid_sz (e := e) (k := 1) (by omega)
  have hn : ∀ n, (numX n).sz = 1 := fun n => by simp [numX, Ex.sz, Ex.szL]
  unfold slim2
  repeat' split
  all_goals first | omega | (rw [hn]; omega)
theorem slimN_sz (e : Ex) : (slimN e).sz ≤ e.sz := by
  have hn : ∀ n, (numX n).sz = 1 := fun n => by simp [numX, Ex.sz, Ex.szL]
  have hp := e.sz_pos
  unfold slimN
  split
  · rw [hn]; omega
  · split
    · rename_i h2
      exact slim2_sz (by simp at h2; omega)
    · exact Nat.le_refl _
mutual
theorem Ex.slim_sz : (e : Ex) → e.slim.sz ≤ e.sz
  | .mk k n a l => by
    rw [Ex.slim]
    refine Nat.le_trans (slimN_sz _) ?_
    simp only [Ex.sz]
    have := Ex.slimL_sz l
    omega
theorem Ex.slimL_sz : (l : List Ex) → Ex.szL (Ex.slimL l) ≤ Ex.szL l
  | [] => Nat.le_refl _
  | e :: l => by
    simp only [Ex.slimL, Ex.szL]
    have := Ex.slim_sz e
    have := Ex.slimL_sz l
    omega
end
mutual
def Sm.cnt : Sm → Nat | .mk _ _ _ th el => 1 + Sm.cntL th + Sm.cntL el
def Sm.cntL : List Sm → Nat | [] => 0 | s :: l => s.cnt + Sm.cntL l
end
theorem Sm.cnt_eq (s : Sm) : s.cnt = 1 + Sm.cntL s.th + Sm.cntL s.el := by cases s; simp only [Sm.cnt, Sm.th, Sm.el]
theorem Sm.cntL_app (l r : List Sm) : Sm.cntL (l ++ r) = Sm.cntL l + Sm.cntL r := by
  induction l with
  | nil => simp [Sm.cntL]
  | cons s l ih => simp only [List.cons_append, Sm.cntL, ih]; omega
theorem rb_cnt (s : Sm) : Sm.cntL (rb s) ≤ s.cnt := by
  have := s.cnt_eq
  unfold rb
  repeat' split
  · simp [Sm.cntL]
  · omega
  · omega
  · simp [Sm.cntL]
mutual
theorem Sm.sl_cnt : (s : Sm) → Sm.cntL s.sl ≤ s.cnt
  | .mk k a e th el => by
    rw [Sm.sl]
    refine Nat.le_trans (rb_cnt _) ?_
    simp only [Sm.cnt]
    have := Sm.slL_cnt th
    have := Sm.slL_cnt el
    omega
theorem Sm.slL_cnt : (l : List Sm) → Sm.cntL (Sm.slL l) ≤ Sm.cntL l
  | [] => Nat.le_refl _
  | s :: l => by
    simp only [Sm.slL, Sm.cntL_app, Sm.cntL]
    have := Sm.sl_cnt s
    have := Sm.slL_cnt l
    omega
end
theorem rb_sz (s : Sm) : Sm.szL (rb s) ≤ s.sz := by
  have := s.sz_eq
  unfold rb
  repeat' split
  · simp [Sm.szL]
  · omega
  · omega
  · simp [Sm.szL]
mutual
theorem Sm.sl_sz : (s : Sm) → Sm.szL s.sl ≤ s.sz
  | .mk k a e th el => by
    rw [Sm.sl]
    refine Nat.le_trans (rb_sz _) ?_
    simp only [Sm.sz]
    have := Sm.slL_sz th
    have := Sm.slL_sz el
    have := e.slim_sz
    omega
theorem Sm.slL_sz : (l : List Sm) → Sm.szL (Sm.slL l) ≤ Sm.szL l
  | [] => Nat.le_refl _
  | s :: l => by
    have happ : ∀ a b : List Sm, Sm.szL (a ++ b) = Sm.szL a + Sm.szL b := by
      intro a b
      induction a with
      | nil => simp [Sm.szL]
      | cons s l ih => simp only [List.cons_append, Sm.szL, ih]; omega
    simp only [Sm.slL, happ, Sm.szL]
    have := Sm.sl_sz s
    have := Sm.slL_sz l
    omega
end
end Go.Proofs.YtnmfmeehmieifaaGreat
namespace Go.Proofs.YtnmfmeehmieifaaGreat
open Go Sg
set_option maxRecDepth 100000
set_option linter.unusedSimpArgs false
set_option linter.unusedVariables false
set_option linter.unusedSectionVars false
set_option maxHeartbeats 4000000
variable [Glob]
@[go_sem high] theorem numX_cs (n : Int) : (numX n).cs = [.int .i64 1, .int .i64 n, .int .i64 0, .int .i64 0, .rows 77 []] := by simp only [numX, Ex.cs, Ex.csL]
@[go_sem high] theorem noX_cs : noX.cs = [.int .i64 0, .int .i64 0, .int .i64 0, .int .i64 0, .rows 77 []] := by simp only [noX, Ex.cs, Ex.csL]
theorem isN_ok (e : Ex) (n : Int) : PureF Tryz.prog 181 [.agg e.cs, .int .i64 n] [.bool (e.isN n)] := by
  refine pureF_of Tryz.func181 rfl Tryz.ntmps181 (by simp) T_ ?_
  intro f0 B Q hQ
  refine g_ [1,2] ?_
  refine gD_ [4] ?_
  refine e_ Tryz.results181 ?_
  first
  | exact True.intro
  | rfl
theorem numOf_ok (n : Int) : PureF Tryz.prog 180 [.int .i64 n] [.agg (numX n).cs] := by
  refine pureF_of Tryz.func180 rfl Tryz.ntmps180 (by simp) T_ ?_
  intro f0 B Q hQ
  refine g_ [0,2] ?_
  refine g_ [2] ?_
  refine wpM_le [(2, .ptr B 0)] [(B, .cells 77 (numX n).cs)] T_ T_ T_ ?_
  exact e_ Tryz.results180 True.intro
theorem known1_ok (e : Ex) : PureF Tryz.prog 179 [.agg e.cs] [.bool (e.kind != 1)] := by
  refine pureF_of Tryz.func179 rfl Tryz.ntmps179 (by simp) T_ ?_
  intro f0 B Q hQ
  refine g_ [1] ?_
  refine g_ [2] ?_
  refine e_ Tryz.results179 ?_
  first
  | exact True.intro
  | rfl
theorem idxE_ok (l : List Ex) (fid : Nat) (p : Ex → Bool) (hl : l.length ≤ 1099511627776) (henter : ∀ args w, (callFunc fid args).run Tryz.prog w = .ok (.enter fid args) w)
    (hf : ∀ i, i < l.length → PureF Tryz.prog fid [.agg (l.getD i default).cs] [.bool (p (l.getD i default))]) :
    PureF Tryz.prog 183 [.rows 77 (Ex.csL l), .fn (.func fid) [] []] [.int .i64 (idxOf p l)] := by
  refine pureF_of Tryz.func183 rfl Tryz.ntmps183 (by simp) T_ ?_
  intro f0 B Q hQ
  refine g_ [0,1] ?_
  refine g_ [0,1,7,8] ?_
  refine n_ ?_
  refine wpM_loopS (fun s n s' => ∃ (i0 M0 : Nat) , i0 + n = l.length ∧ s.M ≤ M0 ∧ ((l.take i0).all (fun x => !p x) = true) ∧ s' = { s with env := setE 8 (.int .i64 (i0 : Nat)) s.env, M := M0 }) (l.length) ?_ ?_
  ·
    refine .of' _ _ ⟨0, _, by omega, Nat.le_refl _, by simp, rfl⟩ ?_ ?_ ?_ <;> exact L_
  rintro n0 s' ⟨i0, M0, hi0, hM0, hv0, rfl⟩
  try dsimp only at hM0
  try refine S_ ?_
  refine g_ [0,1,7,8,9] ?_
  refine c_ (fun hc0 => ?_) fun hc0 => ?_
  ·
    have hl0 : i0 < l.length := by omega
    refine g_ [0,1,5,7,8] ?_
    refine n_ ?_
    refine wpM_regionK [0,1,5,7,8,16] rfl fun Q1 hQ1 => ?_
    refine S_ ?_
    refine call_cap (l := []) (cap := []) (args := [.agg (l.getD i0 default).cs]) (hf i0 hl0) (fun i o h => by simp [lk] at h) henter rfl rfl T_ T_ ?_
    refine S_ ?_
    refine hQ1 _ _ (S_ ?_);clear hQ1 Q1
    refine c_ (fun hc1 => ?_) fun hc1 => ?_
    ·
      refine g_ [4] ?_
      refine e_ Tryz.results183 ?_
      first
      | exact True.intro
      | first | rw [idxOf_at hl0 hv0 hc1] | rw [idxOf_no (all_yes hi0 hc0 hv0)]
    refine g_ [0,1,7,8] ?_
    refine .of' _ _ ⟨n0 - 1, by omega, i0 + 1, _, by omega, M_, ?_, rfl⟩ L_ L_ L_
    rw [take_all _ _ _ hl0, hv0, hc1]; rfl
  refine g_ [4] ?_
  refine e_ Tryz.results183 ?_
  first
  | exact True.intro
  | first | rw [idxOf_at hl0 hv0 hc1] | rw [idxOf_no (all_yes hi0 hc0 hv0)]
theorem hasE_ok (l : List Ex) (fid : Nat) (p : Ex → Bool) (hl : l.length ≤ 1099511627776) (henter : ∀ args w, (callFunc fid args).run Tryz.prog w = .ok (.enter fid args) w)
    (hf : ∀ i, i < l.length → PureF Tryz.prog fid [.agg (l.getD i default).cs] [.bool (p (l.getD i default))]) :
    PureF Tryz.prog 178 [.rows 77 (Ex.csL l), .fn (.func fid) [] []] [.bool (l.any p)] := by
  refine pureF_of Tryz.func178 rfl Tryz.ntmps178 (by simp) T_ ?_
  intro f0 B Q hQ
  refine g_ [0,1] ?_
  refine n_ ?_
  refine wpM_regionK [4] rfl fun Q1 hQ1 => ?_
  refine S_ ?_
  refine cp_ (idxE_ok l fid p hl henter hf) Tryz.call183 ?_
  refine hQ1 _ _ (S_ ?_);clear hQ1 Q1
  refine e_ Tryz.results178 ?_
  first
  | exact True.intro
  | rw [idxOf_ge]
def zM : MM := ⟨List.replicate 6 0, List.replicate 6 0, List.replicate 6 0⟩
@[go_sem high] theorem zM_mobj (id : Nat) : mobj id zM = [(id, .cells 193 [.int .i64 0, .int .i64 0, .int .i64 0, .int .i64 0, .int .i64 0, .int .i64 0, .int .i64 0, .int .i64 0, .int .i64 0, .int .i64 0, .int .i64 0, .int .i64 0, .int .i64 0, .int .i64 0, .int .i64 0, .int .i64 0, .int .i64 0, .int .i64 0])] := rfl
theorem known_ok (e : Ex) (d : Nat) (h : formD (d + 1) e = true) : PureF Tryz.prog 161 [.agg e.cs] [.agg (if (e.kids.length : Int) == 0 || e.kids.any (fun x => x.kind != 1) then noX else numX (e.of zM)).cs, .bool (!((e.kids.length : Int) == 0 || e.kids.any (fun x => x.kind != 1)))] := by
  have hlen := form_len h
  refine pureF_of Tryz.func161 rfl Tryz.ntmps161 (by simp) T_ ?_
  intro f0 B Q hQ
  refine g_ [1,2] ?_
  refine n_ ?_
  refine wpM_regionK [1,2,12] rfl fun Q1 hQ1 => ?_
  refine SD_ ?_
  first | refine cg_ (fun hb => hasE_ok e.kids 179 (fun x => x.kind != 1) (by omega) Tryz.call179 (fun i hi => known1_ok _)) Tryz.call178 ?_ | refine cpD_ (hasE_ok e.kids 179 (fun x => x.kind != 1) (by omega) Tryz.call179 (fun i hi => known1_ok _)) Tryz.call178 ?_
  refine hQ1 _ _ (S_ ?_);clear hQ1 Q1
  refine c_ (fun hc0 => ?_) fun hc0 => ?_
  ·
    refine g_ [2,3] ?_
    refine wpM_le [(2, .ptr (B + 1) 0), (3, .bool false)] [(B + 1, .cells 77 noX.cs)] T_ T_ T_ ?_
    refine e_ Tryz.results161 ?_
    first
    | exact True.intro
    | rw [if_pos hc0, hc0]
      repeat' apply And.intro
      all_goals first | rfl | trivial | (simp -implicitDefEqProofs (disch := omega) only [go_sem]; repeat' apply And.intro) <;> rfl
  refine n_ ?_
  refine wpM_regionK [2,3] rfl fun Q1 hQ1 => ?_
  refine S_ ?_
  refine call_fn (l := mobj (B + 2) zM) (first := []) (cap := []) (ps := [.ptr (B + 2) 0, .agg e.cs]) (reckon_ok zM ⟨rfl, rfl, rfl⟩ (B + 2) (d + 1) e h) Tryz.call114 rfl rfl rfl G_ T_ ?_
  rintro out rfl
  refine S_ ?_
  refine cp_ (numOf_ok (e.of zM)) Tryz.call180 ?_
  refine hQ1 _ _ (S_ ?_);clear hQ1 Q1
  refine e_ Tryz.results161 ?_
  first
  | exact True.intro
  | rw [hc0]
    repeat' apply And.intro
    all_goals first | rfl | trivial | (simp -implicitDefEqProofs (disch := omega) only [go_sem]; repeat' apply And.intro) <;> rfl
end Go.Proofs.YtnmfmeehmieifaaGreat
namespace Go.Proofs.YtnmfmeehmieifaaGreat
open Go Sg
set_option maxRecDepth 100000
set_option linter.unusedSimpArgs false
set_option linter.unusedVariables false
set_option linter.unusedSectionVars false
set_option maxHeartbeats 4000000
variable [Glob]
theorem two_len {d : Nat} {e : Ex} (h : formD (d + 1) e = true) : isTwo e.kind = true ↔ e.kids.length = 2 := by
  have := form_len h
  simp only [isTwo, Bool.and_eq_true, decide_eq_true_eq]
  omega
theorem second_ok (e : Ex) (d : Nat) (h : formD (d + 1) e = true) : PureF Tryz.prog 162 [.agg e.cs] [.agg (if !isTwo e.kind then noX else e.kids.getD 0 default).cs, .bool (if !isTwo e.kind then false else ((e.kind == 3 || e.kind == 4) && (e.kids.getD 1 default).isN 0 || e.kind == 5 && (e.kids.getD 1 default).isN 1))] := by
  refine pureF_of Tryz.func162 rfl Tryz.ntmps162 (by simp) T_ ?_
  intro f0 B Q hQ
  refine g_ [1,2] ?_
  refine n_ ?_
  refine wpM_regionK [1,2,8] rfl fun Q1 hQ1 => ?_
  refine S_ ?_
  refine cp_ (isTwo_ok e.kind) Tryz.call175 ?_
  refine hQ1 _ _ (S_ ?_);clear hQ1 Q1
  refine c_ (fun hc0 => ?_) fun hc0 => ?_
  ·
    refine g_ [2,3] ?_
    refine wpM_le [(2, .ptr (B + 1) 0), (3, .bool false)] [(B + 1, .cells 77 noX.cs)] T_ T_ T_ ?_
    refine e_ Tryz.results162 ?_
    first
    | exact True.intro
    | rw [if_pos hc0, if_pos hc0]
      repeat' apply And.intro
      all_goals first | rfl | trivial | (simp -implicitDefEqProofs (disch := omega) only [go_sem]; repeat' apply And.intro) <;> rfl
  have hk2 : e.kids.length = 2 := (two_len h).1 (by simpa using hc0)
  refine n_ ?_
  refine wpM_regionK [1,2,4] rfl fun Q1 hQ1 => ?_
  refine SD_ ?_
  first | refine cg_ (fun hb => isN_ok (e.kids.getD 1 default) 0) Tryz.call181 ?_ | refine cpD_ (isN_ok (e.kids.getD 1 default) 0) Tryz.call181 ?_
  refine hQ1 _ _ (S_ ?_);clear hQ1 Q1
  refine n_ ?_
  refine dr_ mixed [2,3] 0 2 [B,B + 1] [⟨[1],[],[],[],false⟩,⟨[25],[0],[],[],false⟩,⟨[26],[],[],[],false⟩,⟨[27],[],[],[],false⟩,⟨[4],[],[],[],false⟩,⟨[29],[],[],[],false⟩,⟨[1,30],[],[],[],false⟩,⟨[30,31],[0],[],[],false⟩,⟨[30,32],[],[],[],false⟩,⟨[30,33],[],[],[],false⟩,⟨[1,34],[],[],[],false⟩,⟨[34,35],[0],[],[],false⟩,⟨[34,36],[],[],[],false⟩,⟨[34,37],[],[],[],false⟩,⟨[34,38],[],[],[],true⟩,⟨[30,34,39],[],[],[],false⟩,⟨[30,40],[],[],[],false⟩,⟨[2,28],[1],[1],[],false⟩,⟨[41],[],[],[],false⟩] [0,1,2,3,4,5,6,7,8,9,10,11,12,13,14,15,16,17,18] [[],[0],[0,1],[0,1,2],[],[4],[4,5],[4,5,6],[4,5,6,7],[4,5,6,7,8],[4,5,6,7,8,9],[4,5,6,7,8,9,10],[4,5,6,7,8,9,10,11],[4,5,6,7,8,9,10,11,12],[4,5,6,7,8,9,10,11,12,13],[4,5,6,7,8,9,10,11,12,13,14],[4,5,6,7,8,9,10,11,12,13,14,15],[0,1,2,3,4,5,6,7,8,9,10,11,12,13,14],[0,1,2,3,4,5,6,7,8,9,10,11,12,13,14,15,16,17]] 2 ?_
  intro O A K hO hA hK;simp only [atL_cons,atL_nil,Nat.reduceAdd,Nat.zero_add] at hO hA
  refine SE_ ?_
  first | refine lg_ (fun hb => isN_ok (e.kids.getD 1 default) 1) Tryz.call181 ?_ | refine lpE_ (isN_ok (e.kids.getD 1 default) 1) Tryz.call181 ?_
  refine hK _ (S_ ?_);clear hK K hO hA O A
  refine e_ Tryz.results162 ?_
  first
  | exact True.intro
  | rw [hc0]
    repeat' apply And.intro
    all_goals first | rfl | trivial | (simp -implicitDefEqProofs (disch := omega) only [go_sem]; repeat' apply And.intro) <;> rfl
theorem first_ok (e : Ex) (d : Nat) (h : formD (d + 1) e = true) : PureF Tryz.prog 163 [.agg e.cs] [.agg (if !isTwo e.kind then noX else e.kids.getD 1 default).cs, .bool (if !isTwo e.kind then false else (e.kind == 3 && (e.kids.getD 0 default).isN 0 || e.kind == 5 && (e.kids.getD 0 default).isN 1))] := by
  refine pureF_of Tryz.func163 rfl Tryz.ntmps163 (by simp) T_ ?_
  intro f0 B Q hQ
  refine g_ [1,2] ?_
  refine n_ ?_
  refine wpM_regionK [1,2,7] rfl fun Q1 hQ1 => ?_
  refine S_ ?_
  refine cp_ (isTwo_ok e.kind) Tryz.call175 ?_
  refine hQ1 _ _ (S_ ?_);clear hQ1 Q1
  refine c_ (fun hc0 => ?_) fun hc0 => ?_
  ·
    refine g_ [2,3] ?_
    refine wpM_le [(2, .ptr (B + 1) 0), (3, .bool false)] [(B + 1, .cells 77 noX.cs)] T_ T_ T_ ?_
    refine e_ Tryz.results163 ?_
    first
    | exact True.intro
    | rw [if_pos hc0, if_pos hc0]
      repeat' apply And.intro
      all_goals first | rfl | trivial | (simp -implicitDefEqProofs (disch := omega) only [go_sem]; repeat' apply And.intro) <;> rfl
  have hk2 : e.kids.length = 2 := (two_len h).1 (by simpa using hc0)
  refine n_ ?_
  refine dr_ mixed [2,3] 0 2 [B,B + 1] [⟨[1],[],[],[],false⟩,⟨[9],[0],[],[],false⟩,⟨[10],[],[],[],false⟩,⟨[11],[],[],[],false⟩,⟨[1],[],[],[],false⟩,⟨[13],[0],[],[],false⟩,⟨[14],[],[],[],false⟩,⟨[15],[],[],[],false⟩,⟨[1,16],[],[],[],false⟩,⟨[16,17],[0],[],[],false⟩,⟨[16,18],[],[],[],false⟩,⟨[16,19],[],[],[],false⟩,⟨[16,20],[],[],[],true⟩,⟨[16,21],[],[],[],false⟩,⟨[22],[],[],[],false⟩,⟨[1,23],[],[],[],false⟩,⟨[23,24],[0],[],[],false⟩,⟨[23,25],[],[],[],false⟩,⟨[23,26],[],[],[],false⟩,⟨[1,27],[],[],[],false⟩,⟨[27,28],[0],[],[],false⟩,⟨[27,29],[],[],[],false⟩,⟨[27,30],[],[],[],false⟩,⟨[27,31],[],[],[],true⟩,⟨[23,27,32],[],[],[],false⟩,⟨[23,33],[],[],[],false⟩,⟨[2,12],[1],[1],[],false⟩,⟨[34],[],[],[],false⟩] [0,1,2,3,4,5,6,7,8,9,10,11,12,13,14,15,16,17,18,19,20,21,22,23,24,25,26,27] [[],[0],[0,1],[0,1,2],[],[4],[4,5],[4,5,6],[4,5,6,7],[4,5,6,7,8],[4,5,6,7,8,9],[4,5,6,7,8,9,10],[4,5,6,7,8,9,10,11],[4,5,6,7,8,9,10,11,12],[4,5,6,7,8,9,10,11,12,13],[4,5,6,7,8,9,10,11,12,13,14],[4,5,6,7,8,9,10,11,12,13,14,15],[4,5,6,7,8,9,10,11,12,13,14,15,16],[4,5,6,7,8,9,10,11,12,13,14,15,16,17],[4,5,6,7,8,9,10,11,12,13,14,15,16,17,18],[4,5,6,7,8,9,10,11,12,13,14,15,16,17,18,19],[4,5,6,7,8,9,10,11,12,13,14,15,16,17,18,19,20],[4,5,6,7,8,9,10,11,12,13,14,15,16,17,18,19,20,21],[4,5,6,7,8,9,10,11,12,13,14,15,16,17,18,19,20,21,22],[4,5,6,7,8,9,10,11,12,13,14,15,16,17,18,19,20,21,22,23],[4,5,6,7,8,9,10,11,12,13,14,15,16,17,18,19,20,21,22,23,24],[0,1,2,3,4,5,6,7,8,9,10,11,12,13,14,15,16,17,18,19,20,21,22,23],[0,1,2,3,4,5,6,7,8,9,10,11,12,13,14,15,16,17,18,19,20,21,22,23,24,25,26]] 2 ?_
  intro O A K hO hA hK;simp only [atL_cons,atL_nil,Nat.reduceAdd,Nat.zero_add] at hO hA
  refine SE_ ?_
  first | refine lg_ (fun hb => isN_ok (e.kids.getD 0 default) 0) Tryz.call181 ?_ | refine lpE_ (isN_ok (e.kids.getD 0 default) 0) Tryz.call181 ?_
  first | refine lg_ (fun hb => isN_ok (e.kids.getD 0 default) 1) Tryz.call181 ?_ | refine lpE_ (isN_ok (e.kids.getD 0 default) 1) Tryz.call181 ?_
  refine hK _ (S_ ?_);clear hK K hO hA O A
  refine e_ Tryz.results163 ?_
  first
  | exact True.intro
  | rw [hc0]
    repeat' apply And.intro
    all_goals first | rfl | trivial | (simp -implicitDefEqProofs (disch := omega) only [go_sem]; repeat' apply And.intro) <;> rfl
theorem zeroR_ok (e : Ex) (d : Nat) (h : formD (d + 1) e = true) : PureF Tryz.prog 164 [.agg e.cs] [.agg (numX 0).cs, .bool ((e.kind == 5 || e.kind == 8) && ((e.kids.getD 0 default).isN 0 || (e.kids.getD 1 default).isN 0))] := by
  have hk2 : ((e.kind == 5) || (e.kind == 8)) = true → e.kids.length = 2 := by
    intro hk
    refine (two_len h).1 ?_
    simp only [Bool.or_eq_true, beq_iff_eq] at hk
    simp only [isTwo, Bool.and_eq_true, decide_eq_true_eq]; omega
  refine pureF_of Tryz.func164 rfl Tryz.ntmps164 (by simp) T_ ?_
  intro f0 B Q hQ
  cases hz : (e.kind == 5 || e.kind == 8)
  · simp only [Bool.or_eq_false_iff] at hz
    refine g_ [1,2] ?_
    refine n_ ?_
    refine wpM_regionK [1,2,4] rfl fun Q1 hQ1 => ?_
    simp (contextual := true) (maxSteps := 1000000) (implicitDefEqProofs := false) (disch := first | omega | (simp only [decide_eq_true_eq, decide_eq_false_iff_not, Bool.and_eq_true, Bool.or_eq_false_iff, Bool.not_eq_true'] at *; omega)) only [go_sem, hz.1, hz.2, Bool.or_false]
    refine hQ1 _ _ (S_ ?_);clear hQ1 Q1
    refine n_ ?_
    refine wpM_regionK [2,3] rfl fun Q1 hQ1 => ?_
    refine SD_ ?_
    refine cpD_ (numOf_ok 0) Tryz.call180 ?_
    refine hQ1 _ _ (S_ ?_);clear hQ1 Q1
    refine e_ Tryz.results164 ?_
    first
    | exact True.intro
    | rw [hz.1, hz.2]; rfl
  · have hl := hk2 hz
    refine g_ [1,2] ?_
    refine gD_ [1,2,4] ?_
    rw [hz]
    refine n_ ?_
    refine wpM_regionK [2,3] rfl fun Q1 hQ1 => ?_
    refine SD_ ?_
    refine cpD_ (numOf_ok 0) Tryz.call180 ?_
    first | refine cg_ (fun hb => isN_ok (e.kids.getD 0 default) 0) Tryz.call181 ?_ | refine cpD_ (isN_ok (e.kids.getD 0 default) 0) Tryz.call181 ?_
    first | refine cg_ (fun hb => isN_ok (e.kids.getD 1 default) 0) Tryz.call181 ?_ | refine cpD_ (isN_ok (e.kids.getD 1 default) 0) Tryz.call181 ?_
    refine hQ1 _ _ (S_ ?_);clear hQ1 Q1
    refine e_ Tryz.results164 ?_
    first
    | exact True.intro
    | rw [hz]; rfl
theorem ialike_ok' (a b : Ex) (hs : a.sz ≤ 1099511627776) : PureF Tryz.prog 182 [.agg a.cs, .agg b.cs] [.bool (same a b)] := ialike_ok a.sz a b (Nat.le_refl _) hs
theorem alike_ok (e : Ex) (d : Nat) (h : formD (d + 1) e = true) (hs : e.sz ≤ 1099511627776) : PureF Tryz.prog 165 [.agg e.cs] [.agg (if !isTwo e.kind || !same (e.kids.getD 0 default) (e.kids.getD 1 default) then noX else if e.kind == 7 then numX 1 else if e.kind == 6 || e.kind == 4 then numX 0 else noX).cs, .bool (if !isTwo e.kind || !same (e.kids.getD 0 default) (e.kids.getD 1 default) then false else (e.kind == 7 || (e.kind == 6 || e.kind == 4)))] := by
  refine pureF_of Tryz.func165 rfl Tryz.ntmps165 (by simp) T_ ?_
  intro f0 B Q hQ
  cases hz : isTwo e.kind
  · skip
    refine g_ [1,2] ?_
    refine n_ ?_
    refine dr_ mixed [1,2,19] 0 2 [B,B + 1] [⟨[1],[],[],[],false⟩,⟨[4],[0],[],[],false⟩,⟨[5],[],[],[],true⟩,⟨[6],[],[],[],false⟩,⟨[7],[],[],[],false⟩,⟨[1,8],[],[],[],false⟩,⟨[8,9],[],[],[],false⟩,⟨[8,10],[],[],[],false⟩,⟨[8,11],[],[],[],false⟩,⟨[1,8],[],[],[],false⟩,⟨[8,13],[],[],[],false⟩,⟨[8,14],[],[],[],false⟩,⟨[8,15],[],[],[],false⟩,⟨[8,12,16],[],[],[],true⟩,⟨[8,17],[],[],[],false⟩,⟨[8,18],[],[],[],false⟩] [0,1,2,3,4,5,6,7,8,9,10,11,12,13,14,15] [[],[0],[0,1],[0,1,2],[0,1,2,3],[0,1,2,3,4],[0,1,2,3,4,5],[0,1,2,3,4,5,6],[0,1,2,3,4,5,6,7],[0,1,2,3,4],[0,1,2,3,4,9],[0,1,2,3,4,9,10],[0,1,2,3,4,9,10,11],[0,1,2,3,4,5,6,7,8,9,10,11,12],[0,1,2,3,4,5,6,7,8,9,10,11,12,13],[0,1,2,3,4,5,6,7,8,9,10,11,12,13,14]] 2 ?_
    intro O A K hO hA hK;simp only [atL_cons,atL_nil,Nat.reduceAdd,Nat.zero_add] at hO hA
    refine SE_ ?_
    refine lpE_ (hz ▸ isTwo_ok e.kind) Tryz.call175 ?_
    refine hK _ (S_ ?_);clear hK K hO hA O A
    refine c1_ ?_
    refine g_ [2,3] ?_
    refine wpM_le [(2, .ptr (B + 1) 0), (3, .bool false)] [(B + 1, .cells 77 noX.cs)] T_ T_ T_ ?_
    refine e_ Tryz.results165 ?_
    first
    | exact True.intro
    | simp only [hz, Bool.not_false, Bool.true_or, if_true]
      all_goals first | (simp [numX, noX, Ex.kind, Ex.n, Ex.a, Ex.kids, Ex.csL]; done) | rfl | trivial | (simp -implicitDefEqProofs (disch := omega) only [go_sem]; repeat' apply And.intro) <;> rfl
  · have hl := (two_len h).1 hz
    have h0 := Ex.kid_sz (e := e) (k := 0) (by omega)
    refine g_ [1,2] ?_
    refine n_ ?_
    refine dr_ mixed [1,2,19] 0 2 [B,B + 1] [⟨[1],[],[],[],false⟩,⟨[4],[0],[],[],false⟩,⟨[5],[],[],[],true⟩,⟨[6],[],[],[],false⟩,⟨[7],[],[],[],false⟩,⟨[1,8],[],[],[],false⟩,⟨[8,9],[0],[],[],false⟩,⟨[8,10],[],[],[],false⟩,⟨[8,11],[],[],[],false⟩,⟨[1,8],[],[],[],false⟩,⟨[8,13],[0],[],[],false⟩,⟨[8,14],[],[],[],false⟩,⟨[8,15],[],[],[],false⟩,⟨[8,12,16],[],[],[],true⟩,⟨[8,17],[],[],[],false⟩,⟨[8,18],[],[],[],false⟩] [0,1,2,3,4,5,6,7,8,9,10,11,12,13,14,15] [[],[0],[0,1],[0,1,2],[0,1,2,3],[0,1,2,3,4],[0,1,2,3,4,5],[0,1,2,3,4,5,6],[0,1,2,3,4,5,6,7],[0,1,2,3,4],[0,1,2,3,4,9],[0,1,2,3,4,9,10],[0,1,2,3,4,9,10,11],[0,1,2,3,4,5,6,7,8,9,10,11,12],[0,1,2,3,4,5,6,7,8,9,10,11,12,13],[0,1,2,3,4,5,6,7,8,9,10,11,12,13,14]] 2 ?_
    intro O A K hO hA hK;simp only [atL_cons,atL_nil,Nat.reduceAdd,Nat.zero_add] at hO hA
    refine SE_ ?_
    refine lpE_ (hz ▸ isTwo_ok e.kind) Tryz.call175 ?_
    first | refine lg_ (fun hb => ialike_ok' (e.kids.getD 0 default) (e.kids.getD 1 default) (by omega)) Tryz.call182 ?_ | refine lpE_ (ialike_ok' (e.kids.getD 0 default) (e.kids.getD 1 default) (by omega)) Tryz.call182 ?_
    refine hK _ (S_ ?_);clear hK K hO hA O A
    refine c_ (fun hc0 => ?_) fun hc0 => ?_
    ·
      refine g_ [2,3] ?_
      refine wpM_le [(2, .ptr (B + 1) 0), (3, .bool false)] [(B + 1, .cells 77 noX.cs)] T_ T_ T_ ?_
      refine e_ Tryz.results165 ?_
      first
      | exact True.intro
      | simp only [*, Bool.not_true, Bool.not_false, Bool.false_or, Bool.true_or, if_true, Bool.false_eq_true, if_false, Bool.or_true, Bool.or_false]
        all_goals first | (simp [numX, noX, Ex.kind, Ex.n, Ex.a, Ex.kids, Ex.csL]; done) | (exfalso; simp_all; done)
    refine g_ [2,22] ?_
    refine g_ [2,22,23] ?_
    refine c_ (fun hc1 => ?_) fun hc1 => ?_
    ·
      refine n_ ?_
      refine wpM_regionK [2,3] rfl fun Q1 hQ1 => ?_
      refine S_ ?_
      refine cp_ (numOf_ok 1) Tryz.call180 ?_
      refine hQ1 _ _ (S_ ?_);clear hQ1 Q1
      refine e_ Tryz.results165 ?_
      first
      | exact True.intro
      | simp only [*, Bool.not_true, Bool.not_false, Bool.false_or, Bool.true_or, if_true, Bool.false_eq_true, if_false, Bool.or_true, Bool.or_false]
        all_goals first | (simp [numX, noX, Ex.kind, Ex.n, Ex.a, Ex.kids, Ex.csL]; done) | (exfalso; simp_all; done)
    refine g_ [2,22,26] ?_
    refine c_ (fun hc2 => ?_) fun hc2 => ?_
    ·
      refine c_ (fun hc3 => ?_) fun hc3 => ?_
      ·
        refine n_ ?_
        refine wpM_regionK [2,3] rfl fun Q1 hQ1 => ?_
        refine S_ ?_
        refine cp_ (numOf_ok 0) Tryz.call180 ?_
        refine hQ1 _ _ (S_ ?_);clear hQ1 Q1
        refine e_ Tryz.results165 ?_
        first
        | exact True.intro
        | simp only [*, Bool.not_true, Bool.not_false, Bool.false_or, Bool.true_or, if_true, Bool.false_eq_true, if_false, Bool.or_true, Bool.or_false]
          all_goals first | (simp [numX, noX, Ex.kind, Ex.n, Ex.a, Ex.kids, Ex.csL]; done) | (exfalso; simp_all; done)
      refine g_ [2,3] ?_
      refine wpM_le [(2, .ptr (B + 1) 0), (3, .bool false)] [(B + 1, .cells 77 noX.cs)] T_ T_ T_ ?_
      refine e_ Tryz.results165 ?_
      first
      | exact True.intro
      | simp only [*, Bool.not_true, Bool.not_false, Bool.false_or, Bool.true_or, if_true, Bool.false_eq_true, if_false, Bool.or_true, Bool.or_false]
        all_goals first | (simp [numX, noX, Ex.kind, Ex.n, Ex.a, Ex.kids, Ex.csL]; done) | (exfalso; simp_all; done)
    refine g_ [2,26] ?_
    refine c_ (fun hc4 => ?_) fun hc4 => ?_
    ·
      refine n_ ?_
      refine wpM_regionK [2,3] rfl fun Q1 hQ1 => ?_
      refine S_ ?_
      refine cp_ (numOf_ok 0) Tryz.call180 ?_
      refine hQ1 _ _ (S_ ?_);clear hQ1 Q1
      refine e_ Tryz.results165 ?_
      first
      | exact True.intro
      | simp only [*, Bool.not_true, Bool.not_false, Bool.false_or, Bool.true_or, if_true, Bool.false_eq_true, if_false, Bool.or_true, Bool.or_false]
        all_goals first | (simp [numX, noX, Ex.kind, Ex.n, Ex.a, Ex.kids, Ex.csL]; done) | (exfalso; simp_all; done)
    refine g_ [2,3] ?_
    refine wpM_le [(2, .ptr (B + 1) 0), (3, .bool false)] [(B + 1, .cells 77 noX.cs)] T_ T_ T_ ?_
    refine e_ Tryz.results165 ?_
    first
    | exact True.intro
    | simp only [*, Bool.not_true, Bool.not_false, Bool.false_or, Bool.true_or, if_true, Bool.false_eq_true, if_false, Bool.or_true, Bool.or_false]
      all_goals first | (simp [numX, noX, Ex.kind, Ex.n, Ex.a, Ex.kids, Ex.csL]; done) | (exfalso; simp_all; done)
end Go.Proofs.YtnmfmeehmieifaaGreat
namespace Go.Proofs.YtnmfmeehmieifaaGreat
open Go Sg
set_option maxRecDepth 100000
set_option linter.unusedSimpArgs false
set_option linter.unusedVariables false
set_option linter.unusedSectionVars false
set_option maxHeartbeats 4000000
variable [Glob]
theorem icopyE_ok : ∀ (N : Nat) (e : Ex), e.sz ≤ N → e.sz ≤ 1099511627776 → PureF Tryz.prog 89 [.agg e.cs] [.agg e.cs] := by
  intro N
  induction N with
  | zero => intro e h; have := e.sz_pos; omega
  | succ N ih =>
    intro e hN hs
    have hlen := e.kids_len
    refine pureF_of Tryz.func89 rfl Tryz.ntmps89 (by simp) T_ ?_
    intro f0 B Q hQ
    refine g_ [1,2] ?_
    refine g_ [1,2,3] ?_
    refine g_ [1,2,3] ?_
    refine g_ [1,2,9,10,11] ?_
    refine n_ ?_
    refine wpM_loopS (fun s r s' => (r = e.kids.length ∧ s' = s) ∨ ∃ (i0 M0 y : Nat), 0 < i0 ∧ i0 + r = e.kids.length ∧ s.M ≤ y ∧ y < M0 ∧ s' = { s with env := setE 11 (.int .i64 (i0 : Nat)) s.env, l := (y, .cells 77 (exc (e.kids.take i0))) :: setl B (.cells 77 [.int .i64 e.kind, .int .i64 e.n, .int .i64 e.a.kind, .int .i64 e.a.at', .sl 77 y 0 i0]) s.l, M := M0 }) (e.kids.length) ?_ ?_
    ·
      refine .of' _ _ (.inl ⟨rfl, rfl⟩) ?_ ?_ ?_ <;> exact L_
    rintro r s' (⟨rfl, rfl⟩ | ⟨i0, M0, y, hi0, hir, hy, hyM, rfl⟩)
    ·
      try refine S_ ?_
      refine g_ [1,2,9,10,11,12] ?_
      refine c_ (fun hc0 => ?_) fun hc0 => ?_
      ·
        have hks := Ex.kid_sz (e := e) (k := 0) (by omega)
        refine g_ [1,2,5,9,10,11] ?_
        refine dr_ mixed [1,2,9,10,11] 2 2 [B,B + 2, B + 3, B + 4] [⟨[1],[],[],[],false⟩,⟨[15],[0],[],[],false⟩,⟨[5],[1],[],[],false⟩,⟨[17],[],[],[],true⟩,⟨[18],[],[],[2],false⟩,⟨[16,19],[2],[],[3],false⟩,⟨[1],[],[],[],false⟩,⟨[20,21],[0],[0],[],false⟩] [0,1,2,3,4,5,6,7] [[],[0],[],[2],[2,3],[0,1,2,3,4],[0,1,2,3,4,5],[0,1,2,3,4,5,6]] 4 ?_
        intro O A K hO hA hK;simp only [atL_cons,atL_nil,Nat.reduceAdd,Nat.zero_add] at hO hA
        simp -implicitDefEqProofs (disch := omega) only [go_sem, exc_len, hO, hA]
        refine loud_p (ih (e.kids.getD 0 default) (by omega) (by omega)) Tryz.call89 rfl rfl (by first | rfl | (simp -implicitDefEqProofs (disch := omega) only [go_sem] <;> rfl)) rfl ?_
        simp -implicitDefEqProofs (disch := omega) only [go_sem, exc_len, hO, hA]
        refine hK _ (S_ ?_);clear hK K hO hA O A
        refine g_ [1,2,9,10,11] ?_
        have e1 : [PV.int .i64 (e.kids.getD 0 default).kind, .int .i64 (e.kids.getD 0 default).n, .int .i64 (e.kids.getD 0 default).a.kind, .int .i64 (e.kids.getD 0 default).a.at', .rows 77 (Ex.csL (e.kids.getD 0 default).kids)] = exc (e.kids.take 1) := by
          have this0 : e.kids.getD 0 default = e.kids[0] := by simp [List.getD, show 0 < e.kids.length by omega]
          rw [List.take_succ_eq_append_getElem (by omega), List.take_zero, List.nil_append, ← exc_one, ← this0, Ex.cs_eq]
        rw [e1]
        refine .of' _ _ ⟨e.kids.length - 1, by omega, .inr ⟨1, _, B + 4, by omega, by omega, ?_, ?_, rfl⟩⟩ ?_ ?_ ?_
        · first | omega | (simp -implicitDefEqProofs (disch := omega) only [go_sem]; done) | (simp -implicitDefEqProofs (disch := omega) only [go_sem]; omega)
        · first | omega | (simp -implicitDefEqProofs (disch := omega) only [go_sem]; done) | (simp -implicitDefEqProofs (disch := omega) only [go_sem]; omega)
        all_goals exact L_
      refine n_ ?_
      have hk0 : e.kids = [] := List.eq_nil_of_length_eq_zero (by omega)
      refine wpM_le [(2, .ptr (B + 1) 0), (1, .ptr B 0)] [(B, .cells 77 e.cs), (B + 1, .cells 77 [.int .i64 0, .int .i64 0, .int .i64 0, .int .i64 0, .emp])] (by simp -implicitDefEqProofs (disch := omega) only [go_sem, hk0]) (by simp -implicitDefEqProofs (disch := omega) only [go_sem, hk0]) T_ ?_
      refine g_ [2] ?_
      refine e_ Tryz.results89 ?_
      first
      | exact True.intro
      | rfl
    dsimp only at hy
    try refine S_ ?_
    refine g_ [1,2,9,10,11,12] ?_
    refine c_ (fun hc0 => ?_) fun hc0 => ?_
    ·
      have hks := Ex.kid_sz (e := e) (k := i0) (by omega)
      have htl : (e.kids.take i0).length = i0 := by simp; omega
      refine g_ [1,2,5,9,10,11] ?_
      refine dr_ mixed [1,2,9,10,11] 2 3 [B, M0, y, M0 + 1, M0 + 2] [⟨[1],[],[],[],false⟩,⟨[15],[0],[],[],false⟩,⟨[5],[1],[],[],false⟩,⟨[17],[],[],[],true⟩,⟨[18],[],[],[3],false⟩,⟨[16,19],[2,3],[2],[4],false⟩,⟨[1],[],[],[],false⟩,⟨[20,21],[0],[0],[],false⟩] [0,1,2,3,4,5,6,7] [[],[0],[],[2],[2,3],[0,1,2,3,4],[0,1,2,3,4,5],[0,1,2,3,4,5,6]] 5 (htbl := by simp; omega) (hnm := by simp) ?_
      intro O A K hO hA hK;simp only [atL_cons,atL_nil,Nat.reduceAdd,Nat.zero_add] at hO hA
      simp -implicitDefEqProofs (disch := omega) only [go_sem, htl, hO, hA]
      refine loud_p (ih (e.kids.getD i0 default) (by omega) (by omega)) Tryz.call89 rfl rfl (by first | rfl | (simp -implicitDefEqProofs (disch := omega) only [go_sem] <;> rfl)) rfl ?_
      simp -implicitDefEqProofs (disch := omega) only [go_sem, htl, hO, hA]
      refine hK _ (S_ ?_);clear hK K hO hA O A
      refine g_ [1,2,9,10,11] ?_
      have e1 : exc (e.kids.take i0) ++ [.int .i64 (e.kids.getD i0 default).kind, .int .i64 (e.kids.getD i0 default).n, .int .i64 (e.kids.getD i0 default).a.kind, .int .i64 (e.kids.getD i0 default).a.at', .rows 77 (Ex.csL (e.kids.getD i0 default).kids)] = exc (e.kids.take (i0 + 1)) := by
        rw [List.take_succ_eq_append_getElem (by omega), ← exc_app, Ex.cs_eq]
        have : e.kids.getD i0 default = e.kids[i0] := by simp [List.getD, show i0 < e.kids.length by omega]
        rw [this]
      rw [e1]
      refine .of' _ _ ⟨r - 1, by omega, .inr ⟨i0 + 1, _, M0 + 2, by omega, by omega, ?_, ?_, rfl⟩⟩ ?_ ?_ ?_
      · first | omega | (simp -implicitDefEqProofs (disch := omega) only [go_sem]; done) | (simp -implicitDefEqProofs (disch := omega) only [go_sem]; omega)
      · first | omega | (simp -implicitDefEqProofs (disch := omega) only [go_sem]; done) | (simp -implicitDefEqProofs (disch := omega) only [go_sem]; omega)
      all_goals exact L_
    refine n_ ?_
    have hie : i0 = e.kids.length := by omega
    have htl : e.kids.take i0 = e.kids := by rw [hie, List.take_of_length_le (Nat.le_refl _)]
    rw [htl]
    refine wpM_frz [y] [(77, y, 0, i0, Ex.csL e.kids)] (by intro q hq; simp at hq; subst hq; simp -implicitDefEqProofs (disch := omega) only [go_sem]) (by intro q hq; simp only [List.mem_cons, List.not_mem_nil, or_false] at hq; subst hq; rw [hie]; exact ⟨by simp, rowsOf_exc (T := 77) T_⟩) ?_
    simp -implicitDefEqProofs (disch := omega) only [go_sem]
    refine g_ [2] ?_
    refine e_ Tryz.results89 ?_
    first
    | exact True.intro
    | rfl
end Go.Proofs.YtnmfmeehmieifaaGreat
