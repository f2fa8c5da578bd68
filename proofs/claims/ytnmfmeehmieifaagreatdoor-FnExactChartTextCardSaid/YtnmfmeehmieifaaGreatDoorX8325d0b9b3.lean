/- A part of a proof: lemmas and contracts of functions; the last text of the claim says what is proved. -/
import Derived.Test.YtnmfmeehmieifaaGreatDoorX2c9ab54dc9
import Derived.Ground.NamesProg
import Derived.Shelf.Strconv.Itoa3
import Derived.Lib.ItoaLen
import Derived.Shelf.Strings.OnBuilder
set_option linter.unusedSectionVars false
set_option linter.unusedSimpArgs false
set_option linter.unusedVariables false
namespace Go.Proofs.YtnmfmeehmieifaaGreatDoor
open Go Sg
set_option linter.unusedSectionVars false
variable [Glob]
set_option maxRecDepth 100000
set_option linter.unusedSimpArgs false
set_option maxHeartbeats 4000000
theorem mixed : Tryz.prog.follows .mixedOrders = true := by kernel_rfl
def ints (l : List Int) : List PV := l.map (PV.int .i64)
structure Bs (bs : List Nat) : Prop where
  lt : ∀ x ∈ bs, x < 256
  len : bs.length ≤ 2000
theorem Bs.get {bs : List Nat} (h : Bs bs) (k : Nat) : bs.getD k 0 < 256 := by
  by_cases hk : k < bs.length
  · rw [List.getD_eq_getElem?_getD, List.getElem?_eq_getElem hk]; exact h.lt _ (List.getElem_mem hk)
  · rw [List.getD_eq_getElem?_getD, List.getElem?_eq_none (by omega)]; simp
end Go.Proofs.YtnmfmeehmieifaaGreatDoor
namespace Go.Proofs.YtnmfmeehmieifaaGreatDoor
open Go Sg
set_option maxRecDepth 100000
set_option linter.unusedSectionVars false
class Tab extends Glob where
  pw : List Int
  hlen : pw.length = 20
  tab0 : tab 1 = some (pw.map (.int .u64))
variable [Tab]
end Go.Proofs.YtnmfmeehmieifaaGreatDoor
namespace Go.Proofs.YtnmfmeehmieifaaGreatDoor
open Go Sg Go.Shelf Go.RowKit
set_option maxRecDepth 100000
set_option linter.unusedSimpArgs false
set_option linter.unusedVariables false
set_option linter.unusedSectionVars false
set_option maxHeartbeats 4000000
def Tryz.laysItoa_ren : Go.Shelf.Ren := ⟨fun | 171 => 49 | 243 => 88 | 246 => 112 | 283 => 124 | 284 => 125 | 285 => 126 | 286 => 127 | 129 => 131 | 317 => 130 | 318 => 132 | 319 => 133 | 320 => 134 | 337 => 135 | 338 => 136 | n => n, fun | 3 => 3 | 9 => 9 | 2 => 2 | 4 => 4 | 171 => 202 | 0 => 0 | 53 => 203 | 37 => 135 | 5 => 5 | 173 => 206 | 212 => 211 | 51 => 212 | 20 => 20 | 213 => 213 | 46 => 214 | 232 => 217 | 233 => 218 | n => n, fun | 17 => 1 | 18 => 3 | 19 => 4 | n => n⟩
theorem Tryz.laysItoa : Go.Proofs.LaysM.n171 Tryz.prog Tryz.laysItoa_ren := {
  mixed := by kernel_rfl
  f129 := Tryz.func131.trans (congrArg some (by kernel_rfl))
  f171 := Tryz.func49.trans (congrArg some (by kernel_rfl))
  f243 := Tryz.func88.trans (congrArg some (by kernel_rfl))
  f246 := Tryz.func112.trans (congrArg some (by kernel_rfl))
  f283 := Tryz.func124.trans (congrArg some (by kernel_rfl))
  f284 := Tryz.func125.trans (congrArg some (by kernel_rfl))
  f285 := Tryz.func126.trans (congrArg some (by kernel_rfl))
  f286 := Tryz.func127.trans (congrArg some (by kernel_rfl))
  f317 := Tryz.func130.trans (congrArg some (by kernel_rfl))
  f318 := Tryz.func132.trans (congrArg some (by kernel_rfl))
  f319 := Tryz.func133.trans (congrArg some (by kernel_rfl))
  f320 := Tryz.func134.trans (congrArg some (by kernel_rfl))
  f337 := Tryz.func135.trans (congrArg some (by kernel_rfl))
  f338 := Tryz.func136.trans (congrArg some (by kernel_rfl))
  t0 := Tryz.underlying0
  a0 := Tryz.isAgg0
  z0 := Tryz.sizeOf0
  v0 := Tryz.zeroValue0
  t2 := Tryz.underlying2
  a2 := Tryz.isAgg2
  z2 := Tryz.sizeOf2
  v2 := Tryz.zeroValue2
  t3 := Tryz.underlying3
  a3 := Tryz.isAgg3
  z3 := Tryz.sizeOf3
  v3 := Tryz.zeroValue3
  t4 := Tryz.underlying4
  a4 := Tryz.isAgg4
  z4 := Tryz.sizeOf4
  v4 := Tryz.zeroValue4
  t5 := Tryz.underlying5
  a5 := Tryz.isAgg5
  z5 := Tryz.sizeOf5
  v5 := Tryz.zeroValue5
  t9 := Tryz.underlying9
  a9 := Tryz.isAgg9
  z9 := Tryz.sizeOf9
  v9 := Tryz.zeroValue9
  t20 := Tryz.underlying20
  a20 := Tryz.isAgg20
  z20 := Tryz.sizeOf20
  v20 := Tryz.zeroValue20
  t37 := Tryz.underlying135
  a37 := Tryz.isAgg135
  z37 := Tryz.sizeOf135
  v37 := Tryz.zeroValue135
  t46 := Tryz.underlying214
  a46 := Tryz.isAgg214
  z46 := Tryz.sizeOf214
  v46 := Tryz.zeroValue214
  t51 := Tryz.underlying212
  a51 := Tryz.isAgg212
  z51 := Tryz.sizeOf212
  v51 := Tryz.zeroValue212
  t53 := Tryz.underlying203
  a53 := Tryz.isAgg203
  z53 := Tryz.sizeOf203
  v53 := Tryz.zeroValue203
  t171 := Tryz.underlying202
  a171 := Tryz.isAgg202
  z171 := Tryz.sizeOf202
  v171 := Tryz.zeroValue202
  t173 := Tryz.underlying206
  a173 := Tryz.isAgg206
  z173 := Tryz.sizeOf206
  v173 := Tryz.zeroValue206
  t212 := Tryz.underlying211
  a212 := Tryz.isAgg211
  z212 := Tryz.sizeOf211
  v212 := Tryz.zeroValue211
  t213 := Tryz.underlying213
  a213 := Tryz.isAgg213
  z213 := Tryz.sizeOf213
  t232 := Tryz.underlying217
  a232 := Tryz.isAgg217
  z232 := Tryz.sizeOf217
  v232 := Tryz.zeroValue217
  t233 := Tryz.underlying218
  a233 := Tryz.isAgg218
  z233 := Tryz.sizeOf218
  v233 := Tryz.zeroValue218
  g17 := by kernel_rfl
  g18 := by kernel_rfl
  g19 := by kernel_rfl
  i0 := by kernel_rfl
  i2 := by kernel_rfl
  i3 := by kernel_rfl
  i4 := by kernel_rfl
  i5 := by kernel_rfl
  i9 := by kernel_rfl
  i20 := by kernel_rfl
  i37 := by kernel_rfl
  i46 := by kernel_rfl
  i51 := by kernel_rfl
  i53 := by kernel_rfl
  i171 := by kernel_rfl
  i173 := by kernel_rfl
  i212 := by kernel_rfl
  i232 := by kernel_rfl
  i233 := by kernel_rfl
  m17 := by kernel_rfl
  m18 := by kernel_rfl
  m19 := by kernel_rfl }
def Tryz.laysJoin_ren : Go.Shelf.Ren := ⟨fun | 156 => 54 | 165 => 91 | 166 => 92 | 169 => 93 | 240 => 113 | 241 => 114 | 276 => 128 | 277 => 129 | n => n, fun | 31 => 95 | 9 => 9 | 3 => 3 | 4 => 4 | 0 => 0 | 20 => 20 | 72 => 146 | 76 => 148 | 70 => 144 | 37 => 135 | 75 => 79 | 127 => 183 | 164 => 208 | 5 => 5 | 80 => 143 | n => n, fun | n => n⟩
theorem Tryz.laysJoin : Go.Proofs.Lays.n156 Tryz.prog Tryz.laysJoin_ren := {
  mixed := by kernel_rfl
  f156 := Tryz.func54.trans (congrArg some (by kernel_rfl))
  f165 := Tryz.func91.trans (congrArg some (by kernel_rfl))
  f166 := Tryz.func92.trans (congrArg some (by kernel_rfl))
  f169 := Tryz.func93.trans (congrArg some (by kernel_rfl))
  f240 := Tryz.func113.trans (congrArg some (by kernel_rfl))
  f241 := Tryz.func114.trans (congrArg some (by kernel_rfl))
  f276 := Tryz.func128.trans (congrArg some (by kernel_rfl))
  f277 := Tryz.func129.trans (congrArg some (by kernel_rfl))
  t0 := Tryz.underlying0
  a0 := Tryz.isAgg0
  z0 := Tryz.sizeOf0
  v0 := Tryz.zeroValue0
  t3 := Tryz.underlying3
  a3 := Tryz.isAgg3
  z3 := Tryz.sizeOf3
  v3 := Tryz.zeroValue3
  t4 := Tryz.underlying4
  a4 := Tryz.isAgg4
  z4 := Tryz.sizeOf4
  v4 := Tryz.zeroValue4
  t9 := Tryz.underlying9
  a9 := Tryz.isAgg9
  z9 := Tryz.sizeOf9
  v9 := Tryz.zeroValue9
  t20 := Tryz.underlying20
  a20 := Tryz.isAgg20
  z20 := Tryz.sizeOf20
  v20 := Tryz.zeroValue20
  t31 := Tryz.underlying95
  a31 := Tryz.isAgg95
  z31 := Tryz.sizeOf95
  v31 := Tryz.zeroValue95
  t37 := Tryz.underlying135
  a37 := Tryz.isAgg135
  z37 := Tryz.sizeOf135
  v37 := Tryz.zeroValue135
  t70 := Tryz.underlying144
  a70 := Tryz.isAgg144
  z70 := Tryz.sizeOf144
  v70 := Tryz.zeroValue144
  t72 := Tryz.underlying146
  a72 := Tryz.isAgg146
  z72 := Tryz.sizeOf146
  v72 := Tryz.zeroValue146
  t75 := Tryz.underlying79
  a75 := Tryz.isAgg79
  z75 := Tryz.sizeOf79
  v75 := Tryz.zeroValue79
  t76 := Tryz.underlying148
  a76 := Tryz.isAgg148
  z76 := Tryz.sizeOf148
  v76 := Tryz.zeroValue148
  t127 := Tryz.underlying183
  a127 := Tryz.isAgg183
  z127 := Tryz.sizeOf183
  v127 := Tryz.zeroValue183
  t164 := Tryz.underlying208
  a164 := Tryz.isAgg208
  z164 := Tryz.sizeOf208
  v164 := Tryz.zeroValue208 }
theorem extraJ : Builder.Extra Tryz.prog Tryz.laysJoin_ren := {
  sizeBuilder := by kernel_rfl
  liesBuilder := by kernel_rfl
  t5 := Tryz.underlying5
  a5 := Tryz.isAgg5
  z5 := Tryz.sizeOf5
  v5 := Tryz.zeroValue5
  infoByte := by kernel_rfl
  cellsByte := by kernel_rfl
  sizeByte := by kernel_rfl
  neB5 := by decide }
class TabK extends Tab where
  pow : pw = Lib.pow10Tab
variable [TabK]
def fmtS (n : Int) : ByteArray := ⟨(Lib.itoa n).toArray⟩
theorem fmtS_size (n : Int) (h0 : -9223372036854775808 ≤ n := by omega) (h1 : n ≤ 9223372036854775807 := by omega) : (fmtS n).size ≤ 24 := by
  have := Lib.itoa_length_le n h0 h1
  simp only [fmtS, ByteArray.size, List.size_toArray]; omega
theorem tab_is {g : Gh} {w : World} (hH : ∀ b o, g.H b = some o → w.heap[b]? = some o) (hg : GlobOk Tryz.prog g) : Lib.TabIs Tryz.prog w "internal/strconv.uint64pow10" .u64 Lib.pow10Tab := by
  have hn : Tryz.prog.globalNamed "internal/strconv.uint64pow10" = some 1 := by kernel_rfl
  obtain ⟨h1, arr, T, fr, h2, h3⟩ := hg 1 _ Tab.tab0
  have h4 := hH _ _ h2
  unfold Lib.TabIs World.var?
  rw [hn]
  simp only [Option.bind_some, h4]
  cases h1 with
  | vptr _ _ _ arr' T' fr' k1 k2 k3 k4 =>
    rw [h2] at k1
    injection k1 with k1
    injection k1 with k1
    subst k1
    congr 1
    have hl : arr.size = Lib.pow10Tab.length := by rw [h3, List.length_map, TabK.pow]
    apply Array.ext
    · simp [hl]
    · intro j hj hj2
      have hj3 : j < Lib.pow10Tab.length := by omega
      have := k4 j (by rw [List.length_map, TabK.pow]; exact hj3)
      simp only [List.getElem_map, TabK.pow, Nat.zero_add] at this
      rw [Array.getD_eq_getD_getElem?, Array.getElem?_eq_getElem hj, Option.getD_some] at this
      generalize arr[j] = v at this
      cases this
      simp
theorem grow_below (w : World) (k : Nat) (os : Array Obj) : Below w.heap.size w (Go.Sort.grow (w.drewN k) os) :=
  ⟨rfl, rfl, rfl, by simp [Go.Sort.grow, World.drewN], fun j hj => by simp [Go.Sort.grow, World.drewN, Array.getElem?_append_left hj]⟩
theorem itoa_ok (n : Int) (h0 : -1000000 ≤ n) (h1 : n ≤ 1000000) : PureF Tryz.prog 49 [.int .i64 n] [.str (fmtS n)] := by
  refine pureF_of_calls fun g w vals hv hH hg => ?_
  obtain ⟨v, rfl⟩ : ∃ v, vals = #[v] := by
    have := hv.1
    match vals, this with
    | ⟨[v]⟩, _ => exact ⟨v, rfl⟩
  have hr : R Tryz.prog g (.int .i64 n) v := by simpa using hv.2 0 (by simp)
  cases hr
  refine (Any.strconv_Itoa Tryz.laysItoa n (by omega) (by omega) w (tab_is hH hg)).mono ?_
  rintro e w' ⟨rfl, k, os, rfl⟩
  exact ⟨grow_below w k os, _, rfl, fun g' => .str _⟩
theorem join_ok (l : List ByteArray) (sep : ByteArray) (hn : l.length ≤ 140737488355328) (hl : (Lib.join (l.map (·.data.toList)) sep.data.toList).length ≤ 140737488355328) :
    PureF Tryz.prog 54 [.rows 9 (l.map fun s => [.str s]), .str sep] [.str ⟨(Lib.join (l.map (·.data.toList)) sep.data.toList).toArray⟩] := by
  refine pureF_of_calls fun g w vals hv hH hg => ?_
  obtain ⟨v, u, rfl⟩ : ∃ v u, vals = #[v, u] := by
    have := hv.1
    match vals, this with
    | ⟨[v, u]⟩, _ => exact ⟨v, u, rfl⟩
  have h0 : R Tryz.prog g (.rows 9 (l.map fun s => [.str s])) v := by simpa using hv.2 0 (by simp)
  have h1 : R Tryz.prog g (.str sep) u := by simpa using hv.2 1 (by simp)
  cases h1
  generalize hr : (l.map fun s => [PV.str s]) = r at h0
  cases h0 with
  | rows0 _ a cap =>
    have : l = [] := by simpa using hr
    subst this
    refine (Any.strings_Join_none Tryz.laysJoin extraJ a cap sep w).mono ?_
    rintro e w' ⟨rfl, rfl⟩
    exact ⟨Below.refl _ _, _, rfl, fun g' => .str _⟩
  | rows _ _ b off cap arr T fr hb hes hc hnn hlen hp hce hrr =>
    subst hr
    have hh := hH _ _ hb
    have hsz : b < w.heap.size := (Array.getElem?_eq_some_iff.1 hh).1
    have h1 : Tryz.prog.cellsOf 9 = 1 := cellsOf9
    rw [List.length_map] at hc ⊢
    refine (Any.strings_Join Tryz.laysJoin extraJ b off cap l sep w (fun j x hx => ?_) hsz hn hc hl).mono ?_
    · obtain ⟨hj, hx⟩ := List.getElem?_eq_some_iff.1 hx
      have := hrr j 0 (by simpa using hj) (by simp)
      simp only [List.getElem_map, List.getElem_cons_zero, h1, Nat.mul_one, Nat.add_zero] at this
      unfold World.cell?
      simp only [hh]
      have hj2 : off + j < arr.size := by rw [List.length_map, h1] at hnn; omega
      rw [Array.getD_eq_getD_getElem?, Array.getElem?_eq_getElem hj2, Option.getD_some] at this
      simp [hj2]
      generalize arr[off + j] = z at this
      cases this
      rw [hx]
    · rintro e w' ⟨rfl, hw⟩
      exact ⟨hw, _, rfl, fun g' => .str _⟩
end Go.Proofs.YtnmfmeehmieifaaGreatDoor
namespace Go.Proofs.YtnmfmeehmieifaaGreatDoor
open Go Sg
set_option linter.unusedSectionVars false
variable [Glob]
set_option maxRecDepth 100000
set_option linter.unusedSimpArgs false
set_option linter.unusedVariables false
set_option maxHeartbeats 4000000
def cut (n : Int) : Int := max (-1000000) (min 1000000 n)
theorem l1Max_ok (a b : Int) : PureF Tryz.prog 115 [.int .i64 a, .int .i64 b] [.int .i64 (max a b)] := by
  refine pureF_of Tryz.func115 rfl Tryz.ntmps115 (by simp) T_ ?_
  intro f0 B Q hQ
  refine g_ [0,1] ?_
  refine g_ [0,1,7] ?_
  refine c_ (fun hc0 => ?_) fun hc0 => ?_
  ·
    refine g_ [4] ?_
    refine e_ Tryz.results115 ?_
    first
    | exact True.intro
    | omega
  refine g_ [4] ?_
  refine e_ Tryz.results115 ?_
  first
  | exact True.intro
  | omega
theorem l1Min_ok (a b : Int) : PureF Tryz.prog 116 [.int .i64 a, .int .i64 b] [.int .i64 (min a b)] := by
  refine pureF_of Tryz.func116 rfl Tryz.ntmps116 (by simp) T_ ?_
  intro f0 B Q hQ
  refine g_ [0,1] ?_
  refine g_ [0,1,7] ?_
  refine c_ (fun hc0 => ?_) fun hc0 => ?_
  ·
    refine g_ [4] ?_
    refine e_ Tryz.results116 ?_
    first
    | exact True.intro
    | omega
  refine g_ [4] ?_
  refine e_ Tryz.results116 ?_
  first
  | exact True.intro
  | omega
theorem cut_ok (n : Int) : PureF Tryz.prog 97 [.int .i64 n] [.int .i64 (cut n)] := by
  refine pureF_of Tryz.func97 rfl Tryz.ntmps97 (by simp) T_ ?_
  intro f0 B Q hQ
  refine g_ [0] ?_
  refine n_ ?_
  refine wpM_regionK [2] rfl fun Q1 hQ1 => ?_
  refine S_ ?_
  refine cp_ (l1Min_ok 1000000 n) Tryz.call116 ?_
  refine cp_ (l1Max_ok (-1000000) (min 1000000 n)) Tryz.call115 ?_
  refine hQ1 _ _ (S_ ?_);clear hQ1 Q1
  refine e_ Tryz.results97 ?_
  first
  | exact True.intro
  | rfl
structure AD where
  kind : Int
  at' : Int
  deriving DecidableEq, Inhabited
def AD.cs (a : AD) : List PV := [.int .i64 a.kind, .int .i64 a.at']
@[go_sem] theorem AD.cs_eq (a : AD) : a.cs = [.int .i64 a.kind, .int .i64 a.at'] := rfl
theorem eqAD (d : Nat) (a b c e : Int) : eqA Tryz.prog (d + 2) 65 (.agg [.int .i64 a, .int .i64 b]) (.agg [.int .i64 c, .int .i64 e]) = some (a == c && b == e) := by
  unfold eqA
  simp only [Tryz.underlying65, Tryz.stoodInHeld65, Bool.false_eq_true, if_false, eqFs]
  simp -implicitDefEqProofs (disch := omega) only [go_sem, eqA, eqFs, ne_eq, String.reduceEq]
  cases h1 : a == c <;> cases h2 : b == e <;> simp [eqA, Tryz.underlying3, h1, h2]
@[go_sem] theorem neqAD (x y : Operand) (a b c e : Int) : binOpA Tryz.prog .neq 65 x y (.agg [.int .i64 a, .int .i64 b]) (.agg [.int .i64 c, .int .i64 e]) = some (.bool (!(a == c && b == e))) := by
  simp only [binOpA, Tryz.eqGuardType65]
  rw [eqAD 9998]; rfl
@[go_sem] theorem eqlAD (x y : Operand) (a b c e : Int) : binOpA Tryz.prog .eql 65 x y (.agg [.int .i64 a, .int .i64 b]) (.agg [.int .i64 c, .int .i64 e]) = some (.bool (a == c && b == e)) := by
  simp only [binOpA, Tryz.eqGuardType65]
  rw [eqAD 9998]; rfl
def AD.ok (a : AD) : Bool := decide (a.kind ≥ 1) && decide (a.kind ≤ 3) && decide (a.at' ≥ 0) && decide (a.at' < 6)
theorem addrOk_ok (a : AD) : PureF Tryz.prog 79 [.agg a.cs] [.bool a.ok] := by
  refine pureF_of Tryz.func79 rfl Tryz.ntmps79 (by simp) T_ ?_
  intro f0 B Q hQ
  refine g_ [1] ?_
  refine gD_ [2] ?_
  refine e_ Tryz.results79 ?_
  first
  | exact True.intro
  | rfl
inductive Ex where
  | mk (kind n : Int) (a : AD) (kids : List Ex)
  deriving Inhabited
def Ex.kind : Ex → Int | .mk k _ _ _ => k
def Ex.n : Ex → Int | .mk _ n _ _ => n
def Ex.a : Ex → AD | .mk _ _ a _ => a
def Ex.kids : Ex → List Ex | .mk _ _ _ l => l
mutual
def Ex.cs : Ex → List PV
  | .mk k n a l => [.int .i64 k, .int .i64 n, .int .i64 a.kind, .int .i64 a.at', .rows 68 (Ex.csL l)]
def Ex.csL : List Ex → List (List PV)
  | [] => []
  | e :: l => e.cs :: Ex.csL l
end
@[go_sem] theorem Ex.cs_eq (e : Ex) : e.cs = [.int .i64 e.kind, .int .i64 e.n, .int .i64 e.a.kind, .int .i64 e.a.at', .rows 68 (Ex.csL e.kids)] := by cases e; simp only [Ex.cs, Ex.kind, Ex.n, Ex.a, Ex.kids]
theorem Ex.csL_map (l : List Ex) : Ex.csL l = l.map Ex.cs := by
  induction l with
  | nil => rfl
  | cons e l ih => simp [Ex.csL, ih]
@[go_sem] theorem Ex.csL_len (l : List Ex) : (Ex.csL l).length = l.length := by simp [Ex.csL_map]
@[go_sem] theorem Ex.csL_get (l : List Ex) (k : Nat) (h : k < l.length) : (Ex.csL l).getD k [] = (l.getD k default).cs := by simp [Ex.csL_map, List.getD, h]
def kidsN (k : Int) : Int := if k == 1 || k == 2 then 0 else if k == 10 then 1 else if decide (k ≥ 3) && decide (k ≤ 9) then 2 else -1
theorem l3Kids_ok (k : Int) : PureF Tryz.prog 120 [.int .i64 k] [.int .i64 (kidsN k)] := by
  refine pureF_of Tryz.func120 rfl Tryz.ntmps120 (by simp) T_ ?_
  intro f0 B Q hQ
  refine g_ [0] ?_
  refine gD_ [0,3] ?_
  refine c_ (fun hc0 => ?_) fun hc0 => ?_
  ·
    refine g_ [2] ?_
    refine e_ Tryz.results120 ?_
    first
    | exact True.intro
    | simp [kidsN, *]
  refine g_ [0,10] ?_
  refine c_ (fun hc1 => ?_) fun hc1 => ?_
  ·
    refine g_ [2] ?_
    refine e_ Tryz.results120 ?_
    first
    | exact True.intro
    | simp [kidsN, *]
  refine gD_ [13] ?_
  refine c_ (fun hc2 => ?_) fun hc2 => ?_
  ·
    refine g_ [2] ?_
    refine e_ Tryz.results120 ?_
    first
    | exact True.intro
    | simp [kidsN, *]
  refine g_ [2] ?_
  refine e_ Tryz.results120 ?_
  first
  | exact True.intro
  | simp [kidsN, *]
end Go.Proofs.YtnmfmeehmieifaaGreatDoor
namespace Go.Proofs.YtnmfmeehmieifaaGreatDoor
open Go Sg
set_option linter.unusedSectionVars false
variable [Glob]
set_option maxRecDepth 100000
set_option linter.unusedSimpArgs false
set_option linter.unusedVariables false
set_option maxHeartbeats 4000000
mutual
def Ex.sz : Ex → Nat | .mk _ _ _ l => 1 + Ex.szL l
def Ex.szL : List Ex → Nat | [] => 0 | e :: l => e.sz + Ex.szL l
end
theorem Ex.sz_eq (e : Ex) : e.sz = 1 + Ex.szL e.kids := by cases e; simp only [Ex.sz, Ex.kids]
theorem Ex.sz_pos (e : Ex) : 0 < e.sz := by rw [Ex.sz_eq]; omega
theorem Ex.len_szL (l : List Ex) : l.length ≤ Ex.szL l := by
  induction l with
  | nil => simp
  | cons e l ih => simp only [List.length_cons, Ex.szL]; have := e.sz_pos; omega
theorem Ex.get_szL (l : List Ex) (k : Nat) (h : k < l.length) : (l.getD k default).sz ≤ Ex.szL l := by
  induction l generalizing k with
  | nil => simp at h
  | cons e l ih =>
    simp only [Ex.szL]
    cases k with
    | zero => simp
    | succ k =>
      have := ih k (by simpa using h)
      simp only [List.getD_cons_succ]; omega
theorem Ex.kid_sz {e : Ex} {k : Nat} (h : k < e.kids.length) : (e.kids.getD k default).sz < e.sz := by
  have := Ex.get_szL e.kids k h
  rw [Ex.sz_eq e]; omega
theorem Ex.kids_len (e : Ex) : e.kids.length < e.sz := by
  have := Ex.len_szL e.kids
  rw [Ex.sz_eq e]; omega
def formD : Nat → Ex → Bool
  | 0, _ => false
  | d + 1, e => if kidsN e.kind != (e.kids.length : Int) then false
    else if (e.kind == 1 && cut e.n != e.n) || (e.kind != 1 && e.n != 0) then false
    else if (e.kind == 2 && !e.a.ok) || (e.kind != 2 && !(e.a.kind == 0 && e.a.at' == 0)) then false
    else e.kids.all (formD d)
theorem take_all {α : Type} [Inhabited α] (p : α → Bool) (l : List α) (i : Nat) (h : i < l.length) : (l.take (i + 1)).all p = ((l.take i).all p && p (l.getD i default)) := by
  rw [List.take_succ_eq_append_getElem h, List.all_append]
  simp [List.getD, h]
theorem all_no {α : Type} [Inhabited α] {p : α → Bool} {l : List α} {i : Nat} (h : i < l.length) (hp : (!p (l.getD i default)) = true) : l.all p = false := by
  rw [List.all_eq_false]
  refine ⟨l.getD i default, ?_, by simpa using hp⟩
  rw [List.getD_eq_getElem?_getD, List.getElem?_eq_getElem h]; exact List.getElem_mem h
theorem all_yes {α : Type} [Inhabited α] {p : α → Bool} {l : List α} {i n : Nat} (hi : i + n = l.length) (h : ¬ (i : Int) < (l.length : Int)) (hp : (l.take i).all p = true) : l.all p = true := by
  have : i = l.length := by omega
  rwa [List.take_of_length_le (by omega)] at hp
theorem l3Form_ok (d : Nat) : ∀ (e : Ex) (deep : Int), deep.toNat = d → deep ≤ 1000000 → e.sz ≤ 1099511627776 → PureF Tryz.prog 107 [.agg e.cs, .int .i64 deep] [.bool (formD d e)] := by
  induction d with
  | zero =>
    intro e deep hd hdl hs
    have hlen := e.kids_len
    refine pureF_of Tryz.func107 rfl Tryz.ntmps107 (by simp) T_ ?_
    intro f0 B Q hQ
    have hlt : deep < 1 := by omega
    refine g_ [1,2] ?_
    refine n_ ?_
    refine dr_ mixed [1,2,16] 0 1 [B] [⟨[1],[],[],[],false⟩,⟨[6],[],[],[],false⟩,⟨[7],[],[],[],false⟩,⟨[2,8],[],[],[],false⟩,⟨[8,9],[0],[],[],false⟩,⟨[8,10],[],[],[],true⟩,⟨[2,8],[],[],[],false⟩,⟨[8,12],[0],[],[],false⟩,⟨[8,13],[],[],[],false⟩,⟨[8,11,14],[],[],[],false⟩,⟨[8,15],[],[],[],false⟩] [0,1,2,3,4,6,7,8,5,9,10] [[],[0],[0,1],[0,1,2],[0,1,2,3],[0,1,2,3,4],[0,1,2],[0,1,2,6],[0,1,2,6,7],[0,1,2,3,4,5,6,7,8],[0,1,2,3,4,5,6,7,8,9]] 1 ?_
    intro O A K hO hA hK;simp only [atL_cons,atL_nil,Nat.reduceAdd,Nat.zero_add] at hO hA
    refine SE_ ?_
    first | refine lg_ (fun hb => l3Kids_ok e.kind) Tryz.call120 ?_ | refine lpE_ (l3Kids_ok e.kind) Tryz.call120 ?_
    refine hK _ (S_ ?_);clear hK K hO hA O A
    refine c_ (fun hc0 => ?_) fun hc0 => ?_
    ·
      refine g_ [4] ?_
      refine e_ Tryz.results107 ?_
      first
      | exact True.intro
      | rfl
    simp [hlt] at hc0
  | succ d ih =>
    intro e deep hd hdl hs
    have hlen := e.kids_len
    refine pureF_of Tryz.func107 rfl Tryz.ntmps107 (by simp) T_ ?_
    intro f0 B Q hQ
    have hlt : decide (deep < 1) = false := by simp; omega
    refine g_ [1,2] ?_
    refine n_ ?_
    refine dr_ mixed [1,2,16] 0 1 [B] [⟨[1],[],[],[],false⟩,⟨[6],[],[],[],false⟩,⟨[7],[],[],[],false⟩,⟨[2,8],[],[],[],false⟩,⟨[8,9],[0],[],[],false⟩,⟨[8,10],[],[],[],true⟩,⟨[2,8],[],[],[],false⟩,⟨[8,12],[0],[],[],false⟩,⟨[8,13],[],[],[],false⟩,⟨[8,11,14],[],[],[],false⟩,⟨[8,15],[],[],[],false⟩] [0,1,2,3,4,6,7,8,5,9,10] [[],[0],[0,1],[0,1,2],[0,1,2,3],[0,1,2,3,4],[0,1,2],[0,1,2,6],[0,1,2,6,7],[0,1,2,3,4,5,6,7,8],[0,1,2,3,4,5,6,7,8,9]] 1 ?_
    intro O A K hO hA hK;simp only [atL_cons,atL_nil,Nat.reduceAdd,Nat.zero_add] at hO hA
    refine SE_ ?_
    first | refine lg_ (fun hb => l3Kids_ok e.kind) Tryz.call120 ?_ | refine lpE_ (l3Kids_ok e.kind) Tryz.call120 ?_
    refine hK _ (S_ ?_);clear hK K hO hA O A
    refine c_ (fun hc0 => ?_) fun hc0 => ?_
    ·
      rw [hlt, Bool.false_or] at hc0
      refine g_ [4] ?_
      refine e_ Tryz.results107 ?_
      first
      | exact True.intro
      | clear ih hQ
        simp only [formD, *, ↓reduceIte, Bool.false_eq_true] <;> first | exact (all_no hi2 hc4).symm | exact (all_yes hi hc3 hall).symm
    rw [hlt, Bool.false_or] at hc0
    refine n_ ?_
    refine dr_ mixed [1,2,37] 0 1 [B] [⟨[2],[],[],[],false⟩,⟨[17],[0],[],[],false⟩,⟨[18],[],[],[],false⟩,⟨[19],[],[],[],false⟩,⟨[2,20],[],[],[],false⟩,⟨[20,21],[0],[],[],false⟩,⟨[20,22],[],[],[],true⟩,⟨[2,20],[],[],[],false⟩,⟨[20,24],[0],[],[],false⟩,⟨[20,23,25],[],[],[],false⟩,⟨[20,26],[],[],[],false⟩,⟨[27],[],[],[],false⟩,⟨[2,28],[],[],[],false⟩,⟨[28,29],[0],[],[],false⟩,⟨[28,30],[],[],[],false⟩,⟨[28,31],[],[],[],false⟩,⟨[2,32],[],[],[],false⟩,⟨[32,33],[0],[],[],false⟩,⟨[32,34],[],[],[],false⟩,⟨[28,32,35],[],[],[],false⟩,⟨[28,36],[],[],[],false⟩] [0,1,2,3,4,5,7,8,6,9,10,11,12,13,14,15,16,17,18,19,20] [[],[0],[0,1],[0,1,2],[0,1,2,3],[0,1,2,3,4],[0,1,2,3,4,5],[0,1,2,3],[0,1,2,3,7],[0,1,2,3,4,5,6,7,8],[0,1,2,3,4,5,6,7,8,9],[0,1,2,3,4,5,6,7,8,9,10],[0,1,2,3,4,5,6,7,8,9,10,11],[0,1,2,3,4,5,6,7,8,9,10,11,12],[0,1,2,3,4,5,6,7,8,9,10,11,12,13],[0,1,2,3,4,5,6,7,8,9,10,11,12,13,14],[0,1,2,3,4,5,6,7,8,9,10,11,12,13,14,15],[0,1,2,3,4,5,6,7,8,9,10,11,12,13,14,15,16],[0,1,2,3,4,5,6,7,8,9,10,11,12,13,14,15,16,17],[0,1,2,3,4,5,6,7,8,9,10,11,12,13,14,15,16,17,18],[0,1,2,3,4,5,6,7,8,9,10,11,12,13,14,15,16,17,18,19]] 1 ?_
    intro O A K hO hA hK;simp only [atL_cons,atL_nil,Nat.reduceAdd,Nat.zero_add] at hO hA
    refine SE_ ?_
    first | refine lg_ (fun hb => cut_ok e.n) Tryz.call97 ?_ | refine lpE_ (cut_ok e.n) Tryz.call97 ?_
    refine hK _ (S_ ?_);clear hK K hO hA O A
    refine c_ (fun hc1 => ?_) fun hc1 => ?_
    ·
      refine g_ [4] ?_
      refine e_ Tryz.results107 ?_
      first
      | exact True.intro
      | clear ih hQ
        simp only [formD, *, ↓reduceIte, Bool.false_eq_true] <;> first | exact (all_no hi2 hc4).symm | exact (all_yes hi hc3 hall).symm
    refine n_ ?_
    refine wpM_regionK [1,2,57] rfl fun Q1 hQ1 => ?_
    refine SD_ ?_
    first | refine cg_ (fun hb => addrOk_ok e.a) Tryz.call79 ?_ | refine cpD_ (addrOk_ok e.a) Tryz.call79 ?_
    refine hQ1 _ _ (S_ ?_);clear hQ1 Q1
    refine c_ (fun hc2 => ?_) fun hc2 => ?_
    ·
      refine g_ [4] ?_
      refine e_ Tryz.results107 ?_
      first
      | exact True.intro
      | clear ih hQ
        simp only [formD, *, ↓reduceIte, Bool.false_eq_true] <;> first | exact (all_no hi2 hc4).symm | exact (all_yes hi hc3 hall).symm
    refine g_ [1,2,5] ?_
    refine n_ ?_
    refine wpM_loopS (fun s n s' => ∃ i M : Nat, i + n = e.kids.length ∧ s.M ≤ M ∧ (e.kids.take i).all (formD d) = true ∧ s' = { s with env := setE 5 (.int .i64 i) s.env, M := M }) (e.kids.length) ?_ ?_
    ·
      refine .of ⟨0, _, by omega, Nat.le_refl _, by simp, rfl⟩ ?_ ?_ ?_ rfl rfl (Nat.le_refl _) rfl <;> exact L_
    rintro n s' ⟨i, M, hi, hM, hall, rfl⟩
    try refine S_ ?_
    refine g_ [1,2,5,62] ?_
    refine c_ (fun hc3 => ?_) fun hc3 => ?_
    ·
      have hi2 : i < e.kids.length := by omega
      refine n_ ?_
      refine wpM_regionK [1,2,5,73] rfl fun Q1 hQ1 => ?_
      refine S_ ?_
      refine cp_ (ih (e.kids.getD i default) (deep - 1) (by omega) (by omega) (by have := Ex.kid_sz hi2; omega)) Tryz.call107 ?_
      refine hQ1 _ _ (S_ ?_);clear hQ1 Q1
      refine c_ (fun hc4 => ?_) fun hc4 => ?_
      ·
        refine g_ [4] ?_
        refine e_ Tryz.results107 ?_
        first
        | exact True.intro
        | clear ih hQ
          simp only [formD, *, ↓reduceIte, Bool.false_eq_true] <;> first | exact (all_no hi2 hc4).symm | exact (all_yes hi hc3 hall).symm
      refine g_ [1,2,5] ?_
      refine .of ⟨n - 1, by omega, i + 1, M, by omega, hM, ?_, rfl⟩ ?_ ?_ ?_ rfl rfl (Nat.le_refl _) rfl
      · rw [take_all _ _ _ hi2, hall]; simp at hc4; simp [hc4]
      all_goals exact L_
    refine g_ [4] ?_
    refine e_ Tryz.results107 ?_
    first
    | exact True.intro
    | clear ih hQ
      simp only [formD, *, ↓reduceIte, Bool.false_eq_true] <;> first | exact (all_no hi2 hc4).symm | exact (all_yes hi hc3 hall).symm
def manyD : Nat → Ex → Nat
  | 0, _ => 1
  | d + 1, e => 1 + (e.kids.map (manyD d)).sum
theorem manyD_le (d : Nat) : ∀ e : Ex, manyD d e ≤ e.sz := by
  induction d with
  | zero => intro e; exact e.sz_pos
  | succ d ih =>
    intro e
    have h : ∀ l : List Ex, (l.map (manyD d)).sum ≤ Ex.szL l := by
      intro l
      induction l with
      | nil => simp [Ex.szL]
      | cons x l ihl => simp only [List.map_cons, List.sum_cons, Ex.szL]; have := ih x; omega
    have := h e.kids
    rw [Ex.sz_eq]; simp only [manyD]; omega
theorem take_sum {α : Type} [Inhabited α] (f : α → Nat) (l : List α) (i : Nat) (h : i < l.length) : ((l.take (i + 1)).map f).sum = ((l.take i).map f).sum + f (l.getD i default) := by
  rw [List.take_succ_eq_append_getElem h, List.map_append, List.sum_append]
  simp [List.getD, h]
theorem take_sum_le {α : Type} (f : α → Nat) (l : List α) (i : Nat) : ((l.take i).map f).sum ≤ (l.map f).sum := by
  have : (l.map f).sum = ((l.take i).map f).sum + ((l.drop i).map f).sum := by rw [← List.sum_append, ← List.map_append, List.take_append_drop]
  omega
theorem l3Many_ok (d : Nat) : ∀ (e : Ex) (deep : Int), deep.toNat = d → deep ≤ 1000000 → e.sz ≤ 1099511627776 → PureF Tryz.prog 108 [.agg e.cs, .int .i64 deep] [.int .i64 (manyD d e : Nat)] := by
  induction d with
  | zero =>
    intro e deep hd hdl hs
    have hlen := e.kids_len
    refine pureF_of Tryz.func108 rfl Tryz.ntmps108 (by simp) T_ ?_
    intro f0 B Q hQ
    have hlt : decide (deep > 0) = false := by simp; omega
    refine g_ [1,2] ?_
    refine g_ [1,2,5] ?_
    refine g_ [1,2,5,6] ?_
    refine n_ ?_
    refine wpM_loopS (fun s n s' => s' = s) (0) ?_ ?_
    ·
      exact .here rfl
    rintro n s' rfl
    try refine S_ ?_
    refine gD_ [1,2,5,6,15] ?_
    refine c_ (fun hc0 => ?_) fun hc0 => ?_
    · simp [hlt] at hc0
    refine g_ [4] ?_
    refine e_ Tryz.results108 ?_
    first
    | exact True.intro
    | rfl
  | succ d ih =>
    intro e deep hd hdl hs
    have hlen := e.kids_len
    refine pureF_of Tryz.func108 rfl Tryz.ntmps108 (by simp) T_ ?_
    intro f0 B Q hQ
    have hlt : decide (deep > 0) = true := by simp; omega
    have hmx := manyD_le (d + 1) e
    refine g_ [1,2] ?_
    refine g_ [1,2,5] ?_
    refine g_ [1,2,5,6] ?_
    refine n_ ?_
    refine wpM_loopS (fun s n s' => ∃ i M : Nat, i + n = e.kids.length ∧ s.M ≤ M ∧ s' = { s with env := setE 6 (.int .i64 (i : Nat)) (setE 5 (.int .i64 ((1 + ((e.kids.take i).map (manyD d)).sum : Nat) : Int)) s.env), M := M }) (e.kids.length) ?_ ?_
    ·
      refine .of ⟨0, _, by omega, Nat.le_refl _, rfl⟩ ?_ ?_ ?_ rfl rfl (Nat.le_refl _) rfl <;> exact L_
    rintro n s' ⟨i, M, hi, hM, rfl⟩
    try refine S_ ?_
    refine n_ ?_
    refine wpM_regionK [1,2,5,6,15] rfl fun Q1 hQ1 => ?_
    simp (contextual := true) (maxSteps := 1000000) (implicitDefEqProofs := false) (disch := first | omega | (simp only [decide_eq_true_eq, decide_eq_false_iff_not, Bool.and_eq_true, Bool.or_eq_false_iff, Bool.not_eq_true'] at *; omega)) only [go_sem, hlt, Bool.and_true]
    refine hQ1 _ _ (S_ ?_);clear hQ1 Q1
    refine c_ (fun hc0 => ?_) fun hc0 => ?_
    ·
      have hi2 : i < e.kids.length := by omega
      have hsum := take_sum (manyD d) e.kids i hi2
      have hle := take_sum_le (manyD d) e.kids (i + 1)
      simp only [manyD] at hmx
      rw [hsum] at hle
      refine n_ ?_
      refine wpM_regionK [1,2,5,6] rfl fun Q1 hQ1 => ?_
      refine S_ ?_
      refine cp_ (ih (e.kids.getD i default) (deep - 1) (by omega) (by omega) (by have := Ex.kid_sz hi2; omega)) Tryz.call108 ?_
      refine hQ1 _ _ (S_ ?_);clear hQ1 Q1
      refine g_ [1,2,5,6] ?_
      refine .of ⟨n - 1, by omega, i + 1, M, by omega, hM, rfl⟩ ?_ ?_ ?_ rfl rfl (Nat.le_refl _) rfl
      · simp -implicitDefEqProofs (disch := omega) only [go_sem, PV.int.injEq]
        rw [hsum]
        constructor <;> omega
      all_goals exact L_
    refine g_ [4] ?_
    refine e_ Tryz.results108 ?_
    first
    | exact True.intro
    | have hie : i = e.kids.length := by omega
      simp only [manyD]
      rw [hie, List.take_of_length_le (Nat.le_refl _)]
def Ex.ok (e : Ex) : Bool := formD 6 e && decide (manyD 6 e ≤ 14)
theorem exprOk_ok (e : Ex) (hs : e.sz ≤ 1099511627776) : PureF Tryz.prog 78 [.agg e.cs] [.bool e.ok] := by
  refine pureF_of Tryz.func78 rfl Tryz.ntmps78 (by simp) T_ ?_
  intro f0 B Q hQ
  refine g_ [1] ?_
  refine n_ ?_
  refine wpM_regionK [2] rfl fun Q1 hQ1 => ?_
  refine SD_ ?_
  refine cpD_ (l3Form_ok 6 e 6 rfl (by omega) hs) Tryz.call107 ?_
  first | refine cg_ (fun hb => l3Many_ok 6 e 6 rfl (by omega) hs) Tryz.call108 ?_ | refine cpD_ (l3Many_ok 6 e 6 rfl (by omega) hs) Tryz.call108 ?_
  refine hQ1 _ _ (S_ ?_);clear hQ1 Q1
  refine e_ Tryz.results78 ?_
  first
  | exact True.intro
  | have : decide ((manyD 6 e : Int) ≤ 14) = decide (manyD 6 e ≤ 14) := by simp; omega
    simp only [Ex.ok, this]
end Go.Proofs.YtnmfmeehmieifaaGreatDoor
namespace Go.Proofs.YtnmfmeehmieifaaGreatDoor
open Go Sg
set_option linter.unusedSectionVars false
variable [Glob]
set_option maxRecDepth 100000
set_option linter.unusedSimpArgs false
set_option linter.unusedVariables false
set_option maxHeartbeats 4000000
def rowsI (l : List Int) : List (List PV) := l.map fun x => [.int .i64 x]
def rowsB (l : List Bool) : List (List PV) := l.map fun x => [.bool x]
@[go_sem] theorem rowsI_len (l : List Int) : (rowsI l).length = l.length := by simp [rowsI]
@[go_sem] theorem rowsI_getD (l : List Int) (k : Nat) (h : k < l.length) : (rowsI l).getD k [] = [.int .i64 (l.getD k 0)] := by simp [rowsI, List.getD, h]
structure MM where
  i : List Int
  o : List Int
  v : List Int
  deriving DecidableEq, Inhabited
def MM.cs (m : MM) : List PV := [.rows 3 (rowsI m.i), .rows 3 (rowsI m.o), .rows 3 (rowsI m.v)]
@[go_sem] theorem MM.cs_eq (m : MM) : m.cs = [.rows 3 (rowsI m.i), .rows 3 (rowsI m.o), .rows 3 (rowsI m.v)] := rfl
def listOk (l : List Int) : Bool := l.all (fun x => !(cut x != x)) && (l.length : Int) == 6
def MM.ok (m : MM) : Bool := listOk m.i && listOk m.o && listOk m.v
structure MM.Sm (m : MM) : Prop where
  i : m.i.length ≤ 1099511627776
  o : m.o.length ≤ 1099511627776
  v : m.v.length ≤ 1099511627776
end Go.Proofs.YtnmfmeehmieifaaGreatDoor
namespace Go.Proofs.YtnmfmeehmieifaaGreatDoor
open Go Sg
set_option linter.unusedSectionVars false
variable [Glob]
set_option maxRecDepth 100000
set_option linter.unusedSimpArgs false
set_option linter.unusedVariables false
set_option maxHeartbeats 4000000
def numIs (b : Bool) : Int := if b then 1 else 0
def two (k a b : Int) : Int := if k == 3 then cut (cut a + cut b) else if k == 4 then cut (cut a - cut b) else if k == 5 then cut (cut a * cut b)
  else if k == 6 then numIs (decide (a < b)) else if k == 7 then numIs (a == b) else if k == 8 then numIs (a != 0 && b != 0) else numIs (a != 0 || b != 0)
def MM.get (m : MM) (a : AD) : Int := if a.kind == 1 then m.i.getD a.at'.toNat 0 else if a.kind == 2 then m.o.getD a.at'.toNat 0 else m.v.getD a.at'.toNat 0
structure MM.Six (m : MM) : Prop where
  i : m.i.length = 6
  o : m.o.length = 6
  v : m.v.length = 6
mutual
def Ex.of (m : MM) : Ex → Int
  | .mk k n a l => if k == 1 then n else if k == 2 then m.get a else if k == 10 then numIs (!((Ex.ofL m l).getD 0 0 != 0)) else two k ((Ex.ofL m l).getD 0 0) ((Ex.ofL m l).getD 1 0)
def Ex.ofL (m : MM) : List Ex → List Int
  | [] => []
  | e :: l => e.of m :: Ex.ofL m l
end
theorem form_inv {d : Nat} {e : Ex} (h : formD (d + 1) e = true) : kidsN e.kind = (e.kids.length : Int) ∧ (e.kind = 2 → e.a.ok = true) ∧ (∀ i, i < e.kids.length → formD d (e.kids.getD i default) = true) := by
  simp only [formD] at h
  split at h
  · cases h
  · rename_i h1
    split at h
    · cases h
    · split at h
      · cases h
      · rename_i h2 h3
        refine ⟨by simpa using h1, fun hk => ?_, fun i hi => ?_⟩
        · simp only [Bool.or_eq_true, Bool.and_eq_true, not_or, not_and, beq_iff_eq, bne_iff_ne] at h3
          have := h3.1 hk; simpa using this
        · rw [List.all_eq_true] at h
          refine h _ ?_
          rw [List.getD_eq_getElem?_getD, List.getElem?_eq_getElem hi]; exact List.getElem_mem hi
end Go.Proofs.YtnmfmeehmieifaaGreatDoor
namespace Go.Proofs.YtnmfmeehmieifaaGreatDoor
open Go Sg
set_option linter.unusedSectionVars false
variable [Glob]
set_option maxRecDepth 100000
set_option linter.unusedSimpArgs false
set_option linter.unusedVariables false
set_option maxHeartbeats 4000000
@[go_sem] theorem rowsI_flat (l : List Int) : (rowsI l).flatten = ints l := by
  induction l with
  | nil => rfl
  | cons x l ih => simp only [rowsI, ints, List.map_cons, List.flatten_cons] at ih ⊢; rw [ih]; rfl
theorem ints_nil : ([] : List PV) = ints [] := rfl
theorem rowsOf_ints {f : Nat → Option AObj} {id : Nat} {T : TypeId} {l : List Int} (h : f id = some (.cells T (ints l))) : RowsOf Tryz.prog f 3 id 0 l.length (rowsI l) := by
  refine ⟨by rw [cellsOf3]; omega, by simp [rowsI], ?_, T, _, h, ?_, ?_⟩
  · intro c hc
    simp only [rowsI, List.mem_map] at hc
    obtain ⟨x, _, rfl⟩ := hc
    rw [cellsOf3]; exact ⟨rfl, rfl⟩
  · rw [cellsOf3]; simp [ints]
  · rw [cellsOf3, rowsI_flat]; simp [ints, List.take_of_length_le]
@[go_sem] theorem ints_nil' : ints [] = [] := rfl
def ocs (x y z : Nat) : List PV := [.sl 3 x 0 6, .sl 3 y 0 6, .sl 3 z 0 6]
@[go_sem] theorem ocs_eq (x y z : Nat) : ocs x y z = [.sl 3 x 0 6, .sl 3 y 0 6, .sl 3 z 0 6] := rfl
def MM.ol (m : MM) (x y z : Nat) : List (Nat × AObj) := [(x, .cells 3 (ints m.i)), (y, .cells 3 (ints m.o)), (z, .cells 3 (ints m.v))]
@[go_sem] theorem MM.ol_eq (m : MM) (x y z : Nat) : m.ol x y z = [(x, .cells 3 (ints m.i)), (y, .cells 3 (ints m.o)), (z, .cells 3 (ints m.v))] := rfl
def MM.ou (m : MM) (x y z : Nat) : List (Nat × Option AObj) := [(x, some (.cells 3 (ints m.i))), (y, some (.cells 3 (ints m.o))), (z, some (.cells 3 (ints m.v)))]
@[go_sem] theorem MM.ou_eq (m : MM) (x y z : Nat) : m.ou x y z = [(x, some (.cells 3 (ints m.i))), (y, some (.cells 3 (ints m.o))), (z, some (.cells 3 (ints m.v)))] := rfl
def MM.tb (m : MM) (x y z : Nat) : List (TypeId × Nat × Nat × Nat × List (List PV)) := [(3, x, 0, 6, rowsI m.i), (3, y, 0, 6, rowsI m.o), (3, z, 0, 6, rowsI m.v)]
theorem MM.sub (m : MM) {x y z : Nat} (h1 : x ≠ y) (h2 : x ≠ z) (h3 : y ≠ z) : PV.subL (thOf (m.tb x y z)) (ocs x y z) = m.cs := by
  simp [ocs, MM.cs, PV.subL, PV.sub, thOf, MM.tb, h1, h2, h3]
theorem rowsOf_ints' {f : Nat → Option AObj} {id n : Nat} {T : TypeId} {l : List Int} (h : f id = some (.cells T (ints l))) (hn : l.length = n) : RowsOf Tryz.prog f 3 id 0 n (rowsI l) := by subst hn; exact rowsOf_ints h
theorem MM.tb_ok (m : MM) (hm : m.Six) {f : Nat → Option AObj} {x y z : Nat} (hx : f x = some (.cells 3 (ints m.i))) (hy : f y = some (.cells 3 (ints m.o))) (hz : f z = some (.cells 3 (ints m.v))) : ∀ q ∈ m.tb x y z, RowsOf Tryz.prog f q.1 q.2.1 q.2.2.1 q.2.2.2.1 q.2.2.2.2 := by
  intro q hq
  simp only [MM.tb, List.mem_cons, List.not_mem_nil, or_false] at hq
  rcases hq with rfl | rfl | rfl
  · exact rowsOf_ints' hx hm.i
  · exact rowsOf_ints' hy hm.o
  · exact rowsOf_ints' hz hm.v
theorem MM.frz (m : MM) (hm : m.Six) {f : Nat → Option AObj} {x y z : Nat} (hx : f x = some (.cells 3 (ints m.i))) (hy : f y = some (.cells 3 (ints m.o))) (hz : f z = some (.cells 3 (ints m.v))) : ∀ q ∈ m.tb x y z, q.2.1 ∈ [x, y, z] ∧ RowsOf Tryz.prog f q.1 q.2.1 q.2.2.1 q.2.2.2.1 q.2.2.2.2 := by
  intro q hq
  refine ⟨?_, m.tb_ok hm hx hy hz q hq⟩
  simp only [MM.tb, List.mem_cons, List.not_mem_nil, or_false] at hq
  rcases hq with rfl | rfl | rfl <;> simp
mutual
theorem sub_flatE (θ : TypeId → Nat → Nat → Nat → Option PV) : (e : Ex) → PV.subL θ e.cs = e.cs
  | .mk k n a l => by simp [Ex.cs, PV.subL, PV.sub]
end
theorem sub_rowsB (θ : TypeId → Nat → Nat → Nat → Option PV) (e : TypeId) (r : List (List PV)) : PV.sub θ (.rows e r) = .rows e r := rfl
@[go_sem low] theorem rep_ints (n : Nat) : rep n [.int .i64 0] = ints (List.replicate n 0) := by
  induction n with
  | zero => rfl
  | succ n ih => simp only [rep, ints, List.replicate_succ, List.map_cons, List.flatten_cons] at ih ⊢; rw [ih]; rfl
def MM.put (m : MM) (a : AD) (n : Int) : MM := if a.kind == 2 then { m with o := m.o.set a.at'.toNat (cut n) } else if a.kind == 3 then { m with v := m.v.set a.at'.toNat (cut n) } else m
theorem range_all (p : Nat → Bool) (i : Nat) : (List.range (i + 1)).all p = ((List.range i).all p && p i) := by
  rw [List.range_succ, List.all_append]; simp
theorem range_no {p : Nat → Bool} {i n : Nat} (h : i < n) (hp : p i = false) : (List.range n).all p = false := by
  rw [List.all_eq_false]
  exact ⟨i, List.mem_range.2 h, by simpa using hp⟩
end Go.Proofs.YtnmfmeehmieifaaGreatDoor
namespace Go.Proofs.YtnmfmeehmieifaaGreatDoor
open Go Sg
set_option linter.unusedSectionVars false
variable [Glob]
set_option maxRecDepth 100000
set_option linter.unusedSimpArgs false
set_option linter.unusedVariables false
set_option maxHeartbeats 4000000
def isNum (n : Int) : Bool := decide (n ≥ -1000000) && decide (n ≤ 1000000)
theorem isNum_cut (n : Int) : isNum n = (cut n == n) := by
  unfold isNum cut
  rw [Bool.eq_iff_iff]
  simp only [Bool.and_eq_true, decide_eq_true_eq, beq_iff_eq]
  omega
theorem isNum_ok (n : Int) : PureF Tryz.prog 69 [.int .i64 n] [.bool (isNum n)] := by
  refine pureF_of Tryz.func69 rfl Tryz.ntmps69 (by simp) T_ ?_
  intro f0 B Q hQ
  refine g_ [0] ?_
  refine gD_ [2] ?_
  refine e_ Tryz.results69 ?_
  first
  | exact True.intro
  | rfl
theorem iaddrOk_ok (a : AD) : PureF Tryz.prog 87 [.agg a.cs] [.bool a.ok] := by
  refine pureF_of Tryz.func87 rfl Tryz.ntmps87 (by simp) T_ ?_
  intro f0 B Q hQ
  refine g_ [1] ?_
  refine gD_ [2] ?_
  refine e_ Tryz.results87 ?_
  first
  | exact True.intro
  | rfl
def isTwo (k : Int) : Bool := decide (k ≥ 3) && decide (k ≤ 9)
theorem isTwo_ok (k : Int) : PureF Tryz.prog 123 [.int .i64 k] [.bool (isTwo k)] := by
  refine pureF_of Tryz.func123 rfl Tryz.ntmps123 (by simp) T_ ?_
  intro f0 B Q hQ
  refine g_ [0] ?_
  refine gD_ [2] ?_
  refine e_ Tryz.results123 ?_
  first
  | exact True.intro
  | rfl
def recOf (k : Int) : PV := if k == 1 then .iface 198 (.agg []) else if k == 2 then .iface 199 (.agg []) else if isTwo k then .iface 200 (.agg []) else if k == 10 then .iface 201 (.agg []) else .nilif
@[go_sem] theorem buildA_numReckoning : buildA Tryz.prog 198 [] = some (.agg []) := buildA_of (pl := []) (z := []) zeroA198 (placesA_struct Tryz.underlying198 rfl rfl) []
@[go_sem] theorem buildA_addrReckoning : buildA Tryz.prog 199 [] = some (.agg []) := buildA_of (pl := []) (z := []) zeroA199 (placesA_struct Tryz.underlying199 rfl rfl) []
@[go_sem] theorem buildA_twoReckoning : buildA Tryz.prog 200 [] = some (.agg []) := buildA_of (pl := []) (z := []) zeroA200 (placesA_struct Tryz.underlying200 rfl rfl) []
@[go_sem] theorem buildA_notReckoning : buildA Tryz.prog 201 [] = some (.agg []) := buildA_of (pl := []) (z := []) zeroA201 (placesA_struct Tryz.underlying201 rfl rfl) []
theorem recOf_pure (k : Int) : (recOf k).pure = true := by
  unfold recOf
  repeat' split
  all_goals rfl
theorem recOf_ok (k : Int) : PureF Tryz.prog 110 [.int .i64 k] [recOf k] := by
  refine pureF_of Tryz.func110 rfl Tryz.ntmps110 (by simp) (by simp [PV.pureL, recOf_pure]) ?_
  intro f0 B Q hQ
  refine g_ [0] ?_
  refine g_ [0,3] ?_
  refine c_ (fun hc0 => ?_) fun hc0 => ?_
  ·
    refine g_ [2] ?_
    refine e_ Tryz.results110 ?_
    first
    | exact True.intro
    | simp only [recOf, *, ↓reduceIte, Bool.false_eq_true]
  refine g_ [0,8] ?_
  refine c_ (fun hc1 => ?_) fun hc1 => ?_
  ·
    refine g_ [2] ?_
    refine e_ Tryz.results110 ?_
    first
    | exact True.intro
    | simp only [recOf, *, ↓reduceIte, Bool.false_eq_true]
  refine n_ ?_
  refine wpM_regionK [0,13] rfl fun Q1 hQ1 => ?_
  refine S_ ?_
  refine cp_ (isTwo_ok k) Tryz.call123 ?_
  refine hQ1 _ _ (S_ ?_);clear hQ1 Q1
  refine c_ (fun hc2 => ?_) fun hc2 => ?_
  ·
    refine g_ [2] ?_
    refine e_ Tryz.results110 ?_
    first
    | exact True.intro
    | simp only [recOf, *, ↓reduceIte, Bool.false_eq_true]
  refine g_ [18] ?_
  refine c_ (fun hc3 => ?_) fun hc3 => ?_
  ·
    refine g_ [2] ?_
    refine e_ Tryz.results110 ?_
    first
    | exact True.intro
    | simp only [recOf, *, ↓reduceIte, Bool.false_eq_true]
  refine g_ [2] ?_
  refine e_ Tryz.results110 ?_
  first
  | exact True.intro
  | simp only [recOf, *, ↓reduceIte, Bool.false_eq_true]
theorem kids1_ok : PureF Tryz.prog 182 [.agg []] [.int .i64 0] := by
  refine pureF_of Tryz.func182 rfl Tryz.ntmps182 (by simp) T_ ?_
  intro f0 B Q hQ
  refine g_ [] ?_
  refine g_ [2] ?_
  refine e_ Tryz.results182 ?_
  first
  | exact True.intro
  | rfl
theorem kids2_ok : PureF Tryz.prog 186 [.agg []] [.int .i64 0] := by
  refine pureF_of Tryz.func186 rfl Tryz.ntmps186 (by simp) T_ ?_
  intro f0 B Q hQ
  refine g_ [] ?_
  refine g_ [2] ?_
  refine e_ Tryz.results186 ?_
  first
  | exact True.intro
  | rfl
theorem kids3_ok : PureF Tryz.prog 191 [.agg []] [.int .i64 2] := by
  refine pureF_of Tryz.func191 rfl Tryz.ntmps191 (by simp) T_ ?_
  intro f0 B Q hQ
  refine g_ [] ?_
  refine g_ [2] ?_
  refine e_ Tryz.results191 ?_
  first
  | exact True.intro
  | rfl
theorem kids4_ok : PureF Tryz.prog 202 [.agg []] [.int .i64 1] := by
  refine pureF_of Tryz.func202 rfl Tryz.ntmps202 (by simp) T_ ?_
  intro f0 B Q hQ
  refine g_ [] ?_
  refine g_ [2] ?_
  refine e_ Tryz.results202 ?_
  first
  | exact True.intro
  | rfl
def noAddr (e : Ex) : Bool := e.a.kind == 0 && e.a.at' == 0
theorem shape1_ok (e : Ex) : PureF Tryz.prog 184 [.agg [], .agg e.cs] [.bool (isNum e.n && noAddr e)] := by
  refine pureF_of Tryz.func184 rfl Tryz.ntmps184 (by simp) T_ ?_
  intro f0 B Q hQ
  refine g_ [3] ?_
  refine n_ ?_
  refine wpM_regionK [4] rfl fun Q1 hQ1 => ?_
  refine SD_ ?_
  refine cpD_ (isNum_ok e.n) Tryz.call69 ?_
  refine hQ1 _ _ (S_ ?_);clear hQ1 Q1
  refine e_ Tryz.results184 ?_
  first
  | exact True.intro
  | rfl
theorem shape2_ok (e : Ex) : PureF Tryz.prog 188 [.agg [], .agg e.cs] [.bool (e.a.ok && e.n == 0)] := by
  refine pureF_of Tryz.func188 rfl Tryz.ntmps188 (by simp) T_ ?_
  intro f0 B Q hQ
  refine g_ [3] ?_
  refine n_ ?_
  refine wpM_regionK [4] rfl fun Q1 hQ1 => ?_
  refine SD_ ?_
  refine cpD_ (iaddrOk_ok e.a) Tryz.call87 ?_
  refine hQ1 _ _ (S_ ?_);clear hQ1 Q1
  refine e_ Tryz.results188 ?_
  first
  | exact True.intro
  | rfl
theorem shape3_ok (e : Ex) : PureF Tryz.prog 193 [.agg [], .agg e.cs] [.bool (e.n == 0 && noAddr e)] := by
  refine pureF_of Tryz.func193 rfl Tryz.ntmps193 (by simp) T_ ?_
  intro f0 B Q hQ
  refine g_ [3] ?_
  refine gD_ [4] ?_
  refine e_ Tryz.results193 ?_
  first
  | exact True.intro
  | rfl
theorem shape4_ok (e : Ex) : PureF Tryz.prog 204 [.agg [], .agg e.cs] [.bool (e.n == 0 && noAddr e)] := by
  refine pureF_of Tryz.func204 rfl Tryz.ntmps204 (by simp) T_ ?_
  intro f0 B Q hQ
  refine g_ [3] ?_
  refine gD_ [4] ?_
  refine e_ Tryz.results204 ?_
  first
  | exact True.intro
  | rfl
end Go.Proofs.YtnmfmeehmieifaaGreatDoor
namespace Go.Proofs.YtnmfmeehmieifaaGreatDoor
open Go Sg
set_option linter.unusedSectionVars false
variable [Glob]
set_option maxRecDepth 100000
set_option linter.unusedSimpArgs false
set_option linter.unusedVariables false
set_option maxHeartbeats 4000000
theorem parts_ok (e : Ex) : CallF Tryz.prog 109 [.agg e.cs] [] 1 (fun ns o => ∃ x, ns = [x] ∧ o = { rs := [.fn (.func 121) [] [.ptr x 0]], nw := [(x, .cells 68 e.cs)] }) := by
  refine callF_of' Tryz.func109 rfl Tryz.ntmps109 (by simp) ?_
  intro f0 B ns Q hB hns hQ
  obtain ⟨x, rfl⟩ : ∃ x, ns = [x] := by
    match ns, hns with
    | [x], _ => exact ⟨x, rfl⟩
  refine g_ [1] ?_
  refine g_ [2] ?_
  refine wpM_ret ?_
  try refine S_ ?_
  refine hQ _ _ (retK [B] [] [(x, .cells 68 e.cs)] rfl rfl rfl (by rw [Tryz.results109] <;> simp (maxSteps := 1000000) -implicitDefEqProofs (disch := omega) only [go_sem] <;> rfl) ?_ ⟨x, rfl, rfl⟩ ?_ ?_ ?_ ?_ ?_ ?_)
  all_goals (first | (simp -implicitDefEqProofs (disch := omega) only [go_sem, List.nodup_cons, List.nodup_nil, true_or, or_true, List.mem_cons, List.not_mem_nil]; done) | (simp -implicitDefEqProofs (disch := omega) only [go_sem, List.nodup_cons, List.nodup_nil, true_or, or_true, List.mem_cons, List.not_mem_nil]; omega))
def rfs : Code → List (Code × Code)
  | .seq a b | .cond _ a b => rfs a ++ rfs b
  | .block _ a | .loop a => rfs a
  | .rangeFunc _ _ a b => [(a, b)]
  | _ => []
def recNil (k : Int) : Bool := !(k == 1 || k == 2 || isTwo k || k == 10)
def kidsR (k : Int) : Int := if k == 10 then 1 else if isTwo k then 2 else 0
def shapeR (e : Ex) : Bool := if e.kind == 1 then isNum e.n && noAddr e else if e.kind == 2 then e.a.ok && e.n == 0 else e.n == 0 && noAddr e
@[go_sem] theorem eql_rec (x : Operand) (v : Value) (k : Int) : binOpA Tryz.prog .eql 178 x (.const v) (recOf k) .nilif = some (.bool (recNil k)) := by
  unfold recOf recNil
  cases h1 : k == 1 <;> cases h2 : k == 2 <;> cases h3 : isTwo k <;> cases h4 : k == 10 <;> simp [binOpA, eqPair, eqA, Tryz.underlying178, isConstOp]
@[go_sem] theorem isConstOp_const (v : Value) : isConstOp (.const v) = true := rfl
theorem rec_meth (k : Int) (hn : recNil k = false) : ∃ t fk fs, recOf k = .iface t (.agg []) ∧
    (∀ args w, (callFunc fk args).run Tryz.prog w = .ok (.enter fk args) w) ∧ (∀ (v : Value) w, (method (Tryz.prog.types.size + Made.depth) t v "loop.example/stopgate/impl.kids").run Tryz.prog w = .ok (fk, v) w) ∧ PureF Tryz.prog fk [.agg []] [.int .i64 (kidsR k)] ∧
    (∀ args w, (callFunc fs args).run Tryz.prog w = .ok (.enter fs args) w) ∧ (∀ (v : Value) w, (method (Tryz.prog.types.size + Made.depth) t v "loop.example/stopgate/impl.shape").run Tryz.prog w = .ok (fs, v) w) ∧ (∀ e : Ex, e.kind = k → PureF Tryz.prog fs [.agg [], .agg e.cs] [.bool (shapeR e)]) := by
  by_cases h1 : k = 1
  · subst h1
    refine ⟨198, 182, 184, rfl, Tryz.call182, method_run info198 Tryz.underlying198 (by simp) (by rfl) rfl rfl, kids1_ok, Tryz.call184, method_run info198 Tryz.underlying198 (by simp) (by rfl) rfl rfl, fun e he => ?_⟩
    have : shapeR e = (isNum e.n && noAddr e) := by simp [shapeR, he]
    rw [this]; exact shape1_ok e
  by_cases h2 : k = 2
  · subst h2
    refine ⟨199, 186, 188, rfl, Tryz.call186, method_run info199 Tryz.underlying199 (by simp) (by rfl) rfl rfl, kids2_ok, Tryz.call188, method_run info199 Tryz.underlying199 (by simp) (by rfl) rfl rfl, fun e he => ?_⟩
    have : shapeR e = (e.a.ok && e.n == 0) := by simp [shapeR, he]
    rw [this]; exact shape2_ok e
  by_cases h3 : isTwo k = true
  · have h10 : (k == 10) = false := by
      simp only [isTwo, Bool.and_eq_true, decide_eq_true_eq] at h3
      simp; omega
    have hk : kidsR k = 2 := by simp [kidsR, h3, h10]
    rw [hk]
    refine ⟨200, 191, 193, by simp [recOf, h1, h2, h3], Tryz.call191, method_run info200 Tryz.underlying200 (by simp) (by rfl) rfl rfl, kids3_ok, Tryz.call193, method_run info200 Tryz.underlying200 (by simp) (by rfl) rfl rfl, fun e he => ?_⟩
    have : shapeR e = (e.n == 0 && noAddr e) := by simp [shapeR, he, h1, h2]
    rw [this]; exact shape3_ok e
  have h10 : k = 10 := by
    simp only [Bool.not_eq_true] at h3
    simpa [recNil, h1, h2, h3] using hn
  subst h10
  refine ⟨201, 202, 204, rfl, Tryz.call202, method_run info201 Tryz.underlying201 (by simp) (by rfl) rfl rfl, kids4_ok, Tryz.call204, method_run info201 Tryz.underlying201 (by simp) (by rfl) rfl rfl, fun e he => ?_⟩
  have : shapeR e = (e.n == 0 && noAddr e) := by simp [shapeR, he]
  rw [this]; exact shape4_ok e
def badE (n : Int) (deep : Int) (e : Ex) : Bool := decide (n > 14) || decide (deep ≥ 6) || recNil e.kind || (e.kids.length : Int) != kidsR e.kind || !shapeR e
mutual
def vis : Ex → Nat → Nat → Option Nat
  | .mk k n a l, deep, c => if badE ((c : Int) + 1) (deep : Int) (.mk k n a l) then none else visL l (deep + 1) (c + 1)
def visL : List Ex → Nat → Nat → Option Nat
  | [], _, c => some c
  | e :: l, deep, c => match vis e deep c with
    | none => none
    | some c' => visL l deep c'
end
theorem vis_eq (e : Ex) (deep c : Nat) : vis e deep c = if badE ((c : Int) + 1) (deep : Int) e then none else visL e.kids (deep + 1) (c + 1) := by cases e; rfl
theorem visL_append (l l' : List Ex) (deep : Nat) : ∀ c, visL (l ++ l') deep c = (visL l deep c).bind (visL l' deep) := by
  induction l with
  | nil => intro c; rfl
  | cons e l ih =>
    intro c
    simp only [List.cons_append, visL]
    cases vis e deep c with
    | none => rfl
    | some c' => exact ih c'
theorem visL_take (l : List Ex) (deep c i : Nat) (h : i < l.length) : visL (l.take (i + 1)) deep c = (visL (l.take i) deep c).bind (vis (l.getD i default) deep) := by
  rw [List.take_succ_eq_append_getElem h, visL_append]
  have : l.getD i default = l[i] := by simp [List.getD, h]
  rw [this]
  congr 1
  funext c'
  simp only [visL]
  cases vis l[i] deep c' <;> rfl
theorem visL_none {l : List Ex} {deep c i : Nat} (h : visL (l.take i) deep c = none) : visL l deep c = none := by
  conv => lhs; rw [← List.take_append_drop i l]
  rw [visL_append, h]; rfl
def okSt (x : Nat) (rc : AObj) (b n : Nat) : List (Nat × AObj) :=
  [(x + 7, .cells 3 [.int .i64 (n : Int)]), (x + 5, rc), (x + 2, .cells 3 [.int .i64 (n : Int)]), (x + 1, .cells 4 [.bool false]),
   (x + 6, .cells 196 [.fn (.yield b) [] []]), (x + 8, .cells 172 [.fn (.func 122) [] [.ptr (x + 7) 0, .ptr (x + 6) 0, .ptr (x + 8) 0]])]
def okRec (x b d fn : Nat) (fv : PV) (asg body : Code) (st : LoopState) (pe : Option Code) : AObj := .loop b d st pe fn 40 [(2, .ptr (x + 1) 0), (3, .ptr (x + 2) 0), (8, fv)] #[9, 10] asg body
@[go_sem] theorem okRec_eq (x b d fn : Nat) (fv : PV) (asg body : Code) (st : LoopState) (pe : Option Code) : okRec x b d fn fv asg body st pe = .loop b d st pe fn 40 [(2, .ptr (x + 1) 0), (3, .ptr (x + 2) 0), (8, fv)] #[9, 10] asg body := rfl
@[go_sem] theorem okSt_eq (x : Nat) (rc : AObj) (b n : Nat) : okSt x rc b n = [(x + 7, .cells 3 [.int .i64 (n : Int)]), (x + 5, rc), (x + 2, .cells 3 [.int .i64 (n : Int)]), (x + 1, .cells 4 [.bool false]),
   (x + 6, .cells 196 [.fn (.yield b) [] []]), (x + 8, .cells 172 [.fn (.func 122) [] [.ptr (x + 7) 0, .ptr (x + 6) 0, .ptr (x + 8) 0]])] := rfl
def visQ (x b d fn : Nat) (fv : PV) (asg body : Code) (e : Ex) (deep cnt : Nat) (f0 : Nat → Option AObj) (B : Nat) (ex : ExitA) (s : MS) : Prop :=
  ex = .ret ∧ ((∃ cnt' M', vis e deep cnt = some cnt' ∧ cnt' ≤ 14 ∧ B ≤ M' ∧ s = ⟨[(7, .bool true)], okSt x (okRec x b d fn fv asg body .ready none) b cnt', f0, B, M', []⟩) ∨
    (∃ cnt' M', vis e deep cnt = none ∧ B ≤ M' ∧ s = ⟨[(7, .bool false)], okSt x (okRec x b d fn fv asg body .done (some .ret)) b cnt', f0, B, M', []⟩))
theorem walk_ok (x b d fn : Nat) (fv : PV) (asg body c : Code) (hcode : Tryz.f84.body.map rfs = some [(asg, body)]) (hc : Tryz.f122.body = some c) : ∀ (N : Nat) (e : Ex), e.sz ≤ N → e.sz ≤ 1099511627776 →
    ∀ (deep cnt : Nat) (dI : Int) (f0 : Nat → Option AObj) (B : Nat), dI = (deep : Int) → x + 9 ≤ B → deep ≤ 6 → cnt ≤ 14 →
      wpM Tryz.prog none 39 c ⟨envOf 0 [.agg e.cs, .int .i64 dI, .ptr (x + 7) 0, .ptr (x + 6) 0, .ptr (x + 8) 0], okSt x (okRec x b d fn fv asg body .ready none) b cnt, f0, B, B, []⟩ (visQ x b d fn fv asg body e deep cnt f0 B) := by
  have hcode' := Option.some.inj hcode
  simp only [rfs, List.nil_append, List.append_nil, List.cons.injEq, Prod.mk.injEq, and_true] at hcode'
  obtain ⟨hasg, hbody⟩ := hcode'
  obtain rfl : _ = c := Option.some.inj hc
  intro N
  induction N with
  | zero => intro e h; have := e.sz_pos; omega
  | succ N ih =>
    intro e hN hs deep cnt dI f0 B hdI hB hd hcn
    have hlen := e.kids_len
    refine wpM_wk ?_
    refine g_ [1,2,3,4,5] ?_
    refine g_ [1,2,3,4,5] ?_
    refine n_ ?_
    refine wpM_regionK [1,4,5,24] rfl fun Q1 hQ1 => ?_
    refine S_ ?_
    refine OpM_roundK (x + 5) rfl rfl rfl rfl (by simp -implicitDefEqProofs (disch := omega) only [go_sem]; rfl) rfl rfl ?_
    intro K' hK'
    refine wpM_code hasg ?_
    simp -implicitDefEqProofs (disch := omega) only [go_sem]
    refine g_ [2,3,4,10] ?_
    refine g_ [2,3,4,5] ?_
    refine ⟨d, none, fn, 40, [(2, .ptr (x + 1) 0), (3, .ptr (x + 2) 0), (8, fv)], #[9, 10], asg, body, rfl, ?_⟩
    refine wpM_code hbody ?_
    refine g_ [2,3,4,5] ?_
    refine n_ ?_
    refine wpM_regionK [2,3,4,5,6] rfl fun Q1 hQ1 => ?_
    refine S_ ?_
    refine cp_ (recOf_ok e.kind) Tryz.call110 ?_
    refine hQ1 _ _ (S_ ?_);clear hQ1 Q1
    refine n_ ?_
    refine dr_ mixed [2,39] 0 2 [x+2, B+1] [⟨[3],[0],[],[],false⟩,⟨[16],[],[],[],false⟩,⟨[17],[],[],[],false⟩,⟨[4,18],[],[],[],false⟩,⟨[18,19],[],[],[],false⟩,⟨[18,20],[],[],[],false⟩,⟨[21],[],[],[],false⟩,⟨[6,22],[],[],[],false⟩,⟨[22,23],[],[],[],false⟩,⟨[22,24],[],[],[],false⟩,⟨[25],[],[],[],false⟩,⟨[5,26],[],[],[],false⟩,⟨[26,27],[1],[],[],false⟩,⟨[26,28],[],[],[],false⟩,⟨[6,26],[],[],[],false⟩,⟨[26,30],[],[],[],true⟩,⟨[26,29,31],[],[],[],false⟩,⟨[26,32],[],[],[],false⟩,⟨[33],[],[],[],false⟩,⟨[6,34],[],[],[],false⟩,⟨[5,34],[1],[],[],false⟩,⟨[34,35,36],[],[],[],true⟩,⟨[34,37],[],[],[],false⟩,⟨[34,38],[],[],[],false⟩] [0,1,2,3,4,5,6,7,8,9,10,11,12,13,14,15,16,17,18,19,20,21,22,23] [[],[0],[0,1],[0,1,2],[0,1,2,3],[0,1,2,3,4],[0,1,2,3,4,5],[0,1,2,3,4,5,6],[0,1,2,3,4,5,6,7],[0,1,2,3,4,5,6,7,8],[0,1,2,3,4,5,6,7,8,9],[0,1,2,3,4,5,6,7,8,9,10],[0,1,2,3,4,5,6,7,8,9,10,11],[0,1,2,3,4,5,6,7,8,9,10,11,12],[0,1,2,3,4,5,6,7,8,9,10],[0,1,2,3,4,5,6,7,8,9,10,14],[0,1,2,3,4,5,6,7,8,9,10,11,12,13,14,15],[0,1,2,3,4,5,6,7,8,9,10,11,12,13,14,15,16],[0,1,2,3,4,5,6,7,8,9,10,11,12,13,14,15,16,17],[0,1,2,3,4,5,6,7,8,9,10,11,12,13,14,15,16,17,18],[0,1,2,3,4,5,6,7,8,9,10,11,12,13,14,15,16,17,18],[0,1,2,3,4,5,6,7,8,9,10,11,12,13,14,15,16,17,18,19,20],[0,1,2,3,4,5,6,7,8,9,10,11,12,13,14,15,16,17,18,19,20,21],[0,1,2,3,4,5,6,7,8,9,10,11,12,13,14,15,16,17,18,19,20,21,22]] 2 (htbl := by simp; omega) (hnm := by simp) ?_
    intro O A K hO hA hK;simp only [atL_cons,atL_nil,Nat.reduceAdd,Nat.zero_add] at hO hA
    refine SE_ ?_
    refine loudG (v := .int .i64 (kidsR e.kind)) (fun K2 hb h2 => ?_) ?_
    · have hb2 := hb
      simp only [Bool.not_eq_true', Bool.or_eq_false_iff] at hb2
      obtain ⟨t, fk, fs, hr, q1, q2, q3, q4, q5, q6⟩ := rec_meth e.kind hb2.2
      exact loudi_p (args := []) q3 q1 q2 rfl (by simp -implicitDefEqProofs (disch := omega) only [go_sem, hb, gd_of hb, hr]) rfl rfl h2
    refine SE_ ?_
    refine loudG (v := .bool (shapeR e)) (fun K2 hb h2 => ?_) ?_
    · have hb2 := hb
      simp only [Bool.not_eq_true', Bool.or_eq_false_iff] at hb2
      obtain ⟨t, fk, fs, hr, q1, q2, q3, q4, q5, q6⟩ := rec_meth e.kind hb2.1.2
      exact loudi_p (args := [.agg e.cs]) (q6 e rfl) q4 q5 rfl (by simp -implicitDefEqProofs (disch := omega) only [go_sem, hb, gd_of hb, hr]) (by simp -implicitDefEqProofs (disch := omega) only [go_sem, hb, gd_of hb]) rfl h2
    refine SE_ ?_
    refine hK _ (S_ ?_);clear hK K hO hA O A
    refine c_ (fun hc0 => ?_) fun hc0 => ?_
    ·
      refine g_ [2] ?_
      refine wpM_ret ?_
      try refine S_ ?_
      have hbad : badE ((cnt : Int) + 1) dI e = true := hc0
      refine ⟨d, .busy, none, fn, 40, [(2, .ptr (x + 1) 0), (3, .ptr (x + 2) 0), (8, fv)], #[9, 10], asg, body, by simp -implicitDefEqProofs (disch := omega) only [go_sem], ?_⟩
      refine hK' _ ?_; clear hK' K'
      simp -implicitDefEqProofs (disch := omega) only [go_sem]
      refine hQ1 _ _ ?_; clear hQ1 Q1
      simp -implicitDefEqProofs (disch := omega) only [go_sem]
      refine wpM_condK ?_
      simp -implicitDefEqProofs (disch := omega) only [go_sem]
      refine wpM_seq ?_
      refine wpM_regionK [7] rfl ?_; intro Q1 hQ1
      simp -implicitDefEqProofs (disch := omega) only [go_sem]
      refine hQ1 _ _ ?_; clear hQ1 Q1
      simp -implicitDefEqProofs (disch := omega) only [go_sem]
      refine wpM_ret ?_
      refine .of' _ _ ⟨rfl, .inr ⟨cnt + 1, _, ?_, ?_, rfl⟩⟩ ?_ ?_ ?_
      · rw [vis_eq, ← hdI, if_pos hbad]
      · first | omega | (simp -implicitDefEqProofs (disch := omega) only [go_sem]; done)
      all_goals exact L_
    refine n_ ?_
    have hbad : badE ((cnt : Int) + 1) dI e = false := hc0
    clear hc0
    have hb2 := hbad
    simp only [badE, Bool.or_eq_false_iff] at hb2
    obtain ⟨⟨⟨⟨hg1, hg2⟩, _⟩, _⟩, _⟩ := hb2
    have hg2' : deep < 6 := by simp at hg2; omega
    have hg1' : cnt + 1 ≤ 14 := by simp at hg1; omega
    refine ⟨d, .busy, none, fn, 40, [(2, .ptr (x + 1) 0), (3, .ptr (x + 2) 0), (8, fv)], #[9, 10], asg, body, by simp -implicitDefEqProofs (disch := omega) only [go_sem], ?_⟩
    refine hK' _ ?_; clear hK' K'
    simp -implicitDefEqProofs (disch := omega) only [go_sem, hg1, hg2]
    refine hQ1 _ _ (S_ ?_);clear hQ1 Q1
    refine c1_ ?_
    refine g_ [1,4,26,27,28] ?_
    refine n_ ?_
    refine wpM_loopS (fun s n s' => ∃ (i M ci : Nat), i + n = e.kids.length ∧ B + 1 ≤ M ∧ visL (e.kids.take i) (deep + 1) (cnt + 1) = some ci ∧ ci ≤ 14 ∧ s' = { s with env := setE 28 (.int .i64 (i : Nat)) s.env, l := okSt x (okRec x b d fn fv asg body .ready none) b ci ++ [(B, .cells 68 e.cs)], M := M }) (e.kids.length) ?_ ?_
    ·
      refine .of' _ _ ⟨0, _, cnt + 1, by omega, ?_, rfl, hg1', rfl⟩ ?_ ?_ ?_
      · first | omega | (simp -implicitDefEqProofs (disch := omega) only [go_sem]; done)
      all_goals exact L_
    rintro n s' ⟨i, M, ci, hi, hM, hv, hci, rfl⟩
    try refine S_ ?_
    refine g_ [1,4,26,27,28,29] ?_
    refine c_ (fun hc1 => ?_) fun hc1 => ?_
    ·
      have hl0 : i < e.kids.length := by omega
      have hks := Ex.kid_sz hl0
      refine g_ [1,4,9,26,27,28] ?_
      refine n_ ?_
      refine wpM_regionK [1,4,26,27,28,37] rfl fun Q1 hQ1 => ?_
      refine S_ ?_
      refine OpM_inlineK (first := []) (ps := [.agg (e.kids.getD i default).cs, .int .i64 (dI + 1)]) (cap := [.ptr (x + 7) 0, .ptr (x + 6) 0, .ptr (x + 8) 0]) Tryz.func122 rfl Tryz.ntmps122 (by simp) Tryz.call122 rfl rfl F_ F_ ?_
      intro K' hK'
      refine wpM_frame (okSt x (okRec x b d fn fv asg body .ready none) b ci) [(M, .cells 68 (e.kids.getD i default).cs), (B, .cells 68 e.cs)] T_ T_ T_ (by simp -implicitDefEqProofs (disch := omega) only [go_sem, true_or, or_true]) T_ ?_
      intro f1
      refine wpM_mono (ih (e.kids.getD i default) (by omega) (by omega) (deep + 1) ci (dI + 1) f1 (M + 1) (by rw [hdI]; rfl) (by omega) (by omega) hci) ?_
      rintro ex s' ⟨rfl, ⟨cnt', M', h1, h2, h3, rfl⟩ | ⟨cnt', M', h1, h3, rfl⟩⟩
      rotate_left
      · refine ⟨rfl, rfl, T_, (by simp -implicitDefEqProofs (disch := omega) only [go_sem, true_or, or_true]), ?_⟩
        refine ⟨[], rfl, trivial, [.bool false], (by rw [Tryz.results122]; simp -implicitDefEqProofs (disch := omega) only [go_sem]), ?_⟩
        refine hK' _ ?_; clear hK' K'
        simp -implicitDefEqProofs (disch := omega) only [go_sem]
        refine hQ1 _ _ ?_; clear hQ1 Q1
        simp -implicitDefEqProofs (disch := omega) only [go_sem]
        refine wpM_condK ?_
        simp -implicitDefEqProofs (disch := omega) only [go_sem]
        refine wpM_seq ?_
        refine wpM_regionK [7] rfl ?_; intro Q1 hQ1
        simp -implicitDefEqProofs (disch := omega) only [go_sem]
        refine hQ1 _ _ ?_; clear hQ1 Q1
        simp -implicitDefEqProofs (disch := omega) only [go_sem]
        refine wpM_ret ?_
        refine .of' _ _ ⟨rfl, .inr ⟨cnt', _, ?_, ?_, rfl⟩⟩ ?_ ?_ ?_
        · rw [vis_eq, ← hdI, hbad]
          exact visL_none (i := i + 1) (by rw [visL_take _ _ _ _ hl0, hv]; exact h1)
        · first | omega | (simp -implicitDefEqProofs (disch := omega) only [go_sem]; done) | (simp -implicitDefEqProofs (disch := omega) only [go_sem]; omega)
        all_goals exact L_
      refine ⟨rfl, rfl, T_, (by simp -implicitDefEqProofs (disch := omega) only [go_sem, true_or, or_true]), ?_⟩
      refine ⟨[], rfl, trivial, [.bool true], (by rw [Tryz.results122]; simp -implicitDefEqProofs (disch := omega) only [go_sem]), ?_⟩
      refine hK' _ ?_; clear hK' K'
      have hv2 : visL (e.kids.take (i + 1)) (deep + 1) (cnt + 1) = some cnt' := by rw [visL_take _ _ _ _ hl0, hv]; exact h1
      refine S_ ?_
      refine hQ1 _ _ (S_ ?_);clear hQ1 Q1
      refine c1_ ?_
      refine g_ [1,4,26,27,28] ?_
      refine .of' _ _ ⟨n - 1, by omega, i + 1, _, cnt', by omega, ?_, hv2, h2, rfl⟩ ?_ ?_ ?_
      · first | omega | (simp -implicitDefEqProofs (disch := omega) only [go_sem]; done) | (simp -implicitDefEqProofs (disch := omega) only [go_sem]; omega)
      all_goals exact L_
    refine g_ [7] ?_
    refine wpM_ret ?_
    try refine S_ ?_
    have hie : i = e.kids.length := by omega
    rw [hie, List.take_of_length_le (Nat.le_refl _)] at hv
    refine .of' _ _ ⟨rfl, .inl ⟨ci, _, ?_, hci, ?_, rfl⟩⟩ ?_ ?_ ?_
    · rw [vis_eq, ← hdI, hbad]; exact hv
    · first | omega | (simp -implicitDefEqProofs (disch := omega) only [go_sem]; done) | (simp -implicitDefEqProofs (disch := omega) only [go_sem]; omega)
    all_goals exact L_
end Go.Proofs.YtnmfmeehmieifaaGreatDoor
namespace Go.Proofs.YtnmfmeehmieifaaGreatDoor
open Go Sg
set_option linter.unusedSectionVars false
variable [Glob]
set_option maxRecDepth 100000
set_option linter.unusedSimpArgs false
set_option linter.unusedVariables false
set_option maxHeartbeats 4000000
theorem iexprOk_ok (e : Ex) (hs : e.sz ≤ 1099511627776) : PureF Tryz.prog 84 [.agg e.cs] [.bool (vis e 0 0).isSome] := by
  refine pureF_ofM Tryz.func84 rfl Tryz.ntmps84 (by simp) T_ ?_
  intro f0 B Q hQ
  obtain ⟨asg, body, hcode⟩ : ∃ asg body, Tryz.f84.body.map rfs = some [(asg, body)] := ⟨_, _, rfl⟩
  have hcode' := Option.some.inj hcode
  simp only [rfs, List.nil_append, List.append_nil, List.cons.injEq, Prod.mk.injEq, and_true] at hcode'
  obtain ⟨hasg, hbody⟩ := hcode'
  refine g_ [1,2,9,10] ?_
  refine g_ [1,2,3,9,10] ?_
  refine n_ ?_
  refine wpM_regionK [2,3,8,9,10] rfl fun Q1 hQ1 => ?_
  refine S_ ?_
  refine call_fn (l := []) (first := []) (cap := []) (ps := [.agg e.cs]) (parts_ok e) Tryz.call109 rfl rfl rfl T_ T_ ?_
  rintro out ⟨x, hns, rfl⟩
  injection hns with hn1 hns
  subst hn1
  refine S_ ?_
  refine hQ1 _ _ (S_ ?_);clear hQ1 Q1
  refine n_ ?_
  refine wpM_code (c' := Code.rangeFunc (.tmp 8) #[9, 10] asg body) (by rw [← hasg, ← hbody]) ?_
  refine wpM_rangeFunc (first := []) (cap := [.ptr (B + 3) 0]) T_ Tryz.func121 rfl Tryz.ntmps121 (by simp) Tryz.call121 ?_
  intro fn b d
  refine g_ [1,2] ?_
  refine g_ [1,2,3] ?_
  refine g_ [1,2,3,4] ?_
  refine g_ [1,4] ?_
  refine wpM_regionK [] rfl fun Q1 hQ1 => ?_
  refine S_ ?_
  simp -implicitDefEqProofs (disch := omega) only [go_sem, Nat.add_assoc]
  refine OpM_inlineK (first := []) (ps := [.agg e.cs, .int .i64 0]) (cap := [.ptr (B + 7) 0, .ptr (B + 6) 0, .ptr (B + 8) 0]) Tryz.func122 rfl Tryz.ntmps122 (by simp) Tryz.call122 rfl rfl F_ F_ ?_
  intro K' hK'
  refine wpM_frame (okSt B (okRec B b d fn (.fn (.func 121) [] [.ptr (B + 3) 0]) asg body .ready none) b 0) [(B + 4, .dfr d), (B + 3, .cells 68 e.cs), (B, .cells 68 e.cs)] (by simp -implicitDefEqProofs (disch := omega) only [go_sem, Int.natCast_zero]) T_ T_ (by simp -implicitDefEqProofs (disch := omega) only [go_sem, true_or, or_true]) T_ ?_
  intro f1
  refine wpM_mono (walk_ok B b d fn (.fn (.func 121) [] [.ptr (B + 3) 0]) asg body _ hcode rfl e.sz e (Nat.le_refl _) hs 0 0 0 f1 (B + 9) rfl (by omega) (by omega) (by omega)) ?_
  rintro ex s' ⟨rfl, ⟨cnt', M', q1, q2, q3, rfl⟩ | ⟨cnt', M', q1, q3, rfl⟩⟩
  rotate_left
  · refine ⟨rfl, rfl, T_, (by simp -implicitDefEqProofs (disch := omega) only [go_sem, true_or, or_true]), ?_⟩
    refine ⟨[], rfl, trivial, [.bool false], (by rw [Tryz.results122]; simp -implicitDefEqProofs (disch := omega) only [go_sem]), ?_⟩
    refine hK' _ ?_; clear hK' K'
    simp -implicitDefEqProofs (disch := omega) only [go_sem]
    refine hQ1 _ _ ?_; clear hQ1 Q1
    simp -implicitDefEqProofs (disch := omega) only [go_sem]
    refine ⟨[], rfl, trivial, [], (by rw [Tryz.results121]; simp -implicitDefEqProofs (disch := omega) only [go_sem]), ?_⟩
    refine ⟨d, .done, some .ret, fn, 40, [(2, .ptr (B + 1) 0), (3, .ptr (B + 2) 0), (8, .fn (.func 121) [] [.ptr (B + 3) 0])], #[9, 10], asg, body, T_, (by simp), ?_⟩
    simp -implicitDefEqProofs (disch := omega) only [go_sem, Nat.add_assoc]
    refine hQ [B + 4] _ _ rfl rfl rfl ⟨⟨by simp -implicitDefEqProofs (disch := omega) only [go_sem], ⟨d, by simp -implicitDefEqProofs (disch := omega) only [go_sem]⟩, by simp⟩, trivial⟩ (by simp -implicitDefEqProofs (disch := omega) only [go_sem, true_or]) ?_ (.inl rfl)
    rw [Tryz.results84, q1]
    simp -implicitDefEqProofs (disch := omega) only [go_sem, Option.isSome_none]
  refine ⟨rfl, rfl, T_, (by simp -implicitDefEqProofs (disch := omega) only [go_sem, true_or, or_true]), ?_⟩
  refine ⟨[], rfl, trivial, [.bool true], (by rw [Tryz.results122]; simp -implicitDefEqProofs (disch := omega) only [go_sem]), ?_⟩
  refine hK' _ ?_; clear hK' K'
  refine S_ ?_
  refine hQ1 _ _ (S_ ?_);clear hQ1 Q1
  refine ⟨[], rfl, trivial, [], (by rw [Tryz.results121]; simp -implicitDefEqProofs (disch := omega) only [go_sem]), ?_⟩
  refine ⟨d, .ready, none, fn, 40, [(2, .ptr (B + 1) 0), (3, .ptr (B + 2) 0), (8, .fn (.func 121) [] [.ptr (B + 3) 0])], #[9, 10], asg, body, T_, (by simp), ?_⟩
  simp -implicitDefEqProofs (disch := omega) only [go_sem, Nat.add_assoc]
  refine g_ [2] ?_
  refine wpM_ret ?_
  try refine S_ ?_
  refine hQ [B + 4] _ _ rfl rfl rfl ⟨⟨by simp -implicitDefEqProofs (disch := omega) only [go_sem], ⟨d, by simp -implicitDefEqProofs (disch := omega) only [go_sem]⟩, by simp⟩, trivial⟩ (by simp -implicitDefEqProofs (disch := omega) only [go_sem, true_or]) ?_ (.inl rfl)
  rw [Tryz.results84, q1]
  simp -implicitDefEqProofs (disch := omega) only [go_sem, Option.isSome_some]
end Go.Proofs.YtnmfmeehmieifaaGreatDoor
namespace Go.Proofs.YtnmfmeehmieifaaGreatDoor
open Go Sg
set_option maxRecDepth 100000
set_option linter.unusedSimpArgs false
set_option linter.unusedVariables false
set_option linter.unusedSectionVars false
set_option maxHeartbeats 4000000
variable [TabK]
def strC (l : List ByteArray) : List PV := l.map .str
def strR (l : List ByteArray) : List (List PV) := l.map fun s => [.str s]
@[go_sem] theorem strC_len (l : List ByteArray) : (strC l).length = l.length := by simp [strC]
@[go_sem] theorem strR_len (l : List ByteArray) : (strR l).length = l.length := by simp [strR]
@[go_sem] theorem strR_flat (l : List ByteArray) : (strR l).flatten = strC l := by
  induction l with
  | nil => rfl
  | cons x l ih => simp only [strR, strC, List.map_cons, List.flatten_cons] at ih ⊢; rw [ih]; rfl
@[go_sem] theorem strR_get (l : List ByteArray) (k : Nat) (h : k < l.length) : (strR l).getD k [] = [.str (l.getD k default)] := by simp [strR, List.getD, h]
@[go_sem] theorem str_cell (l : List ByteArray) : (strC l).all PV.cell = true := by
  induction l with
  | nil => rfl
  | cons x l ih => simp only [strC, List.map_cons, List.all_cons, PV.cell, Bool.true_and] at ih ⊢; exact ih
@[go_sem] theorem strC_app (l : List ByteArray) (x : ByteArray) : strC l ++ [.str x] = strC (l ++ [x]) := by simp [strC]
theorem rowsOf_str {f : Nat → Option AObj} {id n : Nat} {T : TypeId} {l : List ByteArray} (h : f id = some (.cells T (strC l))) (hn : l.length = n) : RowsOf Tryz.prog f 9 id 0 n (strR l) := by
  subst hn
  refine ⟨by rw [cellsOf9]; omega, by simp [strR], ?_, T, _, h, ?_, ?_⟩
  · intro c hc
    simp only [strR, List.mem_map] at hc
    obtain ⟨x, _, rfl⟩ := hc
    rw [cellsOf9]; exact ⟨rfl, rfl⟩
  · rw [cellsOf9]; simp [strC]
  · rw [cellsOf9, strR_flat]; simp [strC, List.take_of_length_le]
def letS (k : Int) : ByteArray := ByteArray.extract ⟨#[32, 105, 111, 118]⟩ k.toNat (k + 1).toNat
theorem letS_size (k : Int) (h : 1 ≤ k ∧ k ≤ 3) : (letS k).size ≤ 4 := by
  simp [letS]; omega
theorem letter_ok (a : AD) (h : a.ok = true) : PureF Tryz.prog 90 [.agg a.cs] [.str (letS a.kind)] := by
  have hk : 1 ≤ a.kind ∧ a.kind ≤ 3 ∧ 0 ≤ a.at' ∧ a.at' < 6 := by simp only [AD.ok, Bool.and_eq_true, decide_eq_true_eq] at h; omega
  have h4 : (⟨#[32, 105, 111, 118]⟩ : ByteArray).size = 4 := rfl
  refine pureF_of Tryz.func90 rfl Tryz.ntmps90 (by simp) T_ ?_
  intro f0 B Q hQ
  refine g_ [1] ?_
  refine n_ ?_
  refine wpM_regionK [2] rfl fun Q1 hQ1 => ?_
  simp -implicitDefEqProofs (disch := omega) only [go_sem, h4]
  refine hQ1 _ _ (S_ ?_);clear hQ1 Q1
  refine e_ Tryz.results90 ?_
  first
  | exact True.intro
  | rfl
def adrS (a : AD) : ByteArray := letS a.kind ++ fmtS a.at'
theorem add_str (x y : ByteArray) (h : x.size + y.size ≤ 1000000) : strOpA .add x y = some (.str (x ++ y)) := by
  simp only [strOpA]
  rw [if_pos (by omega)]
theorem bin_adds {P : Program} (t : TypeId) (x y : Operand) (a c : ByteArray) (h : a.size + c.size ≤ 1000000) : binOpA P .add t x y (.str a) (.str c) = some (.str (a ++ c)) := by
  simp only [binOpA]; exact add_str a c h
theorem addrText_ok (a : AD) (h : a.ok = true) : PureF Tryz.prog 53 [.agg a.cs] [.str (adrS a)] := by
  have hk : 1 ≤ a.kind ∧ a.kind ≤ 3 ∧ 0 ≤ a.at' ∧ a.at' < 6 := by simp only [AD.ok, Bool.and_eq_true, decide_eq_true_eq] at h; omega
  have h1 := letS_size a.kind ⟨hk.1, hk.2.1⟩
  have h2 := fmtS_size a.at'
  refine pureF_of Tryz.func53 rfl Tryz.ntmps53 (by simp) T_ ?_
  intro f0 B Q hQ
  refine g_ [1] ?_
  refine n_ ?_
  refine wpM_regionK [1,5] rfl fun Q1 hQ1 => ?_
  refine S_ ?_
  refine call_p (iaddrOk_ok a) Tryz.call87 rfl rfl rfl (by first | rfl | (simp -implicitDefEqProofs (disch := omega) only [go_sem] <;> rfl)) ?_
  simp -implicitDefEqProofs (disch := omega) only [go_sem, h]
  refine hQ1 _ _ (S_ ?_);clear hQ1 Q1
  refine c1_ ?_
  refine n_ ?_
  refine dr_ mixed [2] 0 1 [B] [⟨[1],[0],[],[],false⟩,⟨[6],[],[],[],true⟩,⟨[1],[],[],[],false⟩,⟨[8],[0],[],[],false⟩,⟨[9],[],[],[],true⟩,⟨[7,10],[],[],[],false⟩,⟨[11],[],[],[],false⟩] [0,2,3,1,4,5,6] [[],[0],[],[2],[0,1,2,3],[0,1,2,3,4],[0,1,2,3,4,5]] 1 ?_
  intro O A K hO hA hK;simp only [atL_cons,atL_nil,Nat.reduceAdd,Nat.zero_add] at hO hA
  simp -implicitDefEqProofs (disch := omega) only [go_sem, bin_adds, hO, hA]
  refine loud_p (letter_ok a h) Tryz.call90 rfl rfl (by first | rfl | (simp -implicitDefEqProofs (disch := omega) only [go_sem] <;> rfl)) rfl ?_
  simp -implicitDefEqProofs (disch := omega) only [go_sem, bin_adds, hO, hA]
  refine loud_p (itoa_ok a.at' (by omega) (by omega)) Tryz.call49 rfl rfl (by first | rfl | (simp -implicitDefEqProofs (disch := omega) only [go_sem] <;> rfl)) rfl ?_
  simp -implicitDefEqProofs (disch := omega) only [go_sem, bin_adds, hO, hA]
  refine hK _ (S_ ?_);clear hK K hO hA O A
  refine e_ Tryz.results53 ?_
  first
  | exact True.intro
  | rfl
theorem word1_ok (e : Ex) (h : isNum e.n = true) : PureF Tryz.prog 185 [.agg [], .agg e.cs] [.str (fmtS e.n)] := by
  have hn : -1000000 ≤ e.n ∧ e.n ≤ 1000000 := by simp [isNum] at h; omega
  refine pureF_of Tryz.func185 rfl Tryz.ntmps185 (by simp) T_ ?_
  intro f0 B Q hQ
  refine g_ [3] ?_
  refine n_ ?_
  refine wpM_regionK [4] rfl fun Q1 hQ1 => ?_
  refine S_ ?_
  refine cp_ (itoa_ok e.n hn.1 hn.2) Tryz.call49 ?_
  refine hQ1 _ _ (S_ ?_);clear hQ1 Q1
  exact e_ Tryz.results185 True.intro
theorem word2_ok (e : Ex) (h : e.a.ok = true) : PureF Tryz.prog 189 [.agg [], .agg e.cs] [.str (adrS e.a)] := by
  refine pureF_of Tryz.func189 rfl Tryz.ntmps189 (by simp) T_ ?_
  intro f0 B Q hQ
  refine g_ [3] ?_
  refine n_ ?_
  refine wpM_regionK [4] rfl fun Q1 hQ1 => ?_
  refine S_ ?_
  refine cp_ (addrText_ok e.a h) Tryz.call53 ?_
  refine hQ1 _ _ (S_ ?_);clear hQ1 Q1
  exact e_ Tryz.results189 True.intro
def notS : ByteArray := ⟨#[110, 111, 116]⟩
theorem word4_ok (e : Ex) : PureF Tryz.prog 205 [.agg [], .agg e.cs] [.str notS] := by
  refine pureF_of Tryz.func205 rfl Tryz.ntmps205 (by simp) T_ ?_
  intro f0 B Q hQ
  refine g_ [] ?_
  refine g_ [4] ?_
  refine e_ Tryz.results205 ?_
  first
  | exact True.intro
  | rfl
def twoL : List ByteArray := [⟨#[]⟩, ⟨#[]⟩, ⟨#[]⟩, ⟨#[97, 100, 100]⟩, ⟨#[115, 117, 98]⟩, ⟨#[109, 117, 108]⟩, ⟨#[108, 101, 115, 115]⟩, ⟨#[115, 97, 109, 101]⟩, ⟨#[97, 110, 100]⟩, ⟨#[111, 114]⟩]
theorem twoWords_ok : PureF Tryz.prog 196 [] [.rows 9 (strR twoL)] := by
  refine pureF_of Tryz.func196 rfl Tryz.ntmps196 (by simp) T_ ?_
  intro f0 B Q hQ
  have hr : rep 10 [PV.str ⟨#[]⟩] = [.str ⟨#[]⟩, .str ⟨#[]⟩, .str ⟨#[]⟩, .str ⟨#[]⟩, .str ⟨#[]⟩, .str ⟨#[]⟩, .str ⟨#[]⟩, .str ⟨#[]⟩, .str ⟨#[]⟩, .str ⟨#[]⟩] := rfl
  refine g_ [] ?_
  refine n_ ?_
  refine wpM_regionK [0] rfl fun Q1 hQ1 => ?_
  simp -implicitDefEqProofs (disch := omega) only [go_sem, hr, splice, List.take_succ_cons, List.take_zero, List.drop_succ_cons, List.drop_zero, List.cons_append, List.nil_append, List.length_cons, List.length_nil]
  refine hQ1 _ _ (S_ ?_);clear hQ1 Q1
  rw [show [PV.str ⟨#[]⟩, .str ⟨#[]⟩, .str ⟨#[]⟩, .str ⟨#[97, 100, 100]⟩, .str ⟨#[115, 117, 98]⟩, .str ⟨#[109, 117, 108]⟩, .str ⟨#[108, 101, 115, 115]⟩, .str ⟨#[115, 97, 109, 101]⟩, .str ⟨#[97, 110, 100]⟩, .str ⟨#[111, 114]⟩] = strC twoL from rfl]
  refine wpM_frz [B] [(9, B, 0, 10, strR twoL)] (by intro q hq; simp at hq; subst hq; simp -implicitDefEqProofs (disch := omega) only [go_sem]) (by intro q hq; simp only [List.mem_cons, List.not_mem_nil, or_false] at hq; subst hq; exact ⟨by simp, rowsOf_str (T := 9) T_ rfl⟩) ?_
  refine S_ ?_
  exact e_ Tryz.results196 True.intro
theorem word3_ok (e : Ex) (h : isTwo e.kind = true) : PureF Tryz.prog 194 [.agg [], .agg e.cs] [.str (twoL.getD e.kind.toNat default)] := by
  have hk : 3 ≤ e.kind ∧ e.kind ≤ 9 := by simp [isTwo] at h; omega
  refine pureF_of Tryz.func194 rfl Tryz.ntmps194 (by simp) T_ ?_
  intro f0 B Q hQ
  have h10 : twoL.length = 10 := rfl
  refine g_ [3] ?_
  refine n_ ?_
  refine dr_ mixed [4] 0 1 [B + 1] [⟨[],[],[],[],true⟩,⟨[3],[],[],[],false⟩,⟨[6],[0],[],[],false⟩,⟨[5,7],[],[],[],false⟩,⟨[8],[],[],[],false⟩,⟨[9],[],[],[],false⟩] [1,2,0,3,4,5] [[],[],[1],[0,1,2],[0,1,2,3],[0,1,2,3,4]] 1 ?_
  intro O A K hO hA hK;simp only [atL_cons,atL_nil,Nat.reduceAdd,Nat.zero_add] at hO hA
  simp -implicitDefEqProofs (disch := omega) only [go_sem, h10, hO, hA]
  refine loud_p (twoWords_ok) Tryz.call196 rfl rfl (by first | rfl | (simp -implicitDefEqProofs (disch := omega) only [go_sem] <;> rfl)) rfl ?_
  simp -implicitDefEqProofs (disch := omega) only [go_sem, h10, hO, hA]
  refine hK _ (S_ ?_);clear hK K hO hA O A
  refine e_ Tryz.results194 ?_
  first
  | exact True.intro
  | rfl
end Go.Proofs.YtnmfmeehmieifaaGreatDoor
namespace Go.Proofs.YtnmfmeehmieifaaGreatDoor
open Go Sg
set_option maxRecDepth 100000
set_option linter.unusedSimpArgs false
set_option linter.unusedVariables false
set_option linter.unusedSectionVars false
set_option maxHeartbeats 4000000
variable [TabK]
def wordS (e : Ex) : ByteArray := if e.kind == 1 then fmtS e.n else if e.kind == 2 then adrS e.a else if isTwo e.kind then twoL.getD e.kind.toNat default else notS
mutual
def wsE : Ex → List ByteArray
  | .mk k n a l => wordS (.mk k n a l) :: wsL l
def wsL : List Ex → List ByteArray
  | [] => []
  | e :: l => wsE e ++ wsL l
end
theorem wsE_eq (e : Ex) : wsE e = wordS e :: wsL e.kids := by cases e; rfl
theorem wsL_app (l l' : List Ex) : wsL (l ++ l') = wsL l ++ wsL l' := by
  induction l with
  | nil => rfl
  | cons x l ih => simp only [List.cons_append, wsL, ih, List.append_assoc]
theorem wsL_take (l : List Ex) (i : Nat) (h : i < l.length) : wsL (l.take (i + 1)) = wsL (l.take i) ++ wsE (l.getD i default) := by
  rw [List.take_succ_eq_append_getElem h, wsL_app]
  simp [wsL, List.getD, h]
theorem rec_word (e : Ex) (hn : recNil e.kind = false) (hs : shapeR e = true) : ∃ t fk, recOf e.kind = .iface t (.agg []) ∧
    (∀ args w, (callFunc fk args).run Tryz.prog w = .ok (.enter fk args) w) ∧ (∀ (v : Value) w, (method (Tryz.prog.types.size + Made.depth) t v "loop.example/stopgate/impl.word").run Tryz.prog w = .ok (fk, v) w) ∧ PureF Tryz.prog fk [.agg [], .agg e.cs] [.str (wordS e)] := by
  by_cases h1 : e.kind = 1
  · refine ⟨198, 185, by simp [recOf, h1], Tryz.call185, method_run info198 Tryz.underlying198 (by simp) (by rfl) rfl rfl, ?_⟩
    rw [show wordS e = fmtS e.n by simp [wordS, h1]]
    exact word1_ok e (by simp [shapeR, h1] at hs; exact hs.1)
  by_cases h2 : e.kind = 2
  · refine ⟨199, 189, by simp [recOf, h2], Tryz.call189, method_run info199 Tryz.underlying199 (by simp) (by rfl) rfl rfl, ?_⟩
    rw [show wordS e = adrS e.a by simp [wordS, h2]]
    exact word2_ok e (by simp [shapeR, h2] at hs; exact hs.1)
  by_cases h3 : isTwo e.kind = true
  · refine ⟨200, 194, by simp [recOf, h1, h2, h3], Tryz.call194, method_run info200 Tryz.underlying200 (by simp) (by rfl) rfl rfl, ?_⟩
    rw [show wordS e = twoL.getD e.kind.toNat default by simp [wordS, h1, h2, h3]]
    exact word3_ok e h3
  have h10 : e.kind = 10 := by
    simp only [Bool.not_eq_true] at h3
    simpa [recNil, h1, h2, h3] using hn
  refine ⟨201, 205, by simp [recOf, h10]; decide, Tryz.call205, method_run info201 Tryz.underlying201 (by simp) (by rfl) rfl rfl, ?_⟩
  rw [show wordS e = notS by simp [wordS, h10]; decide]
  exact word4_ok e
def wdRec (x b d fn : Nat) (fv : PV) (asg body : Code) (st : LoopState) (pe : Option Code) : AObj := .loop b d st pe fn 19 [(3, .ptr (x + 1) 0), (7, fv)] #[8, 9] asg body
@[go_sem] theorem wdRec_eq (x b d fn : Nat) (fv : PV) (asg body : Code) (st : LoopState) (pe : Option Code) : wdRec x b d fn fv asg body st pe = .loop b d st pe fn 19 [(3, .ptr (x + 1) 0), (7, fv)] #[8, 9] asg body := rfl
def wdSt (x : Nat) (rc : AObj) (b n y : Nat) (ws : List ByteArray) : List (Nat × AObj) :=
  [(x + 7, .cells 3 [.int .i64 (n : Int)]), (x + 5, rc), (y, .cells 9 (strC ws)), (x + 1, .cells 95 [.sl 9 y 0 ws.length]),
   (x + 6, .cells 196 [.fn (.yield b) [] []]), (x + 8, .cells 172 [.fn (.func 122) [] [.ptr (x + 7) 0, .ptr (x + 6) 0, .ptr (x + 8) 0]])]
@[go_sem] theorem wdSt_eq (x : Nat) (rc : AObj) (b n y : Nat) (ws : List ByteArray) : wdSt x rc b n y ws = [(x + 7, .cells 3 [.int .i64 (n : Int)]), (x + 5, rc), (y, .cells 9 (strC ws)), (x + 1, .cells 95 [.sl 9 y 0 ws.length]),
   (x + 6, .cells 196 [.fn (.yield b) [] []]), (x + 8, .cells 172 [.fn (.func 122) [] [.ptr (x + 7) 0, .ptr (x + 6) 0, .ptr (x + 8) 0]])] := rfl
def wdQ (x b d fn : Nat) (fv : PV) (asg body : Code) (e : Ex) (deep cnt : Nat) (ws : List ByteArray) (f0 : Nat → Option AObj) (B : Nat) (ex : ExitA) (s : MS) : Prop :=
  ex = .ret ∧ ∃ cnt' y' M' ws', vis e deep cnt = some cnt' ∧ cnt' ≤ 14 ∧ B ≤ y' ∧ y' < M' ∧ B ≤ M' ∧ ws' = ws ++ wsE e ∧ ws'.length = cnt' ∧ s = ⟨[(7, .bool true)], wdSt x (wdRec x b d fn fv asg body .ready none) b cnt' y' ws', f0, B, M', []⟩
theorem walkW_ok (x b d fn : Nat) (fv : PV) (asg body c : Code) (hcode : Tryz.f89.body.map rfs = some [(asg, body)]) (hc : Tryz.f122.body = some c) : ∀ (N : Nat) (e : Ex), e.sz ≤ N → e.sz ≤ 1099511627776 →
    ∀ (deep cnt y : Nat) (ws : List ByteArray) (dI : Int) (f0 : Nat → Option AObj) (B : Nat), dI = (deep : Int) → x + 9 ≤ B → (y = x + 2 ∨ x + 9 ≤ y) → y < B → f0 y = none → deep ≤ 6 → cnt ≤ 14 → ws.length = cnt → (vis e deep cnt).isSome = true →
      wpM Tryz.prog none 39 c ⟨envOf 0 [.agg e.cs, .int .i64 dI, .ptr (x + 7) 0, .ptr (x + 6) 0, .ptr (x + 8) 0], wdSt x (wdRec x b d fn fv asg body .ready none) b cnt y ws, f0, B, B, []⟩ (wdQ x b d fn fv asg body e deep cnt ws f0 B) := by
  have hcode' := Option.some.inj hcode
  simp only [rfs, List.nil_append, List.append_nil, List.cons.injEq, Prod.mk.injEq, and_true] at hcode'
  obtain ⟨hasg, hbody⟩ := hcode'
  obtain rfl : _ = c := Option.some.inj hc
  intro N
  induction N with
  | zero => intro e h; have := e.sz_pos; omega
  | succ N ih =>
    intro e hN hs deep cnt y ws dI f0 B hdI hB hy hyB hfy hd hcn hws hvis
    have hlen := e.kids_len
    have hbad : badE ((cnt : Int) + 1) (deep : Int) e = false := by
      rw [vis_eq] at hvis
      cases h : badE ((cnt : Int) + 1) (deep : Int) e with
      | false => rfl
      | true => rw [h] at hvis; simp at hvis
    have hvk : (visL e.kids (deep + 1) (cnt + 1)).isSome = true := by rw [vis_eq, hbad] at hvis; simpa using hvis
    have hb2 := hbad
    simp only [badE, Bool.or_eq_false_iff] at hb2
    obtain ⟨⟨⟨⟨hg1, hg2⟩, hrn⟩, _⟩, hsh⟩ := hb2
    have hsh' : shapeR e = true := by simpa using hsh
    have hg2' : deep < 6 := by simp at hg2; omega
    have hg1' : cnt + 1 ≤ 14 := by simp at hg1; omega
    obtain ⟨rt, fk, hr, q1, q2, q3⟩ := rec_word e hrn hsh'
    have hdel : okDel B f0 [(y, none)] = True := by simp [okDel, hfy]
    rw [← hdI] at hg2
    refine wpM_wk ?_
    refine g_ [1,2,3,4,5] ?_
    refine g_ [1,2,3,4,5] ?_
    refine n_ ?_
    refine wpM_regionK [1,4,5,24] rfl fun Q1 hQ1 => ?_
    refine S_ ?_
    refine OpM_roundK (x + 5) rfl rfl rfl rfl (by simp -implicitDefEqProofs (disch := omega) only [go_sem]; rfl) rfl rfl ?_
    intro K' hK'
    refine wpM_code hasg ?_
    simp -implicitDefEqProofs (disch := omega) only [go_sem]
    refine g_ [3,5] ?_
    refine ⟨d, none, fn, 19, [(3, .ptr (x + 1) 0), (7, fv)], #[8, 9], asg, body, rfl, ?_⟩
    refine wpM_code hbody ?_
    refine n_ ?_
    refine dr_ mixed [] 2 3 [x + 1, B + 1, y, B + 2, B + 3] [⟨[3],[0],[],[],false⟩,⟨[5],[],[],[],false⟩,⟨[11],[1],[],[],false⟩,⟨[12],[],[],[],true⟩,⟨[5],[1],[],[],false⟩,⟨[13,14],[],[],[],true⟩,⟨[15],[],[],[3],false⟩,⟨[10,16],[2,3],[2],[4],false⟩,⟨[3,17],[0],[0],[],false⟩] [0,1,2,4,3,5,6,7,8] [[],[],[1],[1,2],[],[1,2,3,4],[1,2,3,4,5],[0,1,2,3,4,5,6],[0,1,2,3,4,5,6,7]] 5 (htbl := by simp; omega) (hnm := by simp) ?_
    intro O A K hO hA hK;simp only [atL_cons,atL_nil,Nat.reduceAdd,Nat.zero_add] at hO hA
    simp -implicitDefEqProofs (disch := omega) only [go_sem, hdel, hO, hA]
    refine loud_p (recOf_ok e.kind) Tryz.call110 rfl rfl (by first | rfl | (simp -implicitDefEqProofs (disch := omega) only [go_sem] <;> rfl)) rfl ?_
    simp -implicitDefEqProofs (disch := omega) only [go_sem, hdel, hO, hA]
    refine loudi_p (args := [.agg e.cs]) q3 q1 q2 rfl (by simp -implicitDefEqProofs (disch := omega) only [go_sem, hr]) T_ rfl ?_
    simp -implicitDefEqProofs (disch := omega) only [go_sem, hdel, hO, hA]
    refine hK _ (S_ ?_);clear hK K hO hA O A
    rw [show ws.length + 1 = (ws ++ [wordS e]).length by simp]
    generalize hW : ws ++ [wordS e] = W
    have hWl : W.length = cnt + 1 := by rw [← hW]; simp [hws]
    refine ⟨d, .busy, none, fn, 19, [(3, .ptr (x + 1) 0), (7, fv)], #[8, 9], asg, body, by simp -implicitDefEqProofs (disch := omega) only [go_sem], ?_⟩
    refine hK' _ ?_; clear hK' K'
    simp -implicitDefEqProofs (disch := omega) only [go_sem, hg1, hg2]
    refine hQ1 _ _ (S_ ?_);clear hQ1 Q1
    refine c1_ ?_
    refine g_ [1,4,26,27,28] ?_
    refine n_ ?_
    refine wpM_loopS (fun s n s' => ∃ (i M ci Y : Nat) (W2 : List ByteArray), i + n = e.kids.length ∧ B + 4 ≤ M ∧ visL (e.kids.take i) (deep + 1) (cnt + 1) = some ci ∧ ci ≤ 14 ∧ B + 2 ≤ Y ∧ Y < M ∧ W2 = W ++ wsL (e.kids.take i) ∧ W2.length = ci ∧ s' = { s with env := setE 28 (.int .i64 (i : Nat)) s.env, l := wdSt x (wdRec x b d fn fv asg body .ready none) b ci Y W2 ++ [(B, .cells 68 e.cs)], M := M }) (e.kids.length) ?_ ?_
    ·
      refine .of' _ _ ⟨0, _, cnt + 1, B + 3, W, by omega, ?_, rfl, hg1', by omega, ?_, by simp [wsL], hWl, rfl⟩ ?_ ?_ ?_
      · first | omega | (simp -implicitDefEqProofs (disch := omega) only [go_sem]; done)
      · first | omega | (simp -implicitDefEqProofs (disch := omega) only [go_sem]; done) | (simp -implicitDefEqProofs (disch := omega) only [go_sem]; omega)
      all_goals exact L_
    rintro n s' ⟨i, M, ci, Y, W2, hi, hM, hv, hci, hY1, hY2, hW2, hW2l, rfl⟩
    try refine S_ ?_
    refine g_ [1,4,26,27,28,29] ?_
    refine c_ (fun hc1 => ?_) fun hc1 => ?_
    ·
      have hl0 : i < e.kids.length := by omega
      have hks := Ex.kid_sz hl0
      have hv1 : (vis (e.kids.getD i default) (deep + 1) ci).isSome = true := by
        have hx : visL e.kids (deep + 1) (cnt + 1) = (visL (e.kids.take (i + 1)) (deep + 1) (cnt + 1)).bind (visL (e.kids.drop (i + 1)) (deep + 1)) := by
          conv => lhs; rw [← List.take_append_drop (i + 1) e.kids]
          exact visL_append _ _ _ _
        rw [visL_take _ _ _ _ hl0, hv] at hx
        cases h : vis (e.kids.getD i default) (deep + 1) ci with
        | some _ => rfl
        | none =>
          simp only [Option.bind_some, h, Option.bind_none] at hx
          rw [hx] at hvk; exact hvk
      refine g_ [1,4,9,26,27,28] ?_
      refine n_ ?_
      refine wpM_regionK [1,4,26,27,28,37] rfl fun Q1 hQ1 => ?_
      refine S_ ?_
      refine OpM_inlineK (first := []) (ps := [.agg (e.kids.getD i default).cs, .int .i64 (dI + 1)]) (cap := [.ptr (x + 7) 0, .ptr (x + 6) 0, .ptr (x + 8) 0]) Tryz.func122 rfl Tryz.ntmps122 (by simp) Tryz.call122 rfl rfl F_ F_ ?_
      intro K' hK'
      refine wpM_frameC (wdSt x (wdRec x b d fn fv asg body .ready none) b ci Y W2) [(M, .cells 68 (e.kids.getD i default).cs), (B, .cells 68 e.cs)] T_ T_ T_ (by simp -implicitDefEqProofs (disch := omega) only [go_sem, true_or, or_true]) T_ ?_
      intro f1
      have hf1 : cutL (wdSt x (wdRec x b d fn fv asg body .ready none) b ci Y W2) f1 Y = none := by
        have h1 : ¬ (x + 7 = Y) := by omega
        have h2 : ¬ (x + 5 = Y) := by omega
        simp [cutL, wdSt, lk, h1, h2]
      generalize cutL (wdSt x (wdRec x b d fn fv asg body .ready none) b ci Y W2) f1 = F1 at *
      refine wpM_mono (ih (e.kids.getD i default) (by omega) (by omega) (deep + 1) ci Y W2 (dI + 1) F1 (M + 1) (by rw [hdI]; rfl) (by omega) (by omega) (by omega) hf1 (by omega) hci hW2l hv1) ?_
      rintro ex s' ⟨rfl, cnt', y', M', ws', h1, h2, h3, h4, h5, h6, h7, rfl⟩
      refine ⟨rfl, rfl, T_, (by simp -implicitDefEqProofs (disch := omega) only [go_sem, true_or, or_true]), ?_⟩
      refine ⟨[], rfl, trivial, [.bool true], (by rw [Tryz.results122]; simp -implicitDefEqProofs (disch := omega) only [go_sem]), ?_⟩
      refine hK' _ ?_; clear hK' K'
      have hv2 : visL (e.kids.take (i + 1)) (deep + 1) (cnt + 1) = some cnt' := by rw [visL_take _ _ _ _ hl0, hv]; exact h1
      refine S_ ?_
      refine hQ1 _ _ (S_ ?_);clear hQ1 Q1
      refine c1_ ?_
      refine g_ [1,4,26,27,28] ?_
      refine .of' _ _ ⟨n - 1, by omega, i + 1, _, cnt', y', ws', by omega, ?_, hv2, h2, by omega, h4, by rw [h6, hW2, wsL_take _ _ hl0, List.append_assoc], h7, rfl⟩ ?_ ?_ ?_
      · first | omega | (simp -implicitDefEqProofs (disch := omega) only [go_sem]; done) | (simp -implicitDefEqProofs (disch := omega) only [go_sem]; omega)
      all_goals exact L_
    refine g_ [7] ?_
    refine wpM_ret ?_
    try refine S_ ?_
    have hie : i = e.kids.length := by omega
    rw [hie, List.take_of_length_le (Nat.le_refl _)] at hv hW2
    refine .of' _ _ ⟨rfl, ci, Y, _, W2, ?_, hci, by omega, ?_, ?_, ?_, hW2l, rfl⟩ ?_ ?_ ?_
    · rw [vis_eq, hbad]; exact hv
    · first | omega | (simp -implicitDefEqProofs (disch := omega) only [go_sem]; done) | (simp -implicitDefEqProofs (disch := omega) only [go_sem]; omega)
    · first | omega | (simp -implicitDefEqProofs (disch := omega) only [go_sem]; done) | (simp -implicitDefEqProofs (disch := omega) only [go_sem]; omega)
    · rw [hW2, ← hW, wsE_eq, List.append_assoc]; rfl
    all_goals exact L_
theorem wordsOf_ok (e : Ex) (hs : e.sz ≤ 1099511627776) (hv : (vis e 0 0).isSome = true) : PureF Tryz.prog 89 [.agg e.cs] [.rows 9 (strR (wsE e))] := by
  refine pureF_ofM Tryz.func89 rfl Tryz.ntmps89 (by simp) T_ ?_
  intro f0 B Q hQ
  obtain ⟨asg, body, hcode⟩ : ∃ asg body, Tryz.f89.body.map rfs = some [(asg, body)] := ⟨_, _, rfl⟩
  have hcode' := Option.some.inj hcode
  simp only [rfs, List.nil_append, List.append_nil, List.cons.injEq, Prod.mk.injEq, and_true] at hcode'
  obtain ⟨hasg, hbody⟩ := hcode'
  refine g_ [1,9] ?_
  refine g_ [1,3,9] ?_
  refine wpM_nil 9 [(1, .ptr B 0), (3, .ptr (B + 1) 0)] [(B + 1, .cells 95 [.sl 9 (B + 1 + 1) 0 0]), (B, .cells 68 e.cs)] T_ T_ T_ ?_
  simp -implicitDefEqProofs (disch := omega) only [go_sem]
  refine n_ ?_
  refine wpM_regionK [3,7,9] rfl fun Q1 hQ1 => ?_
  refine S_ ?_
  refine call_fn (l := []) (first := []) (cap := []) (ps := [.agg e.cs]) (parts_ok e) Tryz.call109 rfl rfl rfl T_ T_ ?_
  rintro out ⟨x, hns, rfl⟩
  injection hns with hn1 hns
  subst hn1
  refine S_ ?_
  refine hQ1 _ _ (S_ ?_);clear hQ1 Q1
  refine n_ ?_
  refine wpM_code (c' := Code.rangeFunc (.tmp 7) #[8, 9] asg body) (by rw [← hasg, ← hbody]) ?_
  refine wpM_rangeFunc (first := []) (cap := [.ptr (B + 3) 0]) T_ Tryz.func121 rfl Tryz.ntmps121 (by simp) Tryz.call121 ?_
  intro fn b d
  refine g_ [1,2] ?_
  refine g_ [1,2,3] ?_
  refine g_ [1,2,3,4] ?_
  refine g_ [1,4] ?_
  refine wpM_regionK [] rfl fun Q1 hQ1 => ?_
  refine S_ ?_
  simp -implicitDefEqProofs (disch := omega) only [go_sem, Nat.add_assoc]
  refine OpM_inlineK (first := []) (ps := [.agg e.cs, .int .i64 0]) (cap := [.ptr (B + 7) 0, .ptr (B + 6) 0, .ptr (B + 8) 0]) Tryz.func122 rfl Tryz.ntmps122 (by simp) Tryz.call122 rfl rfl F_ F_ ?_
  intro K' hK'
  refine wpM_frameC (wdSt B (wdRec B b d fn (.fn (.func 121) [] [.ptr (B + 3) 0]) asg body .ready none) b 0 (B + 2) []) [(B + 4, .dfr d), (B + 3, .cells 68 e.cs), (B, .cells 68 e.cs)] (by simp -implicitDefEqProofs (disch := omega) only [go_sem, Int.natCast_zero, strC, List.map_nil, List.length_nil]) T_ T_ (by simp -implicitDefEqProofs (disch := omega) only [go_sem, true_or, or_true]) T_ ?_
  intro f1
  have hf1 : cutL (wdSt B (wdRec B b d fn (.fn (.func 121) [] [.ptr (B + 3) 0]) asg body .ready none) b 0 (B + 2) []) f1 (B + 2) = none := by simp [cutL, wdSt, lk]
  generalize cutL (wdSt B (wdRec B b d fn (.fn (.func 121) [] [.ptr (B + 3) 0]) asg body .ready none) b 0 (B + 2) []) f1 = F1 at *
  refine wpM_mono (walkW_ok B b d fn (.fn (.func 121) [] [.ptr (B + 3) 0]) asg body _ hcode rfl e.sz e (Nat.le_refl _) hs 0 0 (B + 2) [] 0 F1 (B + 9) rfl (by omega) (by omega) (by omega) hf1 (by omega) (by omega) rfl hv) ?_
  rintro ex s' ⟨rfl, cnt', y', M', ws', k1, k2, k3, k4, k5, k6, k7, rfl⟩
  obtain rfl : ws' = wsE e := by simpa using k6
  refine ⟨rfl, rfl, T_, (by simp -implicitDefEqProofs (disch := omega) only [go_sem, true_or, or_true]), ?_⟩
  refine ⟨[], rfl, trivial, [.bool true], (by rw [Tryz.results122]; simp -implicitDefEqProofs (disch := omega) only [go_sem]), ?_⟩
  refine hK' _ ?_; clear hK' K'
  refine S_ ?_
  refine hQ1 _ _ (S_ ?_);clear hQ1 Q1
  refine ⟨[], rfl, trivial, [], (by rw [Tryz.results121]; simp -implicitDefEqProofs (disch := omega) only [go_sem]), ?_⟩
  refine ⟨d, .ready, none, fn, 19, [(3, .ptr (B + 1) 0), (7, .fn (.func 121) [] [.ptr (B + 3) 0])], #[8, 9], asg, body, T_, (by simp), ?_⟩
  simp -implicitDefEqProofs (disch := omega) only [go_sem, Nat.add_assoc]
  refine g_ [2] ?_
  refine wpM_frz [y'] [(9, y', 0, (wsE e).length, strR (wsE e))] (by intro q hq; simp at hq; subst hq; simp -implicitDefEqProofs (disch := omega) only [go_sem]) (by intro q hq; simp only [List.mem_cons, List.not_mem_nil, or_false] at hq; subst hq; exact ⟨by simp, rowsOf_str (T := 9) T_ rfl⟩) ?_
  refine S_ ?_
  refine wpM_ret ?_
  try refine S_ ?_
  refine hQ [B + 4] _ _ rfl rfl rfl ⟨⟨by simp -implicitDefEqProofs (disch := omega) only [go_sem], ⟨d, by simp -implicitDefEqProofs (disch := omega) only [go_sem]⟩, by simp⟩, trivial⟩ (by simp -implicitDefEqProofs (disch := omega) only [go_sem, true_or]) ?_ (.inl rfl)
  rw [Tryz.results89]
  simp -implicitDefEqProofs (disch := omega) only [go_sem]
mutual
theorem wsE_len : (e : Ex) → (wsE e).length = e.sz
  | .mk k n a l => by simp only [wsE, Ex.sz, List.length_cons, wsL_len l]; omega
theorem wsL_len : (l : List Ex) → (wsL l).length = Ex.szL l
  | [] => rfl
  | e :: l => by simp only [wsL, Ex.szL, List.length_append, wsE_len e, wsL_len l]
end
end Go.Proofs.YtnmfmeehmieifaaGreatDoor
namespace Go.Proofs.YtnmfmeehmieifaaGreatDoor
open Go Sg
set_option linter.unusedSectionVars false
variable [Glob]
set_option maxRecDepth 100000
set_option linter.unusedSimpArgs false
set_option linter.unusedVariables false
set_option maxHeartbeats 4000000
structure Trn where
  fr : List Int
  to' : List Int
  w : Ex
  deriving Inhabited
structure GAct where
  kind : Int
  step : Int
  to' : AD
  deriving DecidableEq, Inhabited
structure Cht where
  steps : Int
  ts : List Trn
  as' : List GAct
  deriving Inhabited
structure Mrk where
  on : List Bool
  kept : List Bool
  deriving DecidableEq, Inhabited
def Trn.cs (t : Trn) : List PV := [.rows 3 (rowsI t.fr), .rows 3 (rowsI t.to'), .int .i64 t.w.kind, .int .i64 t.w.n, .int .i64 t.w.a.kind, .int .i64 t.w.a.at', .rows 68 (Ex.csL t.w.kids)]
@[go_sem] theorem Trn.cs_eq (t : Trn) : t.cs = [.rows 3 (rowsI t.fr), .rows 3 (rowsI t.to'), .int .i64 t.w.kind, .int .i64 t.w.n, .int .i64 t.w.a.kind, .int .i64 t.w.a.at', .rows 68 (Ex.csL t.w.kids)] := rfl
def GAct.cs (a : GAct) : List PV := [.int .i64 a.kind, .int .i64 a.step, .int .i64 a.to'.kind, .int .i64 a.to'.at']
@[go_sem] theorem GAct.cs_eq (a : GAct) : a.cs = [.int .i64 a.kind, .int .i64 a.step, .int .i64 a.to'.kind, .int .i64 a.to'.at'] := rfl
def rowsT (l : List Trn) : List (List PV) := l.map Trn.cs
def rowsA (l : List GAct) : List (List PV) := l.map GAct.cs
@[go_sem] theorem rowsT_len (l : List Trn) : (rowsT l).length = l.length := by simp [rowsT]
@[go_sem] theorem rowsT_getD (l : List Trn) (k : Nat) (h : k < l.length) : (rowsT l).getD k [] = (l.getD k default).cs := by simp [rowsT, List.getD, h]
@[go_sem] theorem rowsA_len (l : List GAct) : (rowsA l).length = l.length := by simp [rowsA]
@[go_sem] theorem rowsA_getD (l : List GAct) (k : Nat) (h : k < l.length) : (rowsA l).getD k [] = (l.getD k default).cs := by simp [rowsA, List.getD, h]
def Cht.cs (c : Cht) : List PV := [.int .i64 c.steps, .rows 90 (rowsT c.ts), .rows 94 (rowsA c.as')]
@[go_sem] theorem Cht.cs_eq (c : Cht) : c.cs = [.int .i64 c.steps, .rows 90 (rowsT c.ts), .rows 94 (rowsA c.as')] := rfl
def Mrk.cs (k : Mrk) : List PV := [.rows 4 (rowsB k.on), .rows 4 (rowsB k.kept)]
@[go_sem] theorem Mrk.cs_eq (k : Mrk) : k.cs = [.rows 4 (rowsB k.on), .rows 4 (rowsB k.kept)] := rfl
def plBad (l : List Int) (b : Int) (i : Nat) : Bool := decide (l.getD i 0 < 0) || decide (l.getD i 0 ≥ b) || (decide ((i : Int) > 0) && decide (l.getD i 0 ≤ l.getD ((i : Int) - 1).toNat 0))
def plOk (l : List Int) (b : Int) : Bool := (List.range l.length).all (fun i => !plBad l b i) && decide ((l.length : Int) > 0)
theorem plOk_ok (l : List Int) (b : Int) (hl : l.length ≤ 1099511627776) : PureF Tryz.prog 77 [.rows 3 (rowsI l), .int .i64 b] [.bool (plOk l b)] := by
  refine pureF_of Tryz.func77 rfl Tryz.ntmps77 (by simp) T_ ?_
  intro f0 B Q hQ
  refine g_ [0,1] ?_
  refine g_ [0,1,5] ?_
  refine n_ ?_
  refine wpM_loopS (fun s n s' => ∃ (i0 M0 : Nat) , i0 + n = l.length ∧ s.M ≤ M0 ∧ ((List.range i0).all (fun i => !plBad l b i) = true) ∧ s' = { s with env := setE 5 (.int .i64 (i0 : Nat)) s.env, M := M0 }) (l.length) ?_ ?_
  ·
    refine .of' _ _ ⟨0, _, by omega, Nat.le_refl _, by simp, rfl⟩ ?_ ?_ ?_ <;> exact L_
  rintro n0 s' ⟨i0, M0, hi0, hM0, hv0, rfl⟩
  try dsimp only at hM0
  try refine S_ ?_
  refine g_ [0,1,5,9] ?_
  refine c_ (fun hc0 => ?_) fun hc0 => ?_
  ·
    have hl0 : i0 < l.length := by omega
    refine n_ ?_
    refine dr_ mixed [0,1,5,40] 0 0 [] [⟨[0],[],[],[],false⟩,⟨[5],[],[],[],false⟩,⟨[12,13],[],[],[],false⟩,⟨[14],[],[],[],false⟩,⟨[15],[],[],[],false⟩,⟨[16],[],[],[],false⟩,⟨[0,17],[],[],[],false⟩,⟨[5,17],[],[],[],false⟩,⟨[17,18,19],[],[],[],false⟩,⟨[17,20],[],[],[],false⟩,⟨[1,17],[],[],[],false⟩,⟨[17,21,22],[],[],[],false⟩,⟨[17,23],[],[],[],false⟩,⟨[24],[],[],[],false⟩,⟨[5,25],[],[],[],false⟩,⟨[25,26],[],[],[],false⟩,⟨[25,27],[],[],[],false⟩,⟨[0,28],[],[],[],false⟩,⟨[5,28],[],[],[],false⟩,⟨[28,29,30],[],[],[],false⟩,⟨[28,31],[],[],[],false⟩,⟨[0,28],[],[],[],false⟩,⟨[5,28],[],[],[],false⟩,⟨[28,34],[],[],[],false⟩,⟨[28,33,35],[],[],[],false⟩,⟨[28,36],[],[],[],false⟩,⟨[28,32,37],[],[],[],false⟩,⟨[25,28,38],[],[],[],false⟩,⟨[25,39],[],[],[],false⟩] [0,1,2,3,4,5,6,7,8,9,10,11,12,13,14,15,16,17,18,19,20,21,22,23,24,25,26,27,28] [[],[],[0,1],[0,1,2],[0,1,2,3],[0,1,2,3,4],[0,1,2,3,4,5],[0,1,2,3,4,5],[0,1,2,3,4,5,6,7],[0,1,2,3,4,5,6,7,8],[0,1,2,3,4,5],[0,1,2,3,4,5,6,7,8,9,10],[0,1,2,3,4,5,6,7,8,9,10,11],[0,1,2,3,4,5,6,7,8,9,10,11,12],[0,1,2,3,4,5,6,7,8,9,10,11,12,13],[0,1,2,3,4,5,6,7,8,9,10,11,12,13,14],[0,1,2,3,4,5,6,7,8,9,10,11,12,13,14,15],[0,1,2,3,4,5,6,7,8,9,10,11,12,13,14,15,16],[0,1,2,3,4,5,6,7,8,9,10,11,12,13,14,15,16],[0,1,2,3,4,5,6,7,8,9,10,11,12,13,14,15,16,17,18],[0,1,2,3,4,5,6,7,8,9,10,11,12,13,14,15,16,17,18,19],[0,1,2,3,4,5,6,7,8,9,10,11,12,13,14,15,16],[0,1,2,3,4,5,6,7,8,9,10,11,12,13,14,15,16],[0,1,2,3,4,5,6,7,8,9,10,11,12,13,14,15,16,22],[0,1,2,3,4,5,6,7,8,9,10,11,12,13,14,15,16,21,22,23],[0,1,2,3,4,5,6,7,8,9,10,11,12,13,14,15,16,21,22,23,24],[0,1,2,3,4,5,6,7,8,9,10,11,12,13,14,15,16,17,18,19,20,21,22,23,24,25],[0,1,2,3,4,5,6,7,8,9,10,11,12,13,14,15,16,17,18,19,20,21,22,23,24,25,26],[0,1,2,3,4,5,6,7,8,9,10,11,12,13,14,15,16,17,18,19,20,21,22,23,24,25,26,27]] 0 ?_
    intro O A K hO hA hK;simp only [atL_cons,atL_nil,Nat.reduceAdd,Nat.zero_add] at hO hA
    refine SE_ ?_
    refine hK _ (S_ ?_);clear hK K hO hA O A
    refine c_ (fun hc1 => ?_) fun hc1 => ?_
    ·
      refine g_ [4] ?_
      refine e_ Tryz.results77 ?_
      first
      | exact True.intro
      | first | (have h1 : plBad l b i0 = true := hc1
                 rw [plOk, range_no hl0 (by rw [h1]; rfl)]; rfl) | (have : i0 = l.length := by omega
                                                                    rw [plOk, ← this, hv0]; rfl)
    refine g_ [0,1,5] ?_
    refine .of' _ _ ⟨n0 - 1, by omega, i0 + 1, _, by omega, M_, ?_, rfl⟩ L_ L_ L_
    rw [range_all, hv0]
    have : plBad l b i0 = false := hc1
    rw [this]; rfl
  refine g_ [4] ?_
  refine e_ Tryz.results77 ?_
  first
  | exact True.intro
  | first | (have h1 : plBad l b i0 = true := hc1
             rw [plOk, range_no hl0 (by rw [h1]; rfl)]; rfl) | (have : i0 = l.length := by omega
                                                                rw [plOk, ← this, hv0]; rfl)
structure Trn.Sm (t : Trn) : Prop where
  fr : t.fr.length ≤ 1099511627776
  to' : t.to'.length ≤ 1099511627776
  w : t.w.sz ≤ 1099511627776
structure Cht.Sm (c : Cht) : Prop where
  ts : c.ts.length ≤ 1099511627776
  as' : c.as'.length ≤ 1099511627776
  t : ∀ i, i < c.ts.length → (c.ts.getD i default).Sm
def Trn.bad (s : Int) (t : Trn) : Bool := !plOk t.fr s || !plOk t.to' s || !t.w.ok
def GAct.bad (s : Int) (a : GAct) : Bool := decide (a.kind < 1) || decide (a.kind > 4) || decide (a.step < 0) || decide (a.step ≥ s) || !a.to'.ok || a.to'.kind != 2
def Cht.ok (c : Cht) : Bool := if decide (c.steps < 1) || decide (c.steps > 6) || decide ((c.ts.length : Int) > 6) || decide ((c.as'.length : Int) > 6) then false
  else c.ts.all (fun t => !t.bad c.steps) && c.as'.all (fun a => !a.bad c.steps)
theorem chtOk_ok (c : Cht) (hc : c.Sm) : PureF Tryz.prog 40 [.agg c.cs] [.bool c.ok] := by
  have hts := hc.ts
  have has := hc.as'
  refine pureF_of Tryz.func40 rfl Tryz.ntmps40 (by simp) T_ ?_
  intro f0 B Q hQ
  refine g_ [1] ?_
  refine gD_ [1,26] ?_
  refine c_ (fun hc0 => ?_) fun hc0 => ?_
  ·
    refine g_ [2] ?_
    refine e_ Tryz.results40 ?_
    first
    | exact True.intro
    | unfold Cht.ok
      first
      | rw [if_pos hc0]
      | (have hb : (c.ts.getD i0 default).bad c.steps = true := hc2
         rw [if_neg (by rw [hc0]; simp), all_no (p := fun t => !t.bad c.steps) hl0 (by simp only [hb]; rfl)]; rfl)
      | (have hb : (c.as'.getD i1 default).bad c.steps = true := hc4
         rw [if_neg (by rw [hc0]; simp), all_no (l := c.as') (p := fun t => !t.bad c.steps) hl1 (by simp only [hb]; rfl), Bool.and_false])
      | rw [if_neg (by rw [hc0]; simp), all_yes hi0 hc1 hv0, all_yes hi1 hc3 hv1]; rfl
  refine g_ [1,3] ?_
  refine n_ ?_
  refine wpM_loopS (fun s n s' => ∃ (i0 M0 : Nat) , i0 + n = c.ts.length ∧ s.M ≤ M0 ∧ ((c.ts.take i0).all (fun t => !t.bad c.steps) = true) ∧ s' = { s with env := setE 3 (.int .i64 (i0 : Nat)) s.env, M := M0 }) (c.ts.length) ?_ ?_
  ·
    refine .of' _ _ ⟨0, _, by omega, Nat.le_refl _, by simp, rfl⟩ ?_ ?_ ?_ <;> exact L_
  rintro n0 s' ⟨i0, M0, hi0, hM0, hv0, rfl⟩
  try dsimp only at hM0
  try refine S_ ?_
  refine g_ [1,3,31] ?_
  refine c_ (fun hc1 => ?_) fun hc1 => ?_
  ·
    have hl0 : i0 < c.ts.length := by omega
    have ht := hc.t i0 hl0
    refine g_ [1,3,4] ?_
    refine n_ ?_
    refine wpM_regionK [1,3,58] rfl fun Q1 hQ1 => ?_
    refine SD_ ?_
    refine cpD_ (plOk_ok (c.ts.getD i0 default).fr c.steps ht.fr) Tryz.call77 ?_
    first | refine cg_ (fun hb => plOk_ok (c.ts.getD i0 default).to' c.steps ht.to') Tryz.call77 ?_ | refine cpD_ (plOk_ok (c.ts.getD i0 default).to' c.steps ht.to') Tryz.call77 ?_
    first | refine cg_ (fun hb => exprOk_ok (c.ts.getD i0 default).w ht.w) Tryz.call78 ?_ | refine cpD_ (exprOk_ok (c.ts.getD i0 default).w ht.w) Tryz.call78 ?_
    refine hQ1 _ _ (S_ ?_);clear hQ1 Q1
    refine c_ (fun hc2 => ?_) fun hc2 => ?_
    ·
      refine g_ [2] ?_
      refine e_ Tryz.results40 ?_
      first
      | exact True.intro
      | unfold Cht.ok
        first
        | rw [if_pos hc0]
        | (have hb : (c.ts.getD i0 default).bad c.steps = true := hc2
           rw [if_neg (by rw [hc0]; simp), all_no (p := fun t => !t.bad c.steps) hl0 (by simp only [hb]; rfl)]; rfl)
        | (have hb : (c.as'.getD i1 default).bad c.steps = true := hc4
           rw [if_neg (by rw [hc0]; simp), all_no (l := c.as') (p := fun t => !t.bad c.steps) hl1 (by simp only [hb]; rfl), Bool.and_false])
        | rw [if_neg (by rw [hc0]; simp), all_yes hi0 hc1 hv0, all_yes hi1 hc3 hv1]; rfl
    refine g_ [1,3] ?_
    refine .of' _ _ ⟨n0 - 1, by omega, i0 + 1, _, by omega, M_, ?_, rfl⟩ L_ L_ L_
    have hb : (c.ts.getD i0 default).bad c.steps = false := hc2
    rw [take_all _ _ _ hl0, hv0, hb]; rfl
  refine g_ [1,5] ?_
  refine n_ ?_
  refine wpM_loopS (fun s n s' => ∃ (i1 M1 : Nat) , i1 + n = c.as'.length ∧ s.M ≤ M1 ∧ ((c.as'.take i1).all (fun a => !a.bad c.steps) = true) ∧ s' = { s with env := setE 5 (.int .i64 (i1 : Nat)) s.env, M := M1 }) (c.as'.length) ?_ ?_
  ·
    refine .of' _ _ ⟨0, _, by omega, Nat.le_refl _, by simp, rfl⟩ ?_ ?_ ?_ <;> exact L_
  rintro n1 s' ⟨i1, M1, hi1, hM1, hv1, rfl⟩
  try dsimp only at hM1
  try refine S_ ?_
  refine g_ [1,5,63] ?_
  refine c_ (fun hc3 => ?_) fun hc3 => ?_
  ·
    have hl1 : i1 < c.as'.length := by omega
    refine g_ [1,5,6] ?_
    refine n_ ?_
    refine wpM_regionK [1,5,102] rfl fun Q1 hQ1 => ?_
    refine SD_ ?_
    first | refine cg_ (fun hb => addrOk_ok (c.as'.getD i1 default).to') Tryz.call79 ?_ | refine cpD_ (addrOk_ok (c.as'.getD i1 default).to') Tryz.call79 ?_
    refine hQ1 _ _ (S_ ?_);clear hQ1 Q1
    refine c_ (fun hc4 => ?_) fun hc4 => ?_
    ·
      refine g_ [2] ?_
      refine e_ Tryz.results40 ?_
      first
      | exact True.intro
      | unfold Cht.ok
        first
        | rw [if_pos hc0]
        | (have hb : (c.ts.getD i0 default).bad c.steps = true := hc2
           rw [if_neg (by rw [hc0]; simp), all_no (p := fun t => !t.bad c.steps) hl0 (by simp only [hb]; rfl)]; rfl)
        | (have hb : (c.as'.getD i1 default).bad c.steps = true := hc4
           rw [if_neg (by rw [hc0]; simp), all_no (l := c.as') (p := fun t => !t.bad c.steps) hl1 (by simp only [hb]; rfl), Bool.and_false])
        | rw [if_neg (by rw [hc0]; simp), all_yes hi0 hc1 hv0, all_yes hi1 hc3 hv1]; rfl
    refine g_ [1,5] ?_
    refine .of' _ _ ⟨n1 - 1, by omega, i1 + 1, _, by omega, M_, ?_, rfl⟩ L_ L_ L_
    have hb : (c.as'.getD i1 default).bad c.steps = false := hc4
    rw [take_all _ _ _ hl1, hv1, hb]; rfl
  refine g_ [2] ?_
  refine e_ Tryz.results40 ?_
  first
  | exact True.intro
  | unfold Cht.ok
    first
    | rw [if_pos hc0]
    | (have hb : (c.ts.getD i0 default).bad c.steps = true := hc2
       rw [if_neg (by rw [hc0]; simp), all_no (p := fun t => !t.bad c.steps) hl0 (by simp only [hb]; rfl)]; rfl)
    | (have hb : (c.as'.getD i1 default).bad c.steps = true := hc4
       rw [if_neg (by rw [hc0]; simp), all_no (l := c.as') (p := fun t => !t.bad c.steps) hl1 (by simp only [hb]; rfl), Bool.and_false])
    | rw [if_neg (by rw [hc0]; simp), all_yes hi0 hc1 hv0, all_yes hi1 hc3 hv1]; rfl
def allOn (on : List Bool) (l : List Int) : Bool := l.all fun x => on.getD x.toNat false
end Go.Proofs.YtnmfmeehmieifaaGreatDoor
namespace Go.Proofs.YtnmfmeehmieifaaGreatDoor
open Go Sg Go.Lib
set_option maxRecDepth 100000
set_option linter.unusedSimpArgs false
set_option linter.unusedVariables false
set_option linter.unusedSectionVars false
variable [Glob]
def letB (k : Int) : List UInt8 := if k = 1 then [105] else if k = 2 then [111] else [118]
def adrB (a : AD) : List UInt8 := letB a.kind ++ itoa a.at'
def twoB (k : Int) : List UInt8 := if k = 3 then [97, 100, 100] else if k = 4 then [115, 117, 98] else if k = 5 then [109, 117, 108] else if k = 6 then [108, 101, 115, 115] else if k = 7 then [115, 97, 109, 101] else if k = 8 then [97, 110, 100] else [111, 114]
def notB : List UInt8 := [110, 111, 116]
def wordB (e : Ex) : List UInt8 := if e.kind == 1 then itoa e.n else if e.kind == 2 then adrB e.a else if isTwo e.kind then twoB e.kind else notB
mutual
def wsB : Ex → List (List UInt8)
  | .mk k n a l => wordB (.mk k n a l) :: wsBL l
def wsBL : List Ex → List (List UInt8)
  | [] => []
  | e :: l => wsB e ++ wsBL l
end
theorem form_kinds {d : Nat} {e : Ex} (h : formD (d + 1) e = true) : (e.kind = 1 ∨ e.kind = 2 ∨ (3 ≤ e.kind ∧ e.kind ≤ 9) ∨ e.kind = 10) ∧ (e.kind ≠ 1 → e.n = 0) ∧ (e.kind ≠ 2 → e.a = ⟨0, 0⟩) ∧ (e.kind = 2 → e.a.ok = true) := by
  have h1 := form_inv h
  simp only [formD] at h
  split at h
  · cases h
  · split at h
    · cases h
    · rename_i h2
      split at h
      · cases h
      · rename_i h3
        refine ⟨?_, fun hk => ?_, fun hk => ?_, h1.2.1⟩
        · have := h1.1
          unfold kidsN at this
          split at this
          · rename_i hk; simp at hk; omega
          · split at this
            · rename_i hk; simp at hk; omega
            · split at this
              · rename_i hk; simp at hk; omega
              · omega
        · by_cases hn : e.n = 0
          · exact hn
          · exact absurd (by simp [hk, hn]) h2
        · obtain ⟨ka, ca⟩ : ∃ x y, e.a = ⟨x, y⟩ := ⟨e.a.kind, e.a.at', rfl⟩
          obtain ⟨y, hy⟩ := ca
          have h4 : ¬ ((e.kind == 2 && !e.a.ok) || (e.kind != 2 && !(e.a.kind == 0 && e.a.at' == 0))) = true := h3
          rw [hy] at h4 ⊢
          by_cases hx : ka = 0
          · by_cases hyy : y = 0
            · rw [hx, hyy]
            · exact absurd (by simp [hk, hyy]) h4
          · exact absurd (by simp [hk, hx]) h4
theorem let_free (c : UInt8) (hc : c.toNat < 45) (k : Int) : Free c (letB k) := by
  unfold letB Free
  split
  · intro b hb e; simp at hb; subst hb; subst e; exact absurd hc (by decide)
  · split
    · intro b hb e; simp at hb; subst hb; subst e; exact absurd hc (by decide)
    · intro b hb e; simp at hb; subst hb; subst e; exact absurd hc (by decide)
theorem free_app {c : UInt8} {x y : List UInt8} (h : Free c x) (k : Free c y) : Free c (x ++ y) := fun b hb => (List.mem_append.1 hb).elim (h b) (k b)
theorem adr_free (c : UInt8) (hc : c.toNat < 45) (a : AD) : Free c (adrB a) := free_app (let_free c hc _) (itoa_free c (.inl hc) _)
theorem word_free (c : UInt8) (hc : c.toNat < 45) (e : Ex) : Free c (wordB e) := by
  unfold wordB
  split
  · exact itoa_free c (.inl hc) _
  · split
    · exact adr_free c hc _
    · split
      · unfold twoB Free
        have hc' : ∀ l : List UInt8, l.all (fun b => decide (97 ≤ b.toNat)) = true → ∀ b ∈ l, b ≠ c := fun l hl b hb e => by
          have := of_decide_eq_true ((List.all_eq_true.1 hl) b hb)
          subst e; omega
        repeat' split
        all_goals exact hc' _ (by decide)
      · intro b hb e
        have hl : notB.all (fun b => decide (97 ≤ b.toNat)) = true := by decide
        have := of_decide_eq_true ((List.all_eq_true.1 hl) b hb)
        subst e; omega
mutual
theorem wsB_free (c : UInt8) (hc : c.toNat < 45) : (e : Ex) → ∀ w ∈ wsB e, Free c w
  | .mk k n a l, w, hw => by
    simp only [wsB, List.mem_cons] at hw
    rcases hw with rfl | hw
    · exact word_free c hc _
    · exact wsBL_free c hc l w hw
theorem wsBL_free (c : UInt8) (hc : c.toNat < 45) : (l : List Ex) → ∀ w ∈ wsBL l, Free c w
  | [], w, hw => by simp [wsBL] at hw
  | e :: l, w, hw => by
    simp only [wsBL, List.mem_append] at hw
    rcases hw with hw | hw
    · exact wsB_free c hc e w hw
    · exact wsBL_free c hc l w hw
end
end Go.Proofs.YtnmfmeehmieifaaGreatDoor
namespace Go.Proofs.YtnmfmeehmieifaaGreatDoor
open Go Sg Go.Lib
set_option maxRecDepth 100000
set_option linter.unusedSimpArgs false
set_option linter.unusedVariables false
set_option linter.unusedSectionVars false
variable [Glob]
def plB (l : List Int) : List UInt8 := join (l.map itoa) [44]
structure TrOk (t : Trn) : Prop where
  fr : t.fr ≠ []
  to' : t.to' ≠ []
  w : formD 6 t.w = true
structure AcOk (a : GAct) : Prop where
  k : 1 ≤ a.kind ∧ a.kind ≤ 4
  to' : a.to'.ok = true
theorem cht_inv {c : Cht} (h : c.ok = true) : (1 ≤ c.steps ∧ c.steps ≤ 6) ∧ c.ts.length ≤ 6 ∧ c.as'.length ≤ 6 ∧ (∀ t ∈ c.ts, plOk t.fr c.steps = true ∧ plOk t.to' c.steps = true ∧ t.w.ok = true) ∧ ∀ a ∈ c.as', 1 ≤ a.kind ∧ a.kind ≤ 4 ∧ 0 ≤ a.step ∧ a.step < c.steps ∧ a.to'.ok = true := by
  unfold Cht.ok at h
  split at h
  · cases h
  · rename_i h1
    simp only [Bool.or_eq_true, decide_eq_true_eq, not_or] at h1
    simp only [Bool.and_eq_true, List.all_eq_true] at h
    refine ⟨by omega, by omega, by omega, fun t ht => ?_, fun a ha => ?_⟩
    · have := h.1 t ht
      simp only [Trn.bad, Bool.not_eq_true', Bool.or_eq_false_iff, Bool.not_eq_false'] at this
      exact ⟨this.1.1, this.1.2, this.2⟩
    · have := h.2 a ha
      simp only [GAct.bad, Bool.not_eq_true', Bool.or_eq_false_iff, Bool.not_eq_false', decide_eq_false_iff_not] at this
      refine ⟨by omega, by omega, by omega, by omega, this.1.2⟩
end Go.Proofs.YtnmfmeehmieifaaGreatDoor
namespace Go.Proofs.YtnmfmeehmieifaaGreatDoor
open Go Sg
set_option maxRecDepth 100000
set_option linter.unusedSimpArgs false
set_option linter.unusedVariables false
set_option linter.unusedSectionVars false
set_option maxHeartbeats 4000000
variable [TabK]
abbrev bt (s : ByteArray) : List UInt8 := s.data.toList
theorem bt_fmt (n : Int) : bt (fmtS n) = Lib.itoa n := by simp [bt, fmtS]
theorem bt_app (a b : ByteArray) : bt (a ++ b) = bt a ++ bt b := by simp [bt]
end Go.Proofs.YtnmfmeehmieifaaGreatDoor
namespace Go.Proofs.YtnmfmeehmieifaaGreatDoor
open Go Sg
set_option linter.unusedSectionVars false
variable [Glob]
set_option maxRecDepth 100000
set_option linter.unusedSimpArgs false
set_option linter.unusedVariables false
set_option maxHeartbeats 4000000
def idxOf {α : Type} (p : α → Bool) (l : List α) : Int := if l.any p then (l.findIdx p : Int) else -1
theorem idxOf_at {α : Type} {p : α → Bool} {l : List α} {z : α} {i : Nat} (h : i < l.length) (ha : (l.take i).all (fun x => !p x) = true) (hp : p (l.getD i z) = true) : idxOf p l = (i : Int) := by
  have hg : l.getD i z = l[i] := by simp [List.getD, h]
  rw [hg] at hp
  have hany : l.any p = true := List.any_eq_true.2 ⟨l[i], List.getElem_mem h, hp⟩
  rw [idxOf, if_pos hany]
  have : l.findIdx p = i := by
    rw [List.findIdx_eq h]
    refine ⟨hp, fun j hj => ?_⟩
    rw [List.all_eq_true] at ha
    have hm : l[j] ∈ l.take i := by
      rw [List.mem_take_iff_getElem]
      exact ⟨j, by omega, rfl⟩
    have := ha _ hm
    simpa using this
  rw [this]
theorem idxOf_no {α : Type} {p : α → Bool} {l : List α} (ha : l.all (fun x => !p x) = true) : idxOf p l = -1 := by
  have : l.any p = false := by
    rw [List.all_eq_not_any_not] at ha
    simpa using ha
  rw [idxOf, if_neg (by rw [this]; simp)]
theorem idxOf_ge {α : Type} (p : α → Bool) (l : List α) : decide (idxOf p l ≥ 0) = l.any p := by
  unfold idxOf
  cases h : l.any p <;> simp
def eqI (a b : List Int) : Bool := if (a.length : Int) != (b.length : Int) then false else (List.range a.length).all (fun i => !(a.getD i 0 != b.getD i 0))
end Go.Proofs.YtnmfmeehmieifaaGreatDoor
namespace Go.Proofs.YtnmfmeehmieifaaGreatDoor
open Go Sg
set_option linter.unusedSectionVars false
variable [Glob]
set_option maxRecDepth 100000
set_option linter.unusedSimpArgs false
set_option linter.unusedVariables false
set_option maxHeartbeats 4000000
def MM.flat (m : MM) : List Int := m.i ++ (m.o ++ m.v)
theorem MM.flat_len {m : MM} (h : m.Six) : m.flat.length = 18 := by simp [MM.flat, h.i, h.o, h.v]
end Go.Proofs.YtnmfmeehmieifaaGreatDoor
namespace Go.Proofs.YtnmfmeehmieifaaGreatDoor
open Go Sg
set_option linter.unusedSectionVars false
variable [Glob]
set_option maxRecDepth 100000
set_option linter.unusedSimpArgs false
set_option linter.unusedVariables false
set_option maxHeartbeats 4000000
end Go.Proofs.YtnmfmeehmieifaaGreatDoor
namespace Go.Proofs.YtnmfmeehmieifaaGreatDoor
open Go Sg
set_option linter.unusedSectionVars false
variable [Glob]
set_option maxRecDepth 100000
set_option linter.unusedSimpArgs false
set_option linter.unusedVariables false
set_option maxHeartbeats 4000000
def mobj (id : Nat) (m : MM) : List (Nat × AObj) := [(id, .cells 116 (ints m.flat))]
@[go_sem] theorem mobj_eq (id : Nat) (m : MM) : mobj id m = [(id, .cells 116 (ints m.flat))] := rfl
end Go.Proofs.YtnmfmeehmieifaaGreatDoor
namespace Go.Proofs.YtnmfmeehmieifaaGreatDoor
open Go Sg
set_option linter.unusedSectionVars false
variable [Glob]
set_option maxRecDepth 100000
set_option linter.unusedSimpArgs false
set_option linter.unusedVariables false
set_option maxHeartbeats 4000000
theorem loc_eq (e : Ex) : (recNil e.kind || (e.kids.length : Int) != kidsR e.kind || !shapeR e) =
    (kidsN e.kind != (e.kids.length : Int) || ((e.kind == 1 && cut e.n != e.n) || (e.kind != 1 && e.n != 0)) || ((e.kind == 2 && !e.a.ok) || (e.kind != 2 && !(e.a.kind == 0 && e.a.at' == 0)))) := by
  unfold recNil kidsR shapeR kidsN noAddr isTwo
  simp only [isNum_cut]
  have hL : 0 ≤ (e.kids.length : Int) := by omega
  generalize (e.kids.length : Int) = L at *
  generalize cut e.n = cn
  generalize e.n = n
  generalize e.a.ok = ok
  generalize e.a.kind = ak
  generalize e.a.at' = aa
  generalize e.kind = k
  by_cases h1 : k = 1
  · subst h1
    rw [Bool.eq_iff_iff]
    cases ok <;> simp <;> omega
  by_cases h2 : k = 2
  · subst h2
    rw [Bool.eq_iff_iff]
    cases ok <;> simp <;> omega
  by_cases h10 : k = 10
  · subst h10
    rw [Bool.eq_iff_iff]
    cases ok <;> simp <;> omega
  have e1 : (k == 1) = false := by simpa using h1
  have e2 : (k == 2) = false := by simpa using h2
  have e3 : (k == 10) = false := by simpa using h10
  rw [e1, e2, e3]
  by_cases h3 : 3 ≤ k ∧ k ≤ 9
  · have f1 : decide (k ≥ 3) = true := by simp; omega
    have f2 : decide (k ≤ 9) = true := by simp; omega
    rw [f1, f2, Bool.eq_iff_iff]
    cases ok <;> simp <;> omega
  · have f : (decide (k ≥ 3) && decide (k ≤ 9)) = false := by
      rw [Bool.and_eq_false_iff]; simp; omega
    have fk : ((k ≥ 3) ∧ (k ≤ 9)) = False := by simp; omega
    rw [f, Bool.eq_iff_iff]
    cases ok <;> simp [bne, h1, h2] <;> omega
theorem form_eq (d : Nat) (e : Ex) : formD (d + 1) e = (!(recNil e.kind || (e.kids.length : Int) != kidsR e.kind || !shapeR e) && e.kids.all (formD d)) := by
  rw [loc_eq, formD]
  cases (kidsN e.kind != (e.kids.length : Int)) <;> simp only [Bool.false_eq_true, if_false, if_true, Bool.true_or, Bool.false_or, Bool.not_true, Bool.false_and]
  cases ((e.kind == 1 && cut e.n != e.n) || (e.kind != 1 && e.n != 0)) <;> simp only [Bool.false_eq_true, if_false, if_true, Bool.true_or, Bool.false_or, Bool.not_true, Bool.false_and]
  cases ((e.kind == 2 && !e.a.ok) || (e.kind != 2 && !(e.a.kind == 0 && e.a.at' == 0))) <;> simp
theorem bad_eq (c deep : Nat) (e : Ex) : badE ((c : Int) + 1) (deep : Int) e = (decide (14 ≤ c) || decide (6 ≤ deep) || (recNil e.kind || (e.kids.length : Int) != kidsR e.kind || !shapeR e)) := by
  unfold badE
  have h1 : decide ((c : Int) + 1 > 14) = decide (14 ≤ c) := by simp; omega
  have h2 : decide ((deep : Int) ≥ 6) = decide (6 ≤ deep) := by simp; omega
  rw [h1, h2]
  simp only [Bool.or_assoc]
theorem vis_sound (d : Nat) : d ≤ 6 → ∀ (e : Ex) (c c' : Nat), vis e (6 - d) c = some c' → formD d e = true ∧ c' = c + manyD d e ∧ c' ≤ 14 := by
  induction d with
  | zero =>
    intro _ e c c' h
    rw [vis_eq, bad_eq] at h
    simp at h
  | succ d ih =>
    intro hd e c c' h
    have hL : ∀ (l : List Ex) (c c' : Nat), c ≤ 14 → visL l (6 - d) c = some c' → l.all (formD d) = true ∧ c' = c + (l.map (manyD d)).sum ∧ c' ≤ 14 := by
      intro l
      induction l with
      | nil => intro c c' hc h; simp [visL] at h; subst h; simp [hc]
      | cons x l ihl =>
        intro c c' hc h
        simp only [visL] at h
        split at h
        · cases h
        · rename_i c1 h1
          obtain ⟨a1, a2, a3⟩ := ih (by omega) x c c1 h1
          obtain ⟨b1, b2, b3⟩ := ihl c1 c' a3 h
          refine ⟨by simp [a1, b1], ?_, b3⟩
          simp only [List.map_cons, List.sum_cons]; omega
    rw [vis_eq, bad_eq] at h
    split at h
    · cases h
    · rename_i hb
      simp only [Bool.or_eq_true, decide_eq_true_eq, not_or] at hb
      obtain ⟨⟨hb1, hb2⟩, hb3⟩ := hb
      have hdeep : 6 - (d + 1) + 1 = 6 - d := by omega
      rw [hdeep] at h
      obtain ⟨a1, a2, a3⟩ := hL e.kids (c + 1) c' (by omega) h
      refine ⟨?_, ?_, a3⟩
      · rw [form_eq, a1]
        simp only [Bool.and_true, Bool.not_eq_true', Bool.or_eq_false_iff]
        simp only [Bool.not_eq_true] at hb3
        exact ⟨⟨hb3.1.1, hb3.1.2⟩, hb3.2⟩
      · simp only [manyD]; omega
theorem vis_complete (d : Nat) : d ≤ 6 → ∀ (e : Ex) (c : Nat), formD d e = true → c + manyD d e ≤ 14 → vis e (6 - d) c = some (c + manyD d e) := by
  induction d with
  | zero => intro _ e c h; cases h
  | succ d ih =>
    intro hd e c hf hm
    have hL : ∀ (l : List Ex) (c : Nat), l.all (formD d) = true → c + (l.map (manyD d)).sum ≤ 14 → visL l (6 - d) c = some (c + (l.map (manyD d)).sum) := by
      intro l
      induction l with
      | nil => intro c _ _; simp [visL]
      | cons x l ihl =>
        intro c hl hs
        simp only [List.all_cons, Bool.and_eq_true] at hl
        simp only [List.map_cons, List.sum_cons] at hs ⊢
        simp only [visL, ih (by omega) x c hl.1 (by omega)]
        rw [ihl _ hl.2 (by omega)]
        congr 1; omega
    rw [form_eq] at hf
    simp only [Bool.and_eq_true, Bool.not_eq_true'] at hf
    simp only [manyD] at hm ⊢
    rw [vis_eq, bad_eq, hf.1]
    have h1 : decide (14 ≤ c) = false := by simp; omega
    have h2 : decide (6 ≤ 6 - (d + 1)) = false := by simp; omega
    rw [h1, h2]
    have hdeep : 6 - (d + 1) + 1 = 6 - d := by omega
    simp only [Bool.or_self, Bool.false_eq_true, if_false, hdeep]
    rw [hL e.kids (c + 1) hf.2 (by omega)]
    congr 1; omega
theorem vis_ok (e : Ex) : (vis e 0 0).isSome = e.ok := by
  rw [Bool.eq_iff_iff, Ex.ok, Bool.and_eq_true, decide_eq_true_eq]
  constructor
  · intro h
    obtain ⟨c', hc⟩ := Option.isSome_iff_exists.1 h
    obtain ⟨a1, a2, a3⟩ := vis_sound 6 (by omega) e 0 c' hc
    exact ⟨a1, by omega⟩
  · rintro ⟨h1, h2⟩
    have := vis_complete 6 (by omega) e 0 h1 (by omega)
    simp at this
    rw [this]; rfl
end Go.Proofs.YtnmfmeehmieifaaGreatDoor
namespace Go.Proofs.YtnmfmeehmieifaaGreatDoor
open Go Sg
set_option linter.unusedSectionVars false
variable [Glob]
set_option maxRecDepth 100000
set_option linter.unusedSimpArgs false
set_option linter.unusedVariables false
set_option maxHeartbeats 4000000
def clr (b : Bool) (f : List Bool) (l : List Int) : List Bool := l.foldl (fun f x => f.set x.toNat b) f
@[go_sem] theorem clr_nil (b : Bool) (f : List Bool) : clr b f [] = f := rfl
def fstep (m : MM) (st : List Bool × List Int) (i : Nat) (t : Trn) : List Bool × List Int :=
  if !allOn st.1 t.fr || !(t.w.of m != 0) then st else (clr false st.1 t.fr, st.2 ++ [(i : Int)])
def fpre (m : MM) (c : Cht) (on : List Bool) (n : Nat) : List Bool × List Int := (List.range n).foldl (fun st i => fstep m st i (c.ts.getD i default)) (on, [])
@[go_sem] theorem fpre_zero (m : MM) (c : Cht) (on : List Bool) : fpre m c on 0 = (on, []) := rfl
structure Trn.Go (n : Nat) (t : Trn) : Prop where
  fr : ∀ i, i < t.fr.length → 0 ≤ t.fr.getD i 0 ∧ t.fr.getD i 0 < (n : Int)
  to' : ∀ i, i < t.to'.length → 0 ≤ t.to'.getD i 0 ∧ t.to'.getD i 0 < (n : Int)
  w : formD 6 t.w = true
end Go.Proofs.YtnmfmeehmieifaaGreatDoor
namespace Go.Proofs.YtnmfmeehmieifaaGreatDoor
open Go Sg
set_option linter.unusedSectionVars false
variable [Glob]
set_option maxRecDepth 100000
set_option linter.unusedSimpArgs false
set_option linter.unusedVariables false
set_option maxHeartbeats 4000000
attribute [go_sem] List.length_replicate
def spread (b : Bool) (pl : Trn → List Int) (c : Cht) (f : List Bool) (fs : List Int) : List Bool := fs.foldl (fun f i => clr b f (pl (c.ts.getD i.toNat default))) f
@[go_sem] theorem spread_nil (b : Bool) (pl : Trn → List Int) (c : Cht) (f : List Bool) : spread b pl c f [] = f := rfl
end Go.Proofs.YtnmfmeehmieifaaGreatDoor
namespace Go.Proofs.YtnmfmeehmieifaaGreatDoor
open Go Sg
set_option linter.unusedSectionVars false
variable [Glob]
set_option maxRecDepth 100000
set_option linter.unusedSimpArgs false
set_option linter.unusedVariables false
set_option maxHeartbeats 4000000
def kset (v : Bool) (kk : Int) (on : List Bool) (f : List Bool) (l : List GAct) : List Bool := l.foldl (fun f a => if a.kind == kk && on.getD a.step.toNat false then f.set a.to'.at'.toNat v else f) f
@[go_sem] theorem kset_nil (v : Bool) (kk : Int) (on : List Bool) (f : List Bool) : kset v kk on f [] = f := rfl
def GAct.In (n : Nat) (a : GAct) : Prop := 0 ≤ a.step ∧ a.step < (n : Int) ∧ 0 ≤ a.to'.at' ∧ a.to'.at' < 6
def litA (at' : Int) (on bg : List Bool) (a : GAct) : Bool := a.to'.at' == at' && ((a.kind == 1 && on.getD a.step.toNat false) || (a.kind == 4 && bg.getD a.step.toNat false))
def lit (c : Cht) (at' : Int) (on bg : List Bool) : Bool := c.as'.any (litA at' on bg)
end Go.Proofs.YtnmfmeehmieifaaGreatDoor
namespace Go.Proofs.YtnmfmeehmieifaaGreatDoor
open Go Sg
set_option linter.unusedSectionVars false
variable [Glob]
set_option maxRecDepth 100000
set_option linter.unusedSimpArgs false
set_option linter.unusedVariables false
set_option maxHeartbeats 4000000
end Go.Proofs.YtnmfmeehmieifaaGreatDoor
namespace Go.Proofs.YtnmfmeehmieifaaGreatDoor
open Go Sg
set_option linter.unusedSectionVars false
variable [Glob]
set_option maxRecDepth 100000
set_option linter.unusedSimpArgs false
set_option linter.unusedVariables false
set_option maxHeartbeats 4000000
def mstep (c : Cht) (kp on bg : List Bool) (m : MM) (a : GAct) : MM := m.put a.to' (numIs (kp.getD a.to'.at'.toNat false || lit c a.to'.at' on bg))
def mfold (c : Cht) (kp on bg : List Bool) (m : MM) (l : List GAct) : MM := l.foldl (mstep c kp on bg) m
@[go_sem] theorem mfold_nil (c : Cht) (kp on bg : List Bool) (m : MM) : mfold c kp on bg m [] = m := rfl
structure Cht.Go (c : Cht) (n : Nat) : Prop where
  steps : c.steps.toNat = n
  st : 0 ≤ c.steps
  n6 : n ≤ 6
  t : ∀ i, i < c.ts.length → (c.ts.getD i default).Go n
  a : ∀ i, i < c.as'.length → (c.as'.getD i default).In n
end Go.Proofs.YtnmfmeehmieifaaGreatDoor
namespace Go.Proofs.YtnmfmeehmieifaaGreatDoor
open Go Sg
set_option linter.unusedSectionVars false
variable [Glob]
set_option maxRecDepth 100000
set_option linter.unusedSimpArgs false
set_option linter.unusedVariables false
set_option maxHeartbeats 4000000
theorem idxA_ok (l : List GAct) (fid : Nat) (cap : List PV) (p : GAct → Bool) (lst : List (Nat × AObj)) (hl : l.length ≤ 1099511627776) (henter : ∀ args w, (callFunc fid args).run Tryz.prog w = .ok (.enter fid args) w)
    (hf : ∀ i, i < l.length → CallF Tryz.prog fid ([.agg (l.getD i default).cs] ++ cap) lst 0 (fun _ o => o = { rs := [.bool (p (l.getD i default))] })) :
    CallF Tryz.prog 111 [.rows 94 (rowsA l), .fn (.func fid) [] cap] lst 0 (fun _ o => o = { rs := [.int .i64 (idxOf p l)] }) := by
  refine callF_ofR Tryz.func111 rfl Tryz.ntmps111 (by simp) T_ ?_
  intro f0 B Q hhid hQ
  refine g_ [0,1] ?_
  refine g_ [0,1,7,8] ?_
  refine n_ ?_
  refine wpM_loopS (fun s n s' => ∃ (i0 M0 : Nat) , i0 + n = l.length ∧ s.M ≤ M0 ∧ ((l.take i0).all (fun x => !p x) = true) ∧ s' = { s with env := setE 8 (.int .i64 (i0 : Nat)) s.env, M := M0 }) (l.length) ?_ ?_
  ·
    refine .of' _ _ ⟨0, _, by omega, Nat.le_refl _, by simp, rfl⟩ ?_ ?_ ?_ <;> exact L_
  rintro n0 s' ⟨i0, M0, hi0, hM0, hv0, rfl⟩
  try dsimp only at hM0
  try refine S_ ?_
  refine g_ [0,1,7,8,9] ?_
  refine c_ (fun hc0 => ?_) fun hc0 => ?_
  ·
    have hl0 : i0 < l.length := by omega
    refine g_ [0,1,5,7,8] ?_
    refine n_ ?_
    refine wpM_regionK [0,1,5,7,8,16] rfl fun Q1 hQ1 => ?_
    refine S_ ?_
    refine call_cap (args := [.agg (l.getD i0 default).cs]) (hf i0 hl0) (hidden_f hhid (by simp -implicitDefEqProofs (disch := omega) only [go_sem, true_or])) henter rfl rfl T_ T_ ?_
    refine S_ ?_
    refine hQ1 _ _ (S_ ?_);clear hQ1 Q1
    refine c_ (fun hc1 => ?_) fun hc1 => ?_
    ·
      refine g_ [4] ?_
      refine e_ Tryz.results111 ?_
      first
      | exact True.intro
      | first | rw [idxOf_at hl0 hv0 hc1] | rw [idxOf_no (all_yes hi0 hc0 hv0)]
    refine g_ [0,1,7,8] ?_
    refine .of' _ _ ⟨n0 - 1, by omega, i0 + 1, _, by omega, M_, ?_, rfl⟩ L_ L_ L_
    rw [take_all _ _ _ hl0, hv0, hc1]; rfl
  refine g_ [4] ?_
  refine e_ Tryz.results111 ?_
  first
  | exact True.intro
  | first | rw [idxOf_at hl0 hv0 hc1] | rw [idxOf_no (all_yes hi0 hc0 hv0)]
theorem hasA_ok (l : List GAct) (fid : Nat) (cap : List PV) (p : GAct → Bool) (lst : List (Nat × AObj)) (hl : l.length ≤ 1099511627776) (henter : ∀ args w, (callFunc fid args).run Tryz.prog w = .ok (.enter fid args) w)
    (hf : ∀ i, i < l.length → CallF Tryz.prog fid ([.agg (l.getD i default).cs] ++ cap) lst 0 (fun _ o => o = { rs := [.bool (p (l.getD i default))] })) :
    CallF Tryz.prog 85 [.rows 94 (rowsA l), .fn (.func fid) [] cap] lst 0 (fun _ o => o = { rs := [.bool (l.any p)] }) := by
  refine callF_ofR Tryz.func85 rfl Tryz.ntmps85 (by simp) T_ ?_
  intro f0 B Q hhid hQ
  refine g_ [0,1] ?_
  refine n_ ?_
  refine wpM_regionK [4] rfl fun Q1 hQ1 => ?_
  refine S_ ?_
  refine call_r (idxA_ok l fid cap p lst hl henter hf) (hidden_f hhid (by simp -implicitDefEqProofs (disch := omega) only [go_sem, true_or])) Tryz.call111 rfl rfl rfl F_ ?_
  refine S_ ?_
  refine hQ1 _ _ (S_ ?_);clear hQ1 Q1
  refine e_ Tryz.results85 ?_
  first
  | exact True.intro
  | rw [idxOf_ge]
theorem stepsOk_ok (l : List Int) (b : Int) (hl : l.length ≤ 1099511627776) : PureF Tryz.prog 83 [.rows 3 (rowsI l), .int .i64 b] [.bool (plOk l b)] := by
  refine pureF_of Tryz.func83 rfl Tryz.ntmps83 (by simp) T_ ?_
  intro f0 B Q hQ
  refine g_ [0,1] ?_
  refine g_ [0,1,7,8,9] ?_
  refine n_ ?_
  refine wpM_loopS (fun s n s' => ∃ (i0 M0 : Nat) , i0 + n = l.length ∧ s.M ≤ M0 ∧ ((List.range i0).all (fun i => !plBad l b i) = true) ∧ s' = { s with env := setE 9 (.int .i64 (i0 : Nat)) s.env, M := M0 }) (l.length) ?_ ?_
  ·
    refine .of' _ _ ⟨0, _, by omega, Nat.le_refl _, by simp, rfl⟩ ?_ ?_ ?_ <;> exact L_
  rintro n0 s' ⟨i0, M0, hi0, hM0, hv0, rfl⟩
  try dsimp only at hM0
  try refine S_ ?_
  refine g_ [0,1,7,8,9,10] ?_
  refine c_ (fun hc0 => ?_) fun hc0 => ?_
  ·
    have hl0 : i0 < l.length := by omega
    refine g_ [0,1,5,6,7,8,9] ?_
    refine gD_ [0,1,7,8,9,33] ?_
    refine c_ (fun hc1 => ?_) fun hc1 => ?_
    ·
      refine g_ [4] ?_
      refine e_ Tryz.results83 ?_
      first
      | exact True.intro
      | first | (have h1 : plBad l b i0 = true := hc1
                 rw [plOk, range_no hl0 (by rw [h1]; rfl)]; rfl) | (have : i0 = l.length := by omega
                                                                    rw [plOk, ← this, hv0]; rfl)
    refine g_ [0,1,7,8,9] ?_
    refine .of' _ _ ⟨n0 - 1, by omega, i0 + 1, _, by omega, M_, ?_, rfl⟩ L_ L_ L_
    rw [range_all, hv0]
    have : plBad l b i0 = false := hc1
    rw [this]; rfl
  refine g_ [4] ?_
  refine e_ Tryz.results83 ?_
  first
  | exact True.intro
  | first | (have h1 : plBad l b i0 = true := hc1
             rw [plOk, range_no hl0 (by rw [h1]; rfl)]; rfl) | (have : i0 = l.length := by omega
                                                                rw [plOk, ← this, hv0]; rfl)
theorem cbad_ok (c : Cht) (a : GAct) (id : Nat) : CallF Tryz.prog 86 [.agg a.cs, .ptr id 0] [(id, .cells 48 c.cs)] 0 (fun _ o => o = { rs := [.bool (a.bad c.steps)] }) := by
  refine callF_of' Tryz.func86 rfl Tryz.ntmps86 (by simp) ?_
  intro f0 B ns Q hB hns hQ
  have hid : id < B := hB id (by simp [hasKey, lk])
  obtain rfl : ns = [] := List.eq_nil_of_length_eq_zero hns
  refine g_ [1,2] ?_
  refine n_ ?_
  refine wpM_regionK [3] rfl fun Q1 hQ1 => ?_
  refine SD_ ?_
  first | refine cg_ (fun hb => iaddrOk_ok a.to') Tryz.call87 ?_ | refine cpD_ (iaddrOk_ok a.to') Tryz.call87 ?_
  refine hQ1 _ _ (S_ ?_);clear hQ1 Q1
  refine wpM_ret ?_
  try refine S_ ?_
  refine hQ _ _ (ret0 [] rfl rfl rfl (by rw [Tryz.results86] <;> simp (maxSteps := 1000000) -implicitDefEqProofs (disch := omega) only [go_sem] <;> rfl) rfl ?_ ?_ ?_ ?_)
  all_goals simp -implicitDefEqProofs (disch := omega) only [go_sem, true_or, or_true]
def Cht.iok (c : Cht) : Bool := if decide (c.steps < 1) || decide (c.steps > 6) || decide ((c.ts.length : Int) > 6) || decide ((c.as'.length : Int) > 6) then false
  else c.ts.all (fun t => !(!plOk t.fr c.steps || !plOk t.to' c.steps || !(vis t.w 0 0).isSome)) && !(c.as'.any (fun a => a.bad c.steps))
theorem ichartOk_ok (c : Cht) (hc : c.Sm) : PureF Tryz.prog 48 [.agg c.cs] [.bool c.iok] := by
  have hts := hc.ts
  have has := hc.as'
  refine pureF_of Tryz.func48 rfl Tryz.ntmps48 (by simp) T_ ?_
  intro f0 B Q hQ
  refine g_ [1] ?_
  refine gD_ [1,24] ?_
  refine c_ (fun hc0 => ?_) fun hc0 => ?_
  ·
    refine g_ [2] ?_
    refine e_ Tryz.results48 ?_
    first
    | exact True.intro
    | unfold Cht.iok
      first
      | rw [if_pos hc0]
      | (rw [if_neg (by rw [hc0]; simp), all_no (p := fun t => !(!plOk t.fr c.steps || !plOk t.to' c.steps || !(vis t.w 0 0).isSome)) hl0 (by simp only [hc2]; rfl)]; rfl)
      | rw [if_neg (by rw [hc0]; simp), all_yes hi0 hc1 hv0, Bool.true_and]
  refine g_ [1,26,27,28] ?_
  refine n_ ?_
  refine wpM_loopS (fun s n s' => ∃ (i0 M0 : Nat) , i0 + n = c.ts.length ∧ s.M ≤ M0 ∧ ((c.ts.take i0).all (fun t => !(!plOk t.fr c.steps || !plOk t.to' c.steps || !(vis t.w 0 0).isSome)) = true) ∧ s' = { s with env := setE 28 (.int .i64 (i0 : Nat)) s.env, M := M0 }) (c.ts.length) ?_ ?_
  ·
    refine .of' _ _ ⟨0, _, by omega, Nat.le_refl _, by simp, rfl⟩ ?_ ?_ ?_ <;> exact L_
  rintro n0 s' ⟨i0, M0, hi0, hM0, hv0, rfl⟩
  try dsimp only at hM0
  try refine S_ ?_
  refine g_ [1,26,27,28,29] ?_
  refine c_ (fun hc1 => ?_) fun hc1 => ?_
  ·
    have hl0 : i0 < c.ts.length := by omega
    have ht := hc.t i0 hl0
    refine g_ [1,4,26,27,28] ?_
    refine n_ ?_
    refine wpM_regionK [1,26,27,28,51] rfl fun Q1 hQ1 => ?_
    refine SD_ ?_
    refine cpD_ (stepsOk_ok (c.ts.getD i0 default).fr c.steps ht.fr) Tryz.call83 ?_
    first | refine cg_ (fun hb => stepsOk_ok (c.ts.getD i0 default).to' c.steps ht.to') Tryz.call83 ?_ | refine cpD_ (stepsOk_ok (c.ts.getD i0 default).to' c.steps ht.to') Tryz.call83 ?_
    first | refine cg_ (fun hb => iexprOk_ok (c.ts.getD i0 default).w ht.w) Tryz.call84 ?_ | refine cpD_ (iexprOk_ok (c.ts.getD i0 default).w ht.w) Tryz.call84 ?_
    refine hQ1 _ _ (S_ ?_);clear hQ1 Q1
    refine c_ (fun hc2 => ?_) fun hc2 => ?_
    ·
      refine g_ [2] ?_
      refine e_ Tryz.results48 ?_
      first
      | exact True.intro
      | unfold Cht.iok
        first
        | rw [if_pos hc0]
        | (rw [if_neg (by rw [hc0]; simp), all_no (p := fun t => !(!plOk t.fr c.steps || !plOk t.to' c.steps || !(vis t.w 0 0).isSome)) hl0 (by simp only [hc2]; rfl)]; rfl)
        | rw [if_neg (by rw [hc0]; simp), all_yes hi0 hc1 hv0, Bool.true_and]
    refine g_ [1,26,27,28] ?_
    refine .of' _ _ ⟨n0 - 1, by omega, i0 + 1, _, by omega, M_, ?_, rfl⟩ L_ L_ L_
    rw [take_all _ _ _ hl0, hv0]
    simp only [hc2]; rfl
  refine n_ ?_
  refine wpM_regionK [2] rfl fun Q1 hQ1 => ?_
  refine S_ ?_
  refine call_rs (hasA_ok c.as' 86 [.ptr B 0] (fun a => a.bad c.steps) [(B, .cells 48 c.cs)] has Tryz.call86 (fun i hi => cbad_ok c _ B)) T_ Tryz.call85 rfl rfl rfl F_ ?_
  refine S_ ?_
  refine hQ1 _ _ (S_ ?_);clear hQ1 Q1
  refine e_ Tryz.results48 ?_
  first
  | exact True.intro
  | unfold Cht.iok
    first
    | rw [if_pos hc0]
    | (rw [if_neg (by rw [hc0]; simp), all_no (p := fun t => !(!plOk t.fr c.steps || !plOk t.to' c.steps || !(vis t.w 0 0).isSome)) hl0 (by simp only [hc2]; rfl)]; rfl)
    | rw [if_neg (by rw [hc0]; simp), all_yes hi0 hc1 hv0, Bool.true_and]
end Go.Proofs.YtnmfmeehmieifaaGreatDoor
namespace Go.Proofs.YtnmfmeehmieifaaGreatDoor
open Go Sg
set_option maxRecDepth 100000
set_option linter.unusedSimpArgs false
set_option linter.unusedVariables false
set_option linter.unusedSectionVars false
set_option maxHeartbeats 4000000
variable [Glob]
theorem Ex.ext' {a b : Ex} (h1 : a.kind = b.kind) (h2 : a.n = b.n) (h3 : a.a = b.a) (h4 : a.kids = b.kids) : a = b := by
  cases a; cases b
  simp only [Ex.kind, Ex.n, Ex.a, Ex.kids] at h1 h2 h3 h4
  subst h1; subst h2; subst h3; subst h4; rfl
open Classical in
noncomputable def same {α : Type} (a b : α) : Bool := decide (a = b)
theorem same_iff {α : Type} {a b : α} : same a b = true ↔ a = b := by simp [same]
theorem same_no {α : Type} {a b : α} (h : a ≠ b) : same a b = false := by simp [same, h]
theorem same_self {α : Type} (a : α) : same a a = true := by simp [same]
theorem many_sz (d : Nat) : ∀ e : Ex, formD d e = true → manyD d e = e.sz := by
  induction d with
  | zero => intro e h; cases h
  | succ d ih =>
    intro e h
    have hk : ∀ x ∈ e.kids, formD d x = true := by
      intro x hx
      obtain ⟨i, hi, rfl⟩ := List.getElem_of_mem hx
      have := (form_inv h).2.2 i hi
      rw [List.getD_eq_getElem?_getD, List.getElem?_eq_getElem hi] at this
      exact this
    rw [Ex.sz_eq, manyD]
    have : ∀ l : List Ex, (∀ x ∈ l, formD d x = true) → (l.map (manyD d)).sum = Ex.szL l := by
      intro l
      induction l with
      | nil => intro _; rfl
      | cons x l ihl =>
        intro hl
        simp only [List.map_cons, List.sum_cons, Ex.szL]
        rw [ih x (hl x (by simp)), ihl fun y hy => hl y (by simp [hy])]
    rw [this _ hk]
theorem range_ext {α : Type} [Inhabited α] {a b : List α} (h : a.length = b.length) (p : α → α → Bool) (hp : ∀ i, i < a.length → p (a.getD i default) (b.getD i default) = same (a.getD i default) (b.getD i default)) : (List.range a.length).all (fun i => p (a.getD i default) (b.getD i default)) = same a b := by
  by_cases hab : a = b
  · subst hab
    rw [same_self, List.all_eq_true]
    intro i hi
    rw [hp i (List.mem_range.1 hi), same_self]
  · rw [same_no hab, Bool.eq_false_iff]
    intro hall
    rw [List.all_eq_true] at hall
    refine hab (List.ext_getElem h fun i h1 h2 => ?_)
    have := hall i (List.mem_range.2 h1)
    rw [hp i h1, same_iff] at this
    simpa [List.getD, h1, h2] using this
theorem same_ex (a b : Ex) : (a.kind == b.kind && a.n == b.n && (a.a.kind == b.a.kind && a.a.at' == b.a.at') && (a.kids.length == b.kids.length && (List.range a.kids.length).all fun i => same (a.kids.getD i default) (b.kids.getD i default))) = same a b := by
  by_cases hl : a.kids.length = b.kids.length
  · rw [range_ext hl same fun _ _ => rfl, Bool.eq_iff_iff]
    simp only [Bool.and_eq_true, beq_iff_eq, same_iff]
    constructor
    · rintro ⟨⟨⟨h1, h2⟩, h3, h4⟩, _, h5⟩
      refine Ex.ext' h1 h2 ?_ h5
      cases hx : a.a; cases hy : b.a
      rw [hx, hy] at h3 h4
      simp only at h3 h4
      rw [h3, h4]
    · rintro rfl
      simp
  · rw [same_no (fun h => hl (by rw [h]))]
    have : (a.kids.length == b.kids.length) = false := by simpa using hl
    rw [this]; simp
theorem form_len {d : Nat} {e : Ex} (h : formD (d + 1) e = true) : (e.kids.length = 0 ∧ (e.kind = 1 ∨ e.kind = 2)) ∨ (e.kids.length = 1 ∧ e.kind = 10) ∨ (e.kids.length = 2 ∧ 3 ≤ e.kind ∧ e.kind ≤ 9) := by
  have := (form_inv h).1
  unfold kidsN at this
  split at this
  · rename_i h1; simp at h1; left; exact ⟨by omega, h1⟩
  · split at this
    · rename_i h1 h2; simp at h2; right; left; exact ⟨by omega, h2⟩
    · split at this
      · rename_i h1 h2 h3; simp at h3; right; right; exact ⟨by omega, h3⟩
      · omega
end Go.Proofs.YtnmfmeehmieifaaGreatDoor
namespace Go.Proofs.YtnmfmeehmieifaaGreatDoor
open Go Sg
set_option linter.unusedSectionVars false
variable [Glob]
set_option maxRecDepth 100000
theorem cht_iok (c : Cht) : c.iok = c.ok := by
  unfold Cht.iok Cht.ok
  have : (fun t : Trn => !(!plOk t.fr c.steps || !plOk t.to' c.steps || !(vis t.w 0 0).isSome)) = fun t => !t.bad c.steps := by
    funext t; rw [vis_ok]; rfl
  rw [this]
  split
  · rfl
  · congr 1
    rw [List.all_eq_not_any_not]; simp
end Go.Proofs.YtnmfmeehmieifaaGreatDoor
namespace Go.Proofs.YtnmfmeehmieifaaGreatDoor
open Go Sg
set_option maxRecDepth 100000
set_option linter.unusedSimpArgs false
set_option linter.unusedVariables false
set_option linter.unusedSectionVars false
set_option maxHeartbeats 4000000
variable [TabK]
theorem join_le {K : Nat} (sep : List UInt8) (xs : List (List UInt8)) (h : ∀ x ∈ xs, x.length ≤ K) : (Lib.join xs sep).length ≤ xs.length * (K + sep.length) := by
  have key : ∀ r : List (List UInt8), (∀ x ∈ r, x.length ≤ K) → (Lib.joinTail sep r).length ≤ r.length * (K + sep.length) := by
    intro r
    induction r with
    | nil => intro _; simp [Lib.joinTail]
    | cons x r ih =>
      intro h
      have h1 := h x (by simp)
      have h2 := ih fun y hy => h y (by simp [hy])
      rw [tail_cons, List.length_append, List.length_append, List.length_cons, Nat.succ_mul]
      omega
  cases xs with
  | nil => simp [Lib.join_nil]
  | cons x r =>
    have h1 := h x (by simp)
    have h2 := key r fun y hy => h y (by simp [hy])
    rw [Lib.join_cons, List.length_append, List.length_cons, Nat.succ_mul]
    omega
theorem bt_len (s : ByteArray) : (bt s).length = s.size := by
  show s.data.toList.length = s.data.size
  exact Array.length_toList
theorem bt_mk (l : List UInt8) : bt ⟨l.toArray⟩ = l := rfl
@[go_sem] theorem strC_nil : strC [] = [] := rfl
theorem mk_size (l : List UInt8) : (⟨l.toArray⟩ : ByteArray).size = l.length := by simp [ByteArray.size]
def plS (l : List Int) : ByteArray := ⟨(Lib.join ((l.map fmtS).map bt) [44]).toArray⟩
theorem bt_pl (l : List Int) : bt (plS l) = plB l := by
  rw [plS, bt_mk, plB, List.map_map]
  rfl
structure PlS (l : List Int) : Prop where
  len : l.length ≤ 6
  rng : ∀ i, i < l.length → 0 ≤ l.getD i 0 ∧ l.getD i 0 ≤ 1000
theorem pl_le {l : List Int} (h : PlS l) : (Lib.join ((l.map fmtS).map bt) [44]).length ≤ 150 := by
  have h1 : ∀ x ∈ (l.map fmtS).map bt, x.length ≤ 24 := by
    intro x hx
    simp only [List.mem_map] at hx
    obtain ⟨s, ⟨n, hn, rfl⟩, rfl⟩ := hx
    obtain ⟨i, hi, rfl⟩ := List.getElem_of_mem hn
    have := h.rng i hi
    simp only [List.getD_eq_getElem?_getD, List.getElem?_eq_getElem hi, Option.getD_some] at this
    rw [bt_len]
    exact fmtS_size _
  have := join_le [44] _ h1
  have h2 := h.len
  simp only [List.length_map, List.length_cons, List.length_nil] at this
  omega
theorem pl_size {l : List Int} (h : PlS l) : (plS l).size ≤ 150 := by rw [plS, mk_size]; exact pl_le h
theorem map_take1 {α β : Type} [Inhabited α] (f : α → β) (l : List α) (i : Nat) (h : i < l.length) : (l.take i).map f ++ [f (l.getD i default)] = (l.take (i + 1)).map f := by
  rw [List.take_succ_eq_append_getElem h, List.map_append]
  simp [List.getD, h]
theorem placesText_ok (l : List Int) (h : PlS l) : PureF Tryz.prog 50 [.rows 3 (rowsI l)] [.str (plS l)] := by
  have hln := h.len
  refine pureF_of Tryz.func50 rfl Tryz.ntmps50 (by simp) T_ ?_
  intro f0 B Q hQ
  refine g_ [0] ?_
  refine g_ [0,3] ?_
  refine wpM_nil 9 [(0, .rows 3 (rowsI l)), (3, .sl 9 B 0 0)] [] T_ T_ T_ ?_
  refine g_ [3,6,7,8] ?_
  refine n_ ?_
  refine wpM_loopS (fun q n s' => ∃ (i M Y : Nat) (L : List ByteArray), i + n = l.length ∧ B ≤ Y ∧ Y < M ∧ L = (l.take i).map fmtS ∧ s' = { q with env := setE 8 (.int .i64 (i : Nat)) (setE 3 (.sl 9 Y 0 L.length) q.env), l := [(Y, .cells 9 (strC L))], M := M }) (l.length) ?_ ?_
  ·
    refine .of' _ _ ⟨0, _, B, [], by omega, Nat.le_refl _, Nat.lt_succ_self _, rfl, rfl⟩ ?_ ?_ ?_
    all_goals exact L_
  rintro n s' ⟨i, M, Y, L, hi, hBY, hYM, hL, rfl⟩
  try refine S_ ?_
  refine g_ [3,6,7,8,9] ?_
  refine c_ (fun hc0 => ?_) fun hc0 => ?_
  ·
    have hi2 : i < l.length := by omega
    have hr := h.rng i hi2
    have hLl : L.length ≤ 6 := by rw [hL, List.length_map, List.length_take]; omega
    refine g_ [3,5,6,7,8] ?_
    refine wpM_regionK [3,6,7,8] rfl fun Q1 hQ1 => ?_
    refine S_ ?_
    refine cp_ (itoa_ok (l.getD i 0) (by omega) (by omega)) Tryz.call49 ?_
    refine hQ1 _ _ (S_ ?_);clear hQ1 Q1
    refine g_ [3,6,7,8] ?_
    have e1 : L ++ [fmtS (l.getD i 0)] = (l.take (i + 1)).map fmtS := by rw [hL]; exact map_take1 fmtS l i hi2
    rw [show L.length + 1 = (L ++ [fmtS (l.getD i 0)]).length from by simp]
    refine .of' _ _ ⟨n - 1, by omega, i + 1, _, M + 1, L ++ [fmtS (l.getD i 0)], by omega, M_, M_, e1, rfl⟩ L_ L_ L_
  refine n_ ?_
  have hiN : i = l.length := by omega
  have hL2 : L = l.map fmtS := by rw [hL, hiN, List.take_of_length_le (Nat.le_refl _)]
  have hple := pl_le h
  refine wpM_frz [Y] [(9, Y, 0, L.length, strR L)] (by intro q hq; simp at hq; subst hq; simp -implicitDefEqProofs (disch := omega) only [go_sem]) (by intro q hq; simp only [List.mem_cons, List.not_mem_nil, or_false] at hq; subst hq; exact ⟨by simp, rowsOf_str (T := 9) T_ rfl⟩) ?_
  refine S_ ?_
  rw [hL2]
  refine wpM_regionK [2] rfl fun Q1 hQ1 => ?_
  refine S_ ?_
  refine cp_ (join_ok (l.map fmtS) ⟨#[44]⟩ (by simp; omega) (by show (Lib.join ((l.map fmtS).map bt) [44]).length ≤ _; omega)) Tryz.call54 ?_
  refine hQ1 _ _ (S_ ?_);clear hQ1 Q1
  refine e_ Tryz.results50 ?_
  first
  | exact True.intro
  | rfl
theorem form_cutn {d : Nat} {e : Ex} (h : formD (d + 1) e = true) (h1 : e.kind = 1) : cut e.n = e.n := by
  rw [formD] at h
  split at h
  · cases h
  · split at h
    · cases h
    · rename_i h2
      simp [h1] at h2
      exact h2
theorem word_size {d : Nat} {e : Ex} (h : formD (d + 1) e = true) : (wordS e).size ≤ 30 := by
  have hf := form_inv h
  obtain ⟨hk, hn, ha, ho⟩ := form_kinds h
  have hc : e.kind = 1 → -1000000 ≤ e.n ∧ e.n ≤ 1000000 := fun h1 => by
    have := form_cutn h h1
    unfold cut at this; omega
  unfold wordS
  split
  · rename_i h1
    have := hc (by simpa using h1)
    have := fmtS_size e.n
    omega
  · split
    · rename_i h2
      have h3 := ho (by simpa using h2)
      simp only [AD.ok, Bool.and_eq_true, decide_eq_true_eq] at h3
      have h4 := letS_size e.a.kind (by omega)
      have h5 := fmtS_size e.a.at'
      rw [adrS, ByteArray.size_append]
      omega
    · split
      · rename_i h3
        simp only [isTwo, Bool.and_eq_true, decide_eq_true_eq] at h3
        have : e.kind = 3 ∨ e.kind = 4 ∨ e.kind = 5 ∨ e.kind = 6 ∨ e.kind = 7 ∨ e.kind = 8 ∨ e.kind = 9 := by omega
        rcases this with h1 | h1 | h1 | h1 | h1 | h1 | h1 <;> rw [h1] <;> decide
      · decide
theorem ws_size (d : Nat) : ∀ e : Ex, formD d e = true → ∀ w ∈ wsE e, w.size ≤ 30 := by
  induction d with
  | zero => intro e h; cases h
  | succ d ih =>
    intro e h w hw
    have hi := (form_inv h).2.2
    rw [wsE_eq, List.mem_cons] at hw
    rcases hw with rfl | hw
    · exact word_size h
    · have key : ∀ l : List Ex, (∀ i, i < l.length → formD d (l.getD i default) = true) → ∀ w ∈ wsL l, w.size ≤ 30 := by
        intro l
        induction l with
        | nil => intro _ w hw; simp [wsL] at hw
        | cons a l ihl =>
          intro hl w hw
          simp only [wsL, List.mem_append] at hw
          rcases hw with hw | hw
          · exact ih a (hl 0 (by simp)) w hw
          · exact ihl (fun i hi => hl (i + 1) (by simpa using hi)) w hw
      exact key _ hi w hw
def exS (e : Ex) : ByteArray := ⟨(Lib.join ((wsE e).map bt) [32]).toArray⟩
theorem ok_sz {e : Ex} (h : e.ok = true) : formD 6 e = true ∧ e.sz ≤ 14 := by
  simp only [Ex.ok, Bool.and_eq_true, decide_eq_true_eq] at h
  have := many_sz 6 e h.1
  exact ⟨h.1, by omega⟩
theorem ex_le {e : Ex} (h : e.ok = true) : (Lib.join ((wsE e).map bt) [32]).length ≤ 500 := by
  obtain ⟨h1, h2⟩ := ok_sz h
  have h3 := join_le (K := 30) [32] ((wsE e).map bt) (fun x hx => by
    obtain ⟨w, hw, rfl⟩ := List.mem_map.1 hx
    rw [bt_len]; exact ws_size 6 e h1 w hw)
  rw [List.length_map, wsE_len] at h3
  simp only [List.length_cons, List.length_nil] at h3
  omega
theorem ex_size {e : Ex} (h : e.ok = true) : (exS e).size ≤ 500 := by rw [exS, mk_size]; exact ex_le h
theorem exprText_ok (e : Ex) (h : e.ok = true) : PureF Tryz.prog 51 [.agg e.cs] [.str (exS e)] := by
  obtain ⟨h1, h2⟩ := ok_sz h
  have hle := ex_le h
  have hws := wsE_len e
  have hv : (vis e 0 0).isSome = true := by rw [vis_ok]; exact h
  refine pureF_of Tryz.func51 rfl Tryz.ntmps51 (by simp) T_ ?_
  intro f0 B Q hQ
  refine g_ [1] ?_
  refine n_ ?_
  refine wpM_regionK [1,5] rfl fun Q1 hQ1 => ?_
  refine S_ ?_
  refine call_p (iexprOk_ok e (by omega)) Tryz.call84 rfl rfl rfl (by first | rfl | (simp -implicitDefEqProofs (disch := omega) only [go_sem] <;> rfl)) ?_
  simp -implicitDefEqProofs (disch := omega) only [go_sem, hv]
  refine hQ1 _ _ (S_ ?_);clear hQ1 Q1
  refine c1_ ?_
  refine n_ ?_
  refine wpM_regionK [2] rfl fun Q1 hQ1 => ?_
  refine S_ ?_
  refine cp_ (wordsOf_ok e (by omega) hv) Tryz.call89 ?_
  refine cp_ (join_ok (wsE e) ⟨#[32]⟩ (by omega) (by show (Lib.join ((wsE e).map bt) [32]).length ≤ _; omega)) Tryz.call54 ?_
  refine hQ1 _ _ (S_ ?_);clear hQ1 Q1
  refine e_ Tryz.results51 ?_
  first
  | exact True.intro
  | rfl
end Go.Proofs.YtnmfmeehmieifaaGreatDoor
namespace Go.Proofs.YtnmfmeehmieifaaGreatDoor
open Go Sg
set_option maxRecDepth 100000
set_option linter.unusedSimpArgs false
set_option linter.unusedVariables false
set_option linter.unusedSectionVars false
set_option maxHeartbeats 4000000
variable [TabK]
theorem pl_asc {l : List Int} {b : Int} (h : plOk l b = true) : ∀ i, i < l.length → (i : Int) ≤ l.getD i 0 ∧ l.getD i 0 < b := by
  simp only [plOk, Bool.and_eq_true, List.all_eq_true, List.mem_range, Bool.not_eq_true'] at h
  have hb := h.1
  have hx : ∀ i, i < l.length → 0 ≤ l.getD i 0 ∧ l.getD i 0 < b ∧ (0 < i → l.getD (i - 1) 0 < l.getD i 0) := by
    intro i hi
    have := hb i hi
    simp only [plBad, Bool.or_eq_false_iff, decide_eq_false_iff_not, Bool.and_eq_false_iff] at this
    refine ⟨by omega, by omega, fun h0 => ?_⟩
    have e : ((i : Int) - 1).toNat = i - 1 := by omega
    rw [e] at this
    omega
  intro i
  induction i with
  | zero => intro hi; have := hx 0 hi; exact ⟨by omega, by omega⟩
  | succ i ih =>
    intro hi
    have h1 := ih (by omega)
    have h2 := hx (i + 1) hi
    have h3 := h2.2.2 (by omega)
    rw [Nat.add_sub_cancel] at h3
    exact ⟨by omega, by omega⟩
theorem pl_S {l : List Int} {b : Int} (h : plOk l b = true) (hb : b ≤ 6) : PlS l := by
  have h1 := pl_asc h
  refine ⟨?_, fun i hi => ?_⟩
  · by_cases h0 : l.length ≤ 6
    · exact h0
    · have := h1 6 (by omega); omega
  · have := h1 i hi; omega
def stS (n : Int) : ByteArray := ⟨#[115, 116, 101, 112, 115, 32]⟩ ++ fmtS n
def trS (t : Trn) : ByteArray := plS t.fr ++ ⟨#[32, 62, 32]⟩ ++ plS t.to' ++ ⟨#[32, 119, 104, 101, 110, 32]⟩ ++ exS t.w
def actL : List ByteArray := [⟨#[]⟩, ⟨#[119, 105, 116, 104]⟩, ⟨#[115, 101, 116]⟩, ⟨#[111, 102, 102]⟩, ⟨#[98, 101, 103, 105, 110]⟩]
def acS (a : GAct) : ByteArray := actL.getD a.kind.toNat default ++ ⟨#[32]⟩ ++ fmtS a.step ++ ⟨#[32]⟩ ++ adrS a.to'
def itemsS (c : Cht) : List ByteArray := stS c.steps :: (c.ts.map trS ++ c.as'.map acS)
def chS (c : Cht) : ByteArray := ⟨(Lib.join ((itemsS c).map bt) [32, 59, 32]).toArray⟩
theorem actNames_ok : PureF Tryz.prog 52 [] [.rows 9 (strR actL)] := by
  refine pureF_of Tryz.func52 rfl Tryz.ntmps52 (by simp) T_ ?_
  intro f0 B Q hQ
  have hr : rep 5 [PV.str ⟨#[]⟩] = [.str ⟨#[]⟩, .str ⟨#[]⟩, .str ⟨#[]⟩, .str ⟨#[]⟩, .str ⟨#[]⟩] := rfl
  refine g_ [] ?_
  refine n_ ?_
  refine wpM_regionK [0] rfl fun Q1 hQ1 => ?_
  simp -implicitDefEqProofs (disch := omega) only [go_sem, hr, splice, List.take_succ_cons, List.take_zero, List.drop_succ_cons, List.drop_zero, List.cons_append, List.nil_append, List.length_cons, List.length_nil]
  refine hQ1 _ _ (S_ ?_);clear hQ1 Q1
  rw [show [PV.str ⟨#[]⟩, .str ⟨#[119, 105, 116, 104]⟩, .str ⟨#[115, 101, 116]⟩, .str ⟨#[111, 102, 102]⟩, .str ⟨#[98, 101, 103, 105, 110]⟩] = strC actL from rfl]
  refine wpM_frz [B] [(9, B, 0, 5, strR actL)] (by intro q hq; simp at hq; subst hq; simp -implicitDefEqProofs (disch := omega) only [go_sem]) (by intro q hq; simp only [List.mem_cons, List.not_mem_nil, or_false] at hq; subst hq; exact ⟨by simp, rowsOf_str (T := 9) T_ rfl⟩) ?_
  refine S_ ?_
  exact e_ Tryz.results52 True.intro
structure TrS (t : Trn) : Prop where
  fr : PlS t.fr
  to' : PlS t.to'
  w : t.w.ok = true
structure AcS (a : GAct) : Prop where
  k : 1 ≤ a.kind ∧ a.kind ≤ 4
  st : 0 ≤ a.step ∧ a.step ≤ 6
  to' : a.to'.ok = true
theorem act_size (k : Int) (h : 1 ≤ k ∧ k ≤ 4) : (actL.getD k.toNat default).size ≤ 5 := by
  have : k = 1 ∨ k = 2 ∨ k = 3 ∨ k = 4 := by omega
  rcases this with rfl | rfl | rfl | rfl <;> decide
theorem adr_size {a : AD} (h : a.ok = true) : (adrS a).size ≤ 30 := by
  simp only [AD.ok, Bool.and_eq_true, decide_eq_true_eq] at h
  have h4 := letS_size a.kind (by omega)
  have h5 := fmtS_size a.at'
  rw [adrS, ByteArray.size_append]; omega
theorem tr_size {t : Trn} (h : TrS t) : (trS t).size ≤ 1000 := by
  have h1 := pl_size h.fr
  have h2 := pl_size h.to'
  have h3 := ex_size h.w
  have e1 : (⟨#[32, 62, 32]⟩ : ByteArray).size = 3 := rfl
  have e2 : (⟨#[32, 119, 104, 101, 110, 32]⟩ : ByteArray).size = 6 := rfl
  simp only [trS, ByteArray.size_append, e1, e2]; omega
theorem ac_size {a : GAct} (h : AcS a) : (acS a).size ≤ 1000 := by
  have h1 := act_size a.kind h.k
  have hs := h.st
  have h2 := fmtS_size a.step
  have h3 := adr_size h.to'
  have e1 : (⟨#[32]⟩ : ByteArray).size = 1 := rfl
  simp only [acS, ByteArray.size_append, e1]; omega
theorem st_size {n : Int} (h : 1 ≤ n ∧ n ≤ 6) : (stS n).size ≤ 1000 := by
  have h2 := fmtS_size n
  have e1 : (⟨#[115, 116, 101, 112, 115, 32]⟩ : ByteArray).size = 6 := rfl
  simp only [stS, ByteArray.size_append, e1]; omega
theorem cht_TrS {c : Cht} (h : c.ok = true) : ∀ t ∈ c.ts, TrS t := fun t ht => by
  obtain ⟨h0, _, _, h1, _⟩ := cht_inv h
  obtain ⟨a, b, d⟩ := h1 t ht
  exact ⟨pl_S a h0.2, pl_S b h0.2, d⟩
theorem cht_AcS {c : Cht} (h : c.ok = true) : ∀ a ∈ c.as', AcS a := fun a ha => by
  obtain ⟨h0, _, _, _, h1⟩ := cht_inv h
  obtain ⟨k1, k2, k3, k4, k5⟩ := h1 a ha
  exact ⟨⟨k1, k2⟩, ⟨k3, by omega⟩, k5⟩
theorem items_le {c : Cht} (h : c.ok = true) : (itemsS c).length ≤ 13 ∧ (Lib.join ((itemsS c).map bt) [32, 59, 32]).length ≤ 20000 := by
  obtain ⟨h0, h1, h2, _, _⟩ := cht_inv h
  have hl : (itemsS c).length ≤ 13 := by simp [itemsS]; omega
  refine ⟨hl, ?_⟩
  have h3 := join_le (K := 1000) [32, 59, 32] ((itemsS c).map bt) (fun x hx => by
    obtain ⟨w, hw, rfl⟩ := List.mem_map.1 hx
    rw [bt_len]
    simp only [itemsS, List.mem_cons, List.mem_append, List.mem_map] at hw
    rcases hw with rfl | ⟨t, ht, rfl⟩ | ⟨a, ha, rfl⟩
    · exact st_size h0
    · exact tr_size (cht_TrS h t ht)
    · exact ac_size (cht_AcS h a ha))
  rw [List.length_map] at h3
  simp only [List.length_cons, List.length_nil] at h3
  have : (itemsS c).length * (1000 + (0 + 1 + 1 + 1)) ≤ 13 * (1000 + (0 + 1 + 1 + 1)) := Nat.mul_le_mul_right _ hl
  omega
theorem get_mem {α : Type} [Inhabited α] {l : List α} {i : Nat} (h : i < l.length) : l.getD i default ∈ l := by
  simp only [List.getD_eq_getElem?_getD, List.getElem?_eq_getElem h, Option.getD_some]
  exact List.getElem_mem h
theorem chartText_ok (c : Cht) (hc : c.Sm) (hok : c.ok = true) : PureF Tryz.prog 19 [.agg c.cs] [.str (chS c)] := by
  obtain ⟨hst, htl, hal, _, _⟩ := cht_inv hok
  obtain ⟨hil, hjl⟩ := items_le hok
  have e6 : (⟨#[115, 116, 101, 112, 115, 32]⟩ : ByteArray).size = 6 := rfl
  have e3 : (⟨#[32, 62, 32]⟩ : ByteArray).size = 3 := rfl
  have e5 : (⟨#[32, 119, 104, 101, 110, 32]⟩ : ByteArray).size = 6 := rfl
  have e1 : (⟨#[32]⟩ : ByteArray).size = 1 := rfl
  have hfs := fmtS_size c.steps
  refine pureF_of Tryz.func19 rfl Tryz.ntmps19 (by simp) T_ ?_
  intro f0 B Q hQ
  refine g_ [1] ?_
  refine n_ ?_
  refine wpM_regionK [1,10] rfl fun Q1 hQ1 => ?_
  refine S_ ?_
  refine call_p (ichartOk_ok c hc) Tryz.call48 rfl rfl rfl (by first | rfl | (simp -implicitDefEqProofs (disch := omega) only [go_sem] <;> rfl)) ?_
  simp -implicitDefEqProofs (disch := omega) only [go_sem, cht_iok, hok]
  refine hQ1 _ _ (S_ ?_);clear hQ1 Q1
  refine c1_ ?_
  refine n_ ?_
  refine wpM_regionK [1,3] rfl fun Q1 hQ1 => ?_
  simp -implicitDefEqProofs (disch := omega) only [go_sem, bin_adds]
  refine call_p (itoa_ok c.steps (by omega) (by omega)) Tryz.call49 rfl rfl rfl (by first | rfl | (simp -implicitDefEqProofs (disch := omega) only [go_sem] <;> rfl)) ?_
  simp -implicitDefEqProofs (disch := omega) only [go_sem, bin_adds]
  refine hQ1 _ _ (S_ ?_);clear hQ1 Q1
  rw [show [PV.str (⟨#[115, 116, 101, 112, 115, 32]⟩ ++ fmtS c.steps)] = strC [stS c.steps] from rfl]
  refine g_ [1,3,17,18,19] ?_
  refine n_ ?_
  refine wpM_loopS (fun q n s' => ∃ (i M Y : Nat) (L : List ByteArray), i + n = c.ts.length ∧ B + 1 ≤ Y ∧ Y < M ∧ L = stS c.steps :: (c.ts.take i).map trS ∧ s' = { q with env := setE 19 (.int .i64 (i : Nat)) (setE 3 (.sl 9 Y 0 L.length) q.env), l := [(Y, .cells 9 (strC L)), (B, .cells 48 c.cs)], M := M }) (c.ts.length) ?_ ?_
  ·
    refine .of' _ _ ⟨0, _, B + 1, [stS c.steps], by omega, Nat.le_refl _, Nat.lt_succ_self _, rfl, rfl⟩ ?_ ?_ ?_
    all_goals exact L_
  rintro n s' ⟨i, M, Y, L, hi, hBY, hYM, hL, rfl⟩
  try refine S_ ?_
  refine g_ [1,3,17,18,19,20] ?_
  refine c_ (fun hc1 => ?_) fun hc1 => ?_
  ·
    have hi2 : i < c.ts.length := by omega
    have hT := cht_TrS hok _ (get_mem hi2)
    have hLl : L.length ≤ 7 := by rw [hL, List.length_cons, List.length_map, List.length_take]; omega
    have z1 := pl_size hT.fr
    have z2 := pl_size hT.to'
    have z3 := ex_size hT.w
    have s1 : (plS (c.ts.getD i default).fr ++ ⟨#[32, 62, 32]⟩).size = (plS (c.ts.getD i default).fr).size + 3 := by rw [ByteArray.size_append, e3]
    have s2 : (plS (c.ts.getD i default).fr ++ ⟨#[32, 62, 32]⟩ ++ plS (c.ts.getD i default).to').size = (plS (c.ts.getD i default).fr).size + 3 + (plS (c.ts.getD i default).to').size := by rw [ByteArray.size_append, s1]
    have s3 : (plS (c.ts.getD i default).fr ++ ⟨#[32, 62, 32]⟩ ++ plS (c.ts.getD i default).to' ++ ⟨#[32, 119, 104, 101, 110, 32]⟩).size = (plS (c.ts.getD i default).fr).size + 3 + (plS (c.ts.getD i default).to').size + 6 := by rw [ByteArray.size_append, s2, e5]
    refine g_ [1,3,5,17,18,19] ?_
    refine dr_ mixed [1,3,17,18,19] 2 2 [M, Y, M + 1, M + 2] [⟨[3],[],[],[],false⟩,⟨[5],[],[],[],false⟩,⟨[24],[0],[],[],false⟩,⟨[25],[],[],[],true⟩,⟨[26],[],[],[],false⟩,⟨[5],[],[],[],false⟩,⟨[28],[0],[],[],false⟩,⟨[29],[],[],[],true⟩,⟨[27,30],[],[],[],false⟩,⟨[31],[],[],[],false⟩,⟨[5],[],[],[],false⟩,⟨[33],[0],[],[],false⟩,⟨[34],[],[],[],true⟩,⟨[32,35],[],[],[],false⟩,⟨[36],[],[],[2],false⟩,⟨[23,37],[1,2],[1],[3],false⟩,⟨[38],[],[],[],false⟩] [0,1,2,5,6,10,11,3,4,7,8,9,12,13,14,15,16] [[],[],[1],[1,2],[1,2,3],[],[5],[1,2,3,5,6],[1,2,3,4,5,6,7],[1,2,3,4,5,6,7,8],[],[10],[1,2,3,5,6,7,10,11],[1,2,3,4,5,6,7,8,9,10,11,12],[1,2,3,4,5,6,7,8,9,10,11,12,13],[0,1,2,3,4,5,6,7,8,9,10,11,12,13,14],[0,1,2,3,4,5,6,7,8,9,10,11,12,13,14,15]] 4 (htbl := by simp; omega) (hnm := by simp) ?_
    intro O A K hO hA hK;simp only [atL_cons,atL_nil,Nat.reduceAdd,Nat.zero_add] at hO hA
    simp -implicitDefEqProofs (disch := omega) only [go_sem, bin_adds, hO, hA]
    refine loud_p (placesText_ok (c.ts.getD i default).fr hT.fr) Tryz.call50 rfl rfl (by first | rfl | (simp -implicitDefEqProofs (disch := omega) only [go_sem] <;> rfl)) rfl ?_
    simp -implicitDefEqProofs (disch := omega) only [go_sem, bin_adds, hO, hA]
    refine loud_p (placesText_ok (c.ts.getD i default).to' hT.to') Tryz.call50 rfl rfl (by first | rfl | (simp -implicitDefEqProofs (disch := omega) only [go_sem] <;> rfl)) rfl ?_
    simp -implicitDefEqProofs (disch := omega) only [go_sem, bin_adds, hO, hA]
    refine loud_p (exprText_ok (c.ts.getD i default).w hT.w) Tryz.call51 rfl rfl (by first | rfl | (simp -implicitDefEqProofs (disch := omega) only [go_sem] <;> rfl)) rfl ?_
    simp -implicitDefEqProofs (disch := omega) only [go_sem, bin_adds, hO, hA]
    refine hK _ (S_ ?_);clear hK K hO hA O A
    refine g_ [1,3,17,18,19] ?_
    have e9 : L ++ [trS (c.ts.getD i default)] = stS c.steps :: (c.ts.take (i + 1)).map trS := by rw [hL, List.cons_append, map_take1 trS c.ts i hi2]
    rw [show plS (c.ts.getD i default).fr ++ ⟨#[32, 62, 32]⟩ ++ plS (c.ts.getD i default).to' ++ ⟨#[32, 119, 104, 101, 110, 32]⟩ ++ exS (c.ts.getD i default).w = trS (c.ts.getD i default) from rfl]
    rw [show L.length + 1 = (L ++ [trS (c.ts.getD i default)]).length from by simp]
    refine .of' _ _ ⟨n - 1, by omega, i + 1, _, M + 2, L ++ [trS (c.ts.getD i default)], by omega, M_, M_, e9, rfl⟩ L_ L_ L_
  refine n_ ?_
  have hiN : i = c.ts.length := by omega
  have hL2 : L = stS c.steps :: c.ts.map trS := by rw [hL, hiN, List.take_of_length_le (Nat.le_refl _)]
  have hLl : L.length ≤ 7 := by rw [hL2, List.length_cons, List.length_map]; omega
  refine g_ [3,41,42,43] ?_
  refine n_ ?_
  refine wpM_loopS (fun q n s' => ∃ (j M2 Y2 : Nat) (L2 : List ByteArray), j + n = c.as'.length ∧ B + 1 ≤ Y2 ∧ Y2 < M2 ∧ L2 = L ++ (c.as'.take j).map acS ∧ s' = { q with env := setE 43 (.int .i64 (j : Nat)) (setE 3 (.sl 9 Y2 0 L2.length) q.env), l := [(Y2, .cells 9 (strC L2)), (B, .cells 48 c.cs)], M := M2 }) (c.as'.length) ?_ ?_
  ·
    refine .of' _ _ ⟨0, _, Y, L, by omega, by omega, by first | assumption | (dsimp only; omega), by simp, rfl⟩ ?_ ?_ ?_
    all_goals exact L_
  rintro n s' ⟨j, M2, Y2, L2, hj, hBY2, hYM2, hL3, rfl⟩
  try refine S_ ?_
  refine g_ [3,41,42,43,44] ?_
  refine c_ (fun hc2 => ?_) fun hc2 => ?_
  ·
    have hj2 : j < c.as'.length := by omega
    have hAc := cht_AcS hok _ (get_mem hj2)
    have hk := hAc.k
    have hstp := hAc.st
    have hL2l : L2.length ≤ 14 := by rw [hL3, List.length_append, List.length_map, List.length_take]; omega
    have z1 := act_size (c.as'.getD j default).kind hk
    have z2 := fmtS_size (c.as'.getD j default).step
    have z3 := adr_size hAc.to'
    have s1 : (actL.getD (c.as'.getD j default).kind.toNat default ++ ⟨#[32]⟩).size = (actL.getD (c.as'.getD j default).kind.toNat default).size + 1 := by rw [ByteArray.size_append, e1]
    have s2 : (actL.getD (c.as'.getD j default).kind.toNat default ++ ⟨#[32]⟩ ++ fmtS (c.as'.getD j default).step).size = (actL.getD (c.as'.getD j default).kind.toNat default).size + 1 + (fmtS (c.as'.getD j default).step).size := by rw [ByteArray.size_append, s1]
    have s3 : (actL.getD (c.as'.getD j default).kind.toNat default ++ ⟨#[32]⟩ ++ fmtS (c.as'.getD j default).step ++ ⟨#[32]⟩).size = (actL.getD (c.as'.getD j default).kind.toNat default).size + 1 + (fmtS (c.as'.getD j default).step).size + 1 := by rw [ByteArray.size_append, s2, e1]
    have hal5 : actL.length = 5 := rfl
    refine g_ [3,7,41,42,43] ?_
    refine dr_ mixed [3,41,42,43] 2 2 [M2, Y2, M2 + 1, M2 + 2] [⟨[3],[],[],[],false⟩,⟨[],[],[],[],true⟩,⟨[7],[],[],[],false⟩,⟨[49],[0],[],[],false⟩,⟨[48,50],[],[],[],false⟩,⟨[51],[],[],[],false⟩,⟨[52],[],[],[],false⟩,⟨[7],[],[],[],false⟩,⟨[54],[0],[],[],false⟩,⟨[55],[],[],[],true⟩,⟨[53,56],[],[],[],false⟩,⟨[57],[],[],[],false⟩,⟨[7],[],[],[],false⟩,⟨[59],[0],[],[],false⟩,⟨[60],[],[],[],true⟩,⟨[58,61],[],[],[],false⟩,⟨[62],[],[],[2],false⟩,⟨[47,63],[1,2],[1],[3],false⟩,⟨[64],[],[],[],false⟩] [0,2,3,7,8,12,13,1,4,5,6,9,10,11,14,15,16,17,18] [[],[],[],[2],[1,2,3],[1,2,3,4],[1,2,3,4,5],[],[7],[1,7,8],[1,2,3,4,5,6,7,8,9],[1,2,3,4,5,6,7,8,9,10],[],[12],[1,7,8,9,12,13],[1,2,3,4,5,6,7,8,9,10,11,12,13,14],[1,2,3,4,5,6,7,8,9,10,11,12,13,14,15],[0,1,2,3,4,5,6,7,8,9,10,11,12,13,14,15,16],[0,1,2,3,4,5,6,7,8,9,10,11,12,13,14,15,16,17]] 4 (htbl := by simp; omega) (hnm := by simp) ?_
    intro O A K hO hA hK;simp only [atL_cons,atL_nil,Nat.reduceAdd,Nat.zero_add] at hO hA
    simp -implicitDefEqProofs (disch := omega) only [go_sem, bin_adds, hal5, hO, hA]
    refine loud_p (actNames_ok) Tryz.call52 rfl rfl (by first | rfl | (simp -implicitDefEqProofs (disch := omega) only [go_sem] <;> rfl)) rfl ?_
    simp -implicitDefEqProofs (disch := omega) only [go_sem, bin_adds, hal5, hO, hA]
    refine loud_p (itoa_ok (c.as'.getD j default).step (by omega) (by omega)) Tryz.call49 rfl rfl (by first | rfl | (simp -implicitDefEqProofs (disch := omega) only [go_sem] <;> rfl)) rfl ?_
    simp -implicitDefEqProofs (disch := omega) only [go_sem, bin_adds, hal5, hO, hA]
    refine loud_p (addrText_ok (c.as'.getD j default).to' hAc.to') Tryz.call53 rfl rfl (by first | rfl | (simp -implicitDefEqProofs (disch := omega) only [go_sem] <;> rfl)) rfl ?_
    simp -implicitDefEqProofs (disch := omega) only [go_sem, bin_adds, hal5, hO, hA]
    refine hK _ (S_ ?_);clear hK K hO hA O A
    refine g_ [3,41,42,43] ?_
    have e9 : L2 ++ [acS (c.as'.getD j default)] = L ++ (c.as'.take (j + 1)).map acS := by rw [hL3, List.append_assoc, map_take1 acS c.as' j hj2]
    rw [show actL.getD (c.as'.getD j default).kind.toNat default ++ ⟨#[32]⟩ ++ fmtS (c.as'.getD j default).step ++ ⟨#[32]⟩ ++ adrS (c.as'.getD j default).to' = acS (c.as'.getD j default) from rfl]
    rw [show L2.length + 1 = (L2 ++ [acS (c.as'.getD j default)]).length from by simp]
    refine .of' _ _ ⟨n - 1, by omega, j + 1, _, M2 + 2, L2 ++ [acS (c.as'.getD j default)], by omega, M_, M_, e9, rfl⟩ L_ L_ L_
  refine n_ ?_
  have hjN : j = c.as'.length := by omega
  have hL4 : L2 = itemsS c := by rw [hL3, hL2, hjN, List.take_of_length_le (Nat.le_refl _)]; rfl
  refine wpM_frz [Y2] [(9, Y2, 0, L2.length, strR L2)] (by intro q hq; simp at hq; subst hq; simp -implicitDefEqProofs (disch := omega) only [go_sem]) (by intro q hq; simp only [List.mem_cons, List.not_mem_nil, or_false] at hq; subst hq; exact ⟨by simp, rowsOf_str (T := 9) T_ rfl⟩) ?_
  refine S_ ?_
  rw [hL4]
  refine wpM_regionK [2] rfl fun Q1 hQ1 => ?_
  refine S_ ?_
  refine cp_ (join_ok (itemsS c) ⟨#[32, 59, 32]⟩ (by omega) (by show (Lib.join ((itemsS c).map bt) [32, 59, 32]).length ≤ _; omega)) Tryz.call54 ?_
  refine hQ1 _ _ (S_ ?_);clear hQ1 Q1
  refine e_ Tryz.results19 ?_
  first
  | exact True.intro
  | rfl
end Go.Proofs.YtnmfmeehmieifaaGreatDoor
namespace Go.Proofs.YtnmfmeehmieifaaGreatDoor
open Go Sg
set_option maxRecDepth 100000
set_option linter.unusedSimpArgs false
set_option linter.unusedVariables false
set_option linter.unusedSectionVars false
set_option maxHeartbeats 4000000
variable [TabK]
theorem u8wr (n : Int) (h : 0 ≤ n) (h1 : n < 256) : IntKind.u8.wrap n = n := by
  simp [IntKind.wrap, IntKind.signed, IntKind.bits]; omega
def dgS (k : Int) : ByteArray := ⟨#[UInt8.ofNat (48 + k.toNat)]⟩
theorem dgS_size (k : Int) : (dgS k).size = 1 := rfl
theorem txt_dg (k : Int) (h : 0 ≤ k) : txt [UInt8.ofNat (48 + k).toNat] = dgS k := by
  have : (48 + k).toNat = 48 + k.toNat := by omega
  rw [this]; rfl
theorem dec_step {m : Int} (h : 9 < m) : Lib.decDigits m.toNat = Lib.decDigits (m / 10).toNat ++ bt (dgS (m % 10)) := by
  rw [Lib.decDigits, dif_neg (by omega)]
  have e1 : m.toNat / 10 = (m / 10).toNat := by omega
  have e2 : m.toNat % 10 = (m % 10).toNat := by omega
  rw [e1, e2]; rfl
theorem dec_last {m : Int} (h0 : 0 ≤ m) (h : m ≤ 9) : Lib.decDigits m.toNat = bt (dgS m) := by
  rw [Lib.decDigits, dif_pos (by omega)]; rfl
theorem decPos_ok (n : Int) (h0 : 0 ≤ n) (h1 : n ≤ 1000000) : PureF Tryz.prog 41 [.int .i64 n] [.str (fmtS n)] := by
  refine pureF_of Tryz.func41 rfl Tryz.ntmps41 (by simp) T_ ?_
  intro f0 B Q hQ
  have hlen : (Lib.decDigits n.toNat).length ≤ 21 := by
    have := Lib.itoa_length_le n (by omega) (by omega)
    rw [Lib.itoa, if_neg (by omega)] at this
    exact this
  refine g_ [0] ?_
  refine g_ [0,5] ?_
  refine c_ (fun hc0 => ?_) fun hc0 => ?_
  · exfalso; omega
  refine g_ [0,7] ?_
  refine c_ (fun hc1 => ?_) fun hc1 => ?_
  · exfalso; omega
  refine g_ [0,3] ?_
  refine n_ ?_
  refine wpM_loopS (fun q r s' => ∃ (m : Int) (out : ByteArray) (M : Nat) (l : List (Nat × AObj)), 0 ≤ m ∧ m ≤ n ∧ r = m.toNat ∧ Lib.decDigits n.toNat = Lib.decDigits m.toNat ++ bt out ∧ B ≤ M ∧ s' = { q with env := setE 0 (.int .i64 m) (setE 3 (.str out) q.env), l := [], M := M }) (n.toNat) ?_ ?_
  ·
    refine .of' _ _ ⟨n, ⟨#[]⟩, _, [], h0, by omega, rfl, by simp [bt], Nat.le_refl _, rfl⟩ ?_ ?_ ?_
    all_goals exact L_
  rintro r s' ⟨m, out, M, l, hm0, hmn, hr, hd, hM, rfl⟩
  have hmod : m.tmod 10 = m % 10 := Int.tmod_eq_emod_of_nonneg hm0
  have hdiv : m.tdiv 10 = m / 10 := Int.tdiv_eq_ediv_of_nonneg hm0
  have hos : out.size ≤ 21 := by
    have := congrArg List.length hd
    rw [List.length_append, bt_len] at this
    omega
  have hw1 : IntKind.u8.wrap (48 + m % 10) = 48 + m % 10 := u8wr _ (by omega) (by omega)
  have ht1 : txt [UInt8.ofNat (48 + m % 10).toNat] = dgS (m % 10) := txt_dg _ (by omega)
  have hz1 := dgS_size (m % 10)
  try refine S_ ?_
  refine g_ [0,3,13] ?_
  refine c_ (fun hc2 => ?_) fun hc2 => ?_
  ·
    have h9 : 9 < m := by omega
    refine n_ ?_
    refine wpM_regionK [0,3] rfl fun Q1 hQ1 => ?_
    simp -implicitDefEqProofs (disch := omega) only [go_sem, bin_adds, hmod, hw1, ht1]
    refine hQ1 _ _ (S_ ?_);clear hQ1 Q1
    refine wpM_regionK [0,3] rfl fun Q1 hQ1 => ?_
    simp -implicitDefEqProofs (disch := omega) only [go_sem, hdiv]
    refine hQ1 _ _ (S_ ?_);clear hQ1 Q1
    refine .of' _ _ ⟨(m / 10).toNat, by omega, m / 10, dgS (m % 10) ++ out, M + 1, [], by omega, by omega, rfl, by rw [bt_app, ← List.append_assoc, ← dec_step h9]; exact hd, by omega, rfl⟩ ?_ ?_ ?_
    all_goals exact L_
  refine n_ ?_
  have hm9 : m ≤ 9 := by omega
  have hw2 : IntKind.u8.wrap (48 + m) = 48 + m := u8wr _ (by omega) (by omega)
  have ht2 : txt [UInt8.ofNat (48 + m).toNat] = dgS m := txt_dg _ (by omega)
  have hz2 := dgS_size m
  refine wpM_regionK [2] rfl fun Q1 hQ1 => ?_
  simp -implicitDefEqProofs (disch := omega) only [go_sem, bin_adds, hw2, ht2]
  refine hQ1 _ _ (S_ ?_);clear hQ1 Q1
  refine e_ Tryz.results41 ?_
  first
  | exact True.intro
  | have h1 := dec_last hm0 hm9
    rw [h1, ← bt_app] at hd
    rw [fmtS, Lib.itoa, if_neg (by omega), hd]
theorem bytes_inj' {a b : ByteArray} (h : bt a = bt b) : a = b := by
  obtain ⟨x⟩ := a
  obtain ⟨y⟩ := b
  have : x.toList = y.toList := h
  rw [Array.toList_inj.1 this]
theorem dec_ok (n : Int) (h0 : -1000000 ≤ n) (h1 : n ≤ 1000000) : PureF Tryz.prog 41 [.int .i64 n] [.str (fmtS n)] := by
  by_cases hn : 0 ≤ n
  · exact decPos_ok n hn h1
  refine pureF_of Tryz.func41 rfl Tryz.ntmps41 (by simp) T_ ?_
  intro f0 B Q hQ
  have hs := fmtS_size (-n)
  have hlt : decide (n < 0) = true := by simpa using hn
  have hneg : (0 : Int) - n = -n := by omega
  have e1 : (⟨#[45]⟩ : ByteArray).size = 1 := rfl
  have ef : (⟨#[45]⟩ : ByteArray) ++ fmtS (-n) = fmtS n := by
    have : (fmtS n) = ⟨(45 :: Lib.decDigits n.natAbs).toArray⟩ := by rw [fmtS, Lib.itoa, if_pos (by omega)]
    rw [this, fmtS, Lib.itoa, if_neg (by omega)]
    have e2 : (-n).toNat = n.natAbs := by omega
    rw [e2]
    apply bytes_inj'
    rw [bt_app, bt_mk, bt_mk]
    rfl
  refine g_ [0] ?_
  refine g_ [0,5] ?_
  refine c_ (fun hc0 => ?_) fun hc0 => ?_
  · exfalso; omega
  refine n_ ?_
  refine wpM_regionK [0,7] rfl fun Q1 hQ1 => ?_
  simp -implicitDefEqProofs (disch := omega) only [go_sem, hlt]
  refine hQ1 _ _ (S_ ?_);clear hQ1 Q1
  refine c1_ ?_
  refine n_ ?_
  refine wpM_regionK [2] rfl fun Q1 hQ1 => ?_
  simp -implicitDefEqProofs (disch := omega) only [go_sem, bin_adds, hneg]
  refine call_p (decPos_ok (-n) (by omega) (by omega)) Tryz.call41 rfl rfl rfl (by first | rfl | (simp -implicitDefEqProofs (disch := omega) only [go_sem] <;> rfl)) ?_
  simp -implicitDefEqProofs (disch := omega) only [go_sem, bin_adds, hneg]
  refine hQ1 _ _ (S_ ?_);clear hQ1 Q1
  refine e_ Tryz.results41 ?_
  first
  | exact True.intro
  | rw [ef]
@[go_sem] theorem strC_drop (l : List ByteArray) (k : Nat) (h : k < l.length) : ((strC l).drop k)[0]? = some (.str (l.getD k default)) := by
  simp [strC, List.getD, h]
def letL : List ByteArray := [⟨#[]⟩, ⟨#[105]⟩, ⟨#[111]⟩, ⟨#[118]⟩]
theorem saddrText_ok (a : AD) (h : a.ok = true) : PureF Tryz.prog 45 [.agg a.cs] [.str (adrS a)] := by
  have hk : 1 ≤ a.kind ∧ a.kind ≤ 3 ∧ 0 ≤ a.at' ∧ a.at' < 6 := by simp only [AD.ok, Bool.and_eq_true, decide_eq_true_eq] at h; omega
  have h2 := fmtS_size a.at'
  have hr : rep 4 [PV.str ⟨#[]⟩] = [.str ⟨#[]⟩, .str ⟨#[]⟩, .str ⟨#[]⟩, .str ⟨#[]⟩] := rfl
  have hL : [PV.str ⟨#[]⟩, .str ⟨#[105]⟩, .str ⟨#[111]⟩, .str ⟨#[118]⟩] = strC letL := rfl
  have hl4 : letL.length = 4 := rfl
  have hg : letL.getD a.kind.toNat default = letS a.kind := by
    have : a.kind = 1 ∨ a.kind = 2 ∨ a.kind = 3 := by omega
    rcases this with h | h | h <;> rw [h] <;> decide
  have hgs : (letL.getD a.kind.toNat default).size ≤ 4 := by rw [hg]; exact letS_size _ (by omega)
  refine pureF_of Tryz.func45 rfl Tryz.ntmps45 (by simp) T_ ?_
  intro f0 B Q hQ
  refine g_ [1] ?_
  refine n_ ?_
  refine wpM_regionK [1,5] rfl fun Q1 hQ1 => ?_
  refine S_ ?_
  refine call_p (addrOk_ok a) Tryz.call79 rfl rfl rfl (by first | rfl | (simp -implicitDefEqProofs (disch := omega) only [go_sem] <;> rfl)) ?_
  simp -implicitDefEqProofs (disch := omega) only [go_sem, h]
  refine hQ1 _ _ (S_ ?_);clear hQ1 Q1
  refine c1_ ?_
  refine n_ ?_
  refine dr_ mixed [2] 1 1 [B, B + 1] [⟨[],[],[],[1],false⟩,⟨[1],[],[],[],false⟩,⟨[7],[0],[],[],false⟩,⟨[6,8],[],[],[],false⟩,⟨[9],[1],[],[],false⟩,⟨[1],[],[],[],false⟩,⟨[11],[0],[],[],false⟩,⟨[12],[],[],[],true⟩,⟨[10,13],[],[],[],false⟩,⟨[14],[],[],[],false⟩] [0,1,2,3,4,5,6,7,8,9] [[],[],[1],[0,1,2],[0,1,2,3],[],[5],[5,6],[0,1,2,3,4,5,6,7],[0,1,2,3,4,5,6,7,8]] 2 ?_
  intro O A K hO hA hK;simp only [atL_cons,atL_nil,Nat.reduceAdd,Nat.zero_add] at hO hA
  simp -implicitDefEqProofs (disch := omega) only [go_sem, hr, hL, hl4, splice, List.take_succ_cons, List.take_zero, List.drop_succ_cons, List.drop_zero, List.cons_append, List.nil_append, List.length_cons, List.length_nil, bin_adds, hO, hA]
  refine loud_p (dec_ok a.at' (by omega) (by omega)) Tryz.call41 rfl rfl (by first | rfl | (simp -implicitDefEqProofs (disch := omega) only [go_sem] <;> rfl)) rfl ?_
  simp -implicitDefEqProofs (disch := omega) only [go_sem, hr, hL, hl4, splice, List.take_succ_cons, List.take_zero, List.drop_succ_cons, List.drop_zero, List.cons_append, List.nil_append, List.length_cons, List.length_nil, bin_adds, hO, hA]
  refine hK _ (S_ ?_);clear hK K hO hA O A
  refine e_ Tryz.results45 ?_
  first
  | exact True.intro
  | rw [hg]; rfl
def w3L : List ByteArray := [⟨#[]⟩, ⟨#[]⟩, ⟨#[]⟩, ⟨#[97, 100, 100]⟩, ⟨#[115, 117, 98]⟩, ⟨#[109, 117, 108]⟩, ⟨#[108, 101, 115, 115]⟩, ⟨#[115, 97, 109, 101]⟩, ⟨#[97, 110, 100]⟩, ⟨#[111, 114]⟩, ⟨#[110, 111, 116]⟩]
theorem w3_ok : PureF Tryz.prog 80 [] [.rows 9 (strR w3L)] := by
  refine pureF_of Tryz.func80 rfl Tryz.ntmps80 (by simp) T_ ?_
  intro f0 B Q hQ
  have hr : rep 11 [PV.str ⟨#[]⟩] = [.str ⟨#[]⟩, .str ⟨#[]⟩, .str ⟨#[]⟩, .str ⟨#[]⟩, .str ⟨#[]⟩, .str ⟨#[]⟩, .str ⟨#[]⟩, .str ⟨#[]⟩, .str ⟨#[]⟩, .str ⟨#[]⟩, .str ⟨#[]⟩] := rfl
  refine g_ [] ?_
  refine n_ ?_
  refine wpM_regionK [0] rfl fun Q1 hQ1 => ?_
  simp -implicitDefEqProofs (disch := omega) only [go_sem, hr, splice, List.take_succ_cons, List.take_zero, List.drop_succ_cons, List.drop_zero, List.cons_append, List.nil_append, List.length_cons, List.length_nil]
  refine hQ1 _ _ (S_ ?_);clear hQ1 Q1
  rw [show [PV.str ⟨#[]⟩, .str ⟨#[]⟩, .str ⟨#[]⟩, .str ⟨#[97, 100, 100]⟩, .str ⟨#[115, 117, 98]⟩, .str ⟨#[109, 117, 108]⟩, .str ⟨#[108, 101, 115, 115]⟩, .str ⟨#[115, 97, 109, 101]⟩, .str ⟨#[97, 110, 100]⟩, .str ⟨#[111, 114]⟩, .str ⟨#[110, 111, 116]⟩] = strC w3L from rfl]
  refine wpM_frz [B] [(9, B, 0, 11, strR w3L)] (by intro q hq; simp at hq; subst hq; simp -implicitDefEqProofs (disch := omega) only [go_sem]) (by intro q hq; simp only [List.mem_cons, List.not_mem_nil, or_false] at hq; subst hq; exact ⟨by simp, rowsOf_str (T := 9) T_ rfl⟩) ?_
  refine S_ ?_
  exact e_ Tryz.results80 True.intro
theorem w8_ok : PureF Tryz.prog 44 [] [.rows 9 (strR actL)] := by
  refine pureF_of Tryz.func44 rfl Tryz.ntmps44 (by simp) T_ ?_
  intro f0 B Q hQ
  have hr : rep 5 [PV.str ⟨#[]⟩] = [.str ⟨#[]⟩, .str ⟨#[]⟩, .str ⟨#[]⟩, .str ⟨#[]⟩, .str ⟨#[]⟩] := rfl
  refine g_ [] ?_
  refine n_ ?_
  refine wpM_regionK [0] rfl fun Q1 hQ1 => ?_
  simp -implicitDefEqProofs (disch := omega) only [go_sem, hr, splice, List.take_succ_cons, List.take_zero, List.drop_succ_cons, List.drop_zero, List.cons_append, List.nil_append, List.length_cons, List.length_nil]
  refine hQ1 _ _ (S_ ?_);clear hQ1 Q1
  rw [show [PV.str ⟨#[]⟩, .str ⟨#[119, 105, 116, 104]⟩, .str ⟨#[115, 101, 116]⟩, .str ⟨#[111, 102, 102]⟩, .str ⟨#[98, 101, 103, 105, 110]⟩] = strC actL from rfl]
  refine wpM_frz [B] [(9, B, 0, 5, strR actL)] (by intro q hq; simp at hq; subst hq; simp -implicitDefEqProofs (disch := omega) only [go_sem]) (by intro q hq; simp only [List.mem_cons, List.not_mem_nil, or_false] at hq; subst hq; exact ⟨by simp, rowsOf_str (T := 9) T_ rfl⟩) ?_
  refine S_ ?_
  exact e_ Tryz.results44 True.intro
theorem join_snoc (sep : List UInt8) (xs : List (List UInt8)) (h : 0 < xs.length) (y : List UInt8) : Lib.join (xs ++ [y]) sep = Lib.join xs sep ++ (sep ++ y) := by
  match xs, h with
  | x :: r, _ =>
    rw [List.cons_append, Lib.join_cons, Lib.join_cons]
    simp only [Lib.joinTail, List.map_append, List.flatten_append, List.map_cons, List.map_nil, List.flatten_cons, List.flatten_nil, List.append_nil, List.append_assoc]
theorem sl8_ok (l : List Int) (h : PlS l) : PureF Tryz.prog 42 [.rows 3 (rowsI l)] [.str (plS l)] := by
  have hln := h.len
  have e1 : (⟨#[44]⟩ : ByteArray).size = 1 := rfl
  refine pureF_of Tryz.func42 rfl Tryz.ntmps42 (by simp) T_ ?_
  intro f0 B Q hQ
  refine g_ [0] ?_
  refine g_ [0,3] ?_
  refine g_ [0,3,4] ?_
  refine n_ ?_
  refine wpM_loopS (fun q r s' => ∃ (i : Nat) (out : ByteArray), i + r = l.length ∧ bt out = Lib.join ((l.take i).map Lib.itoa) [44] ∧ out.size ≤ 100 * i ∧ s' = { q with env := setE 4 (.int .i64 (i : Nat)) (setE 3 (.str out) q.env) }) (l.length) ?_ ?_
  ·
    refine .of' _ _ ⟨0, ⟨#[]⟩, by omega, by simp [bt, Lib.join_nil], by decide, rfl⟩ ?_ ?_ ?_
    all_goals exact L_
  rintro r s' ⟨i, out, hi, ho, hos, rfl⟩
  try refine S_ ?_
  refine g_ [0,3,4,8] ?_
  refine c_ (fun hc0 => ?_) fun hc0 => ?_
  ·
    have hi2 : i < l.length := by omega
    have hr := h.rng i hi2
    have hfs := fmtS_size (l.getD i 0)
    have hsn : (out ++ ⟨#[44]⟩).size = out.size + 1 := by rw [ByteArray.size_append, e1]
    have htk : (l.take (i + 1)).map Lib.itoa = (l.take i).map Lib.itoa ++ [Lib.itoa (l.getD i 0)] := (map_take1 Lib.itoa l i hi2).symm
    refine g_ [0,3,4,12] ?_
    refine c_ (fun hc1 => ?_) fun hc1 => ?_
    ·
      refine wpM_regionK [0,3,4] rfl fun Q1 hQ1 => ?_
      simp -implicitDefEqProofs (disch := omega) only [go_sem, bin_adds]
      refine hQ1 _ _ (S_ ?_);clear hQ1 Q1
      refine wpM_regionK [0,3,4] rfl fun Q1 hQ1 => ?_
      simp -implicitDefEqProofs (disch := omega) only [go_sem, bin_adds]
      refine call_p (dec_ok (l.getD i 0) (by omega) (by omega)) Tryz.call41 rfl rfl rfl (by first | rfl | (simp -implicitDefEqProofs (disch := omega) only [go_sem] <;> rfl)) ?_
      simp -implicitDefEqProofs (disch := omega) only [go_sem, bin_adds]
      refine hQ1 _ _ (S_ ?_);clear hQ1 Q1
      refine g_ [0,3,4] ?_
      refine .of' _ _ ⟨r - 1, by omega, i + 1, out ++ ⟨#[44]⟩ ++ fmtS (l.getD i 0), by omega, ?_, by rw [ByteArray.size_append]; omega, rfl⟩ ?_ ?_ ?_
      · rw [bt_app, bt_app, bt_fmt, ho, htk, join_snoc [44] _ (by rw [List.length_map, List.length_take]; omega), List.append_assoc]
        try rfl
      all_goals exact L_
    refine n_ ?_
    refine wpM_regionK [0,3,4] rfl fun Q1 hQ1 => ?_
    simp -implicitDefEqProofs (disch := omega) only [go_sem, bin_adds]
    refine call_p (dec_ok (l.getD i 0) (by omega) (by omega)) Tryz.call41 rfl rfl rfl (by first | rfl | (simp -implicitDefEqProofs (disch := omega) only [go_sem] <;> rfl)) ?_
    simp -implicitDefEqProofs (disch := omega) only [go_sem, bin_adds]
    refine hQ1 _ _ (S_ ?_);clear hQ1 Q1
    refine g_ [0,3,4] ?_
    have hi0 : i = 0 := by omega
    subst hi0
    refine .of' _ _ ⟨r - 1, by omega, 1, out ++ fmtS (l.getD 0 0), by omega, ?_, by rw [ByteArray.size_append]; omega, rfl⟩ ?_ ?_ ?_
    · rw [bt_app, bt_fmt, ho, htk, List.take_zero, List.map_nil, List.nil_append, Lib.join_nil, Lib.join_one]
      rfl
    all_goals exact L_
  refine g_ [2] ?_
  refine e_ Tryz.results42 ?_
  first
  | exact True.intro
  | have hiN : i = l.length := by omega
    congr 1
    apply bytes_inj'
    rw [bt_pl, ho, hiN, List.take_of_length_le (Nat.le_refl _), plB]
theorem exS_eq (e : Ex) : bt (exS e) = Lib.join (bt (wordS e) :: (wsL e.kids).map bt) [32] := by
  rw [exS, bt_mk, wsE_eq, List.map_cons]
theorem exS_le {d : Nat} {e : Ex} (h : formD d e = true) : (exS e).size ≤ e.sz * 31 := by
  have h3 := join_le (K := 30) [32] ((wsE e).map bt) (fun x hx => by
    obtain ⟨w, hw, rfl⟩ := List.mem_map.1 hx
    rw [bt_len]; exact ws_size d e h w hw)
  rw [List.length_map, wsE_len] at h3
  rw [exS, mk_size]
  simpa using h3
theorem l3Text_ok (d : Nat) : ∀ e : Ex, formD d e = true → e.sz ≤ 1000 → PureF Tryz.prog 43 [.agg e.cs] [.str (exS e)] := by
  induction d with
  | zero => intro e h; cases h
  | succ d ih =>
    intro e h hs
    have hf := form_inv h
    obtain ⟨hk, hn, ha, ho⟩ := form_kinds h
    have hlen := e.kids_len
    have hw0 := word_size h
    have e1 : (⟨#[32]⟩ : ByteArray).size = 1 := rfl
    refine pureF_of Tryz.func43 rfl Tryz.ntmps43 (by simp) T_ ?_
    intro f0 B Q hQ
    refine g_ [1] ?_
    refine g_ [1,6] ?_
    refine g_ [1,6,7] ?_
    refine c_ (fun hc0 => ?_) fun hc0 => ?_
    ·
      have hk1 : e.kind = 1 := by simpa using hc0
      have hc := form_cutn h hk1
      have hcn : -1000000 ≤ e.n ∧ e.n ≤ 1000000 := by unfold cut at hc; omega
      refine n_ ?_
      refine wpM_regionK [2] rfl fun Q1 hQ1 => ?_
      refine S_ ?_
      refine cp_ (dec_ok e.n (by omega) (by omega)) Tryz.call41 ?_
      refine hQ1 _ _ (S_ ?_);clear hQ1 Q1
      refine e_ Tryz.results43 ?_
      first
      | exact True.intro
      | congr 1
        apply bytes_inj'
        have hkk : e.kids = [] := by
          have := form_len h
          exact List.eq_nil_of_length_eq_zero (by omega)
        rw [exS_eq, hkk, wordS, if_pos (by simpa using hk1)]
        simp only [wsL, List.map_nil, Lib.join_one]
    have hk1 : e.kind ≠ 1 := by simpa using hc0
    refine g_ [1,12] ?_
    refine c_ (fun hc1 => ?_) fun hc1 => ?_
    ·
      have hk2 : e.kind = 2 := by simpa using hc1
      refine n_ ?_
      refine wpM_regionK [2] rfl fun Q1 hQ1 => ?_
      refine S_ ?_
      refine cp_ (saddrText_ok e.a (ho hk2)) Tryz.call45 ?_
      refine hQ1 _ _ (S_ ?_);clear hQ1 Q1
      refine e_ Tryz.results43 ?_
      first
      | exact True.intro
      | congr 1
        apply bytes_inj'
        have hkk : e.kids = [] := by
          have := form_len h
          exact List.eq_nil_of_length_eq_zero (by omega)
        rw [exS_eq, hkk, wordS, if_neg (by simpa using hk1), if_pos (by simpa using hk2)]
        simp only [wsL, List.map_nil, Lib.join_one]
    have hk2 : e.kind ≠ 2 := by simpa using hc1
    have hk3 : 3 ≤ e.kind ∧ e.kind ≤ 10 := by omega
    have hw3 : w3L.length = 11 := rfl
    have hwd : w3L.getD e.kind.toNat default = wordS e := by
      rw [wordS, if_neg (by simpa using hk1), if_neg (by simpa using hk2)]
      have : e.kind = 3 ∨ e.kind = 4 ∨ e.kind = 5 ∨ e.kind = 6 ∨ e.kind = 7 ∨ e.kind = 8 ∨ e.kind = 9 ∨ e.kind = 10 := by omega
      rcases this with h1 | h1 | h1 | h1 | h1 | h1 | h1 | h1 <;> rw [h1] <;> decide
    refine n_ ?_
    refine dr_ mixed [1,3] 0 1 [B] [⟨[],[],[],[],true⟩,⟨[1],[],[],[],false⟩,⟨[18],[0],[],[],false⟩,⟨[17,19],[],[],[],false⟩,⟨[20],[],[],[],false⟩,⟨[21],[],[],[],false⟩] [1,2,0,3,4,5] [[],[],[1],[0,1,2],[0,1,2,3],[0,1,2,3,4]] 1 ?_
    intro O A K hO hA hK;simp only [atL_cons,atL_nil,Nat.reduceAdd,Nat.zero_add] at hO hA
    simp -implicitDefEqProofs (disch := omega) only [go_sem, hw3, hwd, hO, hA]
    refine loud_p (w3_ok) Tryz.call80 rfl rfl (by first | rfl | (simp -implicitDefEqProofs (disch := omega) only [go_sem] <;> rfl)) rfl ?_
    simp -implicitDefEqProofs (disch := omega) only [go_sem, hw3, hwd, hO, hA]
    refine hK _ (S_ ?_);clear hK K hO hA O A
    refine g_ [1,3,4] ?_
    refine n_ ?_
    refine wpM_loopS (fun q r s' => ∃ (i : Nat) (out : ByteArray), i + r = e.kids.length ∧ bt out = Lib.join (bt (wordS e) :: (wsL (e.kids.take i)).map bt) [32] ∧ out.size ≤ 40000 * (i + 1) ∧ s' = { q with env := setE 4 (.int .i64 (i : Nat)) (setE 3 (.str out) q.env) }) (e.kids.length) ?_ ?_
    ·
      refine .of' _ _ ⟨0, wordS e, by omega, by simp [wsL, Lib.join_one], by omega, rfl⟩ ?_ ?_ ?_
      all_goals exact L_
    rintro r s' ⟨i, out, hi, hout, hos, rfl⟩
    try refine S_ ?_
    refine g_ [1,3,4,26] ?_
    refine c_ (fun hc2 => ?_) fun hc2 => ?_
    ·
      have hi2 : i < e.kids.length := by omega
      have hkf := hf.2.2 i hi2
      have hks := Ex.kid_sz (e := e) hi2
      have hxl := exS_le hkf
      have hl2 := form_len h
      have hsn : (out ++ ⟨#[32]⟩).size = out.size + 1 := by rw [ByteArray.size_append, e1]
      refine n_ ?_
      refine wpM_regionK [1,3,4] rfl fun Q1 hQ1 => ?_
      simp -implicitDefEqProofs (disch := omega) only [go_sem, bin_adds]
      refine call_p (ih (e.kids.getD i default) hkf (by omega)) Tryz.call43 rfl rfl rfl (by first | rfl | (simp -implicitDefEqProofs (disch := omega) only [go_sem] <;> rfl)) ?_
      simp -implicitDefEqProofs (disch := omega) only [go_sem, bin_adds]
      refine hQ1 _ _ (S_ ?_);clear hQ1 Q1
      refine g_ [1,3,4] ?_
      refine .of' _ _ ⟨r - 1, by omega, i + 1, out ++ ⟨#[32]⟩ ++ exS (e.kids.getD i default), by omega, ?_, by rw [ByteArray.size_append]; omega, rfl⟩ ?_ ?_ ?_
      · rw [bt_app, bt_app, hout, exS_eq, wsL_take _ _ hi2, List.map_append, wsE_eq, List.map_cons, ← List.cons_append, join_app, List.append_assoc]
        try rfl
      all_goals exact L_
    refine g_ [2] ?_
    refine e_ Tryz.results43 ?_
    first
    | exact True.intro
    | have hiN : i = e.kids.length := by omega
      congr 1
      apply bytes_inj'
      rw [hout, exS_eq, hiN, List.take_of_length_le (Nat.le_refl _)]
end Go.Proofs.YtnmfmeehmieifaaGreatDoor
