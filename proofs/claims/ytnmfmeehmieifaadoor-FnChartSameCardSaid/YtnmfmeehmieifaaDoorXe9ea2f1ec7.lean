/- A part of a proof: lemmas and contracts of functions; the last text of the claim says what is proved. -/
import Derived.Test.YtnmfmeehmieifaaDoorXb756502940
import Derived.Ground.NamesProg
import Derived.Shelf.Strconv.Itoa3
import Derived.Lib.ItoaLen
import Derived.Shelf.Strings.OnBuilder
set_option linter.unusedSectionVars false
set_option linter.unusedSimpArgs false
set_option linter.unusedVariables false
namespace Go.Proofs.YtnmfmeehmieifaaDoor
open Go Sg
set_option linter.unusedSectionVars false
variable [Glob]
set_option maxRecDepth 100000
set_option linter.unusedSimpArgs false
set_option maxHeartbeats 4000000
theorem mixed : Tryd.prog.follows .mixedOrders = true := by kernel_rfl
def u8s (l : List Nat) : List (List PV) := l.map fun (x : Nat) => [.int .u8 (x : Int)]
@[go_sem] theorem u8s_len (l : List Nat) : (u8s l).length = l.length := by simp [u8s]
@[go_sem] theorem u8s_getD (l : List Nat) (k : Nat) (h : k < l.length) : (u8s l).getD k [] = [.int .u8 ((l.getD k 0 : Nat) : Int)] := by simp [u8s, List.getD, h]
def ints (l : List Int) : List PV := l.map (PV.int .i64)
@[go_sem] theorem ints_len (l : List Int) : (ints l).length = l.length := by simp [ints]
@[go_sem] theorem ints_drop (l : List Int) (k : Nat) (h : k < l.length) : ((ints l).drop k)[0]? = some (.int .i64 (l.getD k 0)) := by
  simp [ints, List.getD, h]
structure Bs (bs : List Nat) : Prop where
  lt : ∀ x ∈ bs, x < 256
  len : bs.length ≤ 2000
theorem Bs.get {bs : List Nat} (h : Bs bs) (k : Nat) : bs.getD k 0 < 256 := by
  by_cases hk : k < bs.length
  · rw [List.getD_eq_getElem?_getD, List.getElem?_eq_getElem hk]; exact h.lt _ (List.getElem_mem hk)
  · rw [List.getD_eq_getElem?_getD, List.getElem?_eq_none (by omega)]; simp
def rdObj (bs : List Nat) (q : Int) : AObj := .cells 68 [.rows 5 (u8s bs), .int .i64 q]
theorem xor64 (a b : Int) (ha : 0 ≤ a) (ha' : a < 4611686018427387904) (hb : 0 ≤ b) (hb' : b < 4611686018427387904) :
    0 ≤ IntKind.i64.wrap (BitVec.ofInt 64 a ^^^ BitVec.ofInt 64 b).toNat ∧ IntKind.i64.wrap (BitVec.ofInt 64 a ^^^ BitVec.ofInt 64 b).toNat < 4611686018427387904 := by
  obtain ⟨x, rfl⟩ := Int.eq_ofNat_of_zero_le ha
  obtain ⟨y, rfl⟩ := Int.eq_ofNat_of_zero_le hb
  have e : (BitVec.ofInt 64 (x : Int) ^^^ BitVec.ofInt 64 (y : Int)).toNat = x ^^^ y := by
    rw [BitVec.toNat_xor, BitVec.toNat_ofInt, BitVec.toNat_ofInt]
    have h1 : ((x : Int) % ((2 ^ 64 : Nat) : Int)).toNat = x := by omega
    have h2 : ((y : Int) % ((2 ^ 64 : Nat) : Int)).toNat = y := by omega
    rw [h1, h2]
  have hlt : x ^^^ y < 2 ^ 62 := Nat.xor_lt_two_pow (by omega) (by omega)
  rw [e, wrap64 (by omega)]
  omega
def pickO (id : Nat) (bs : List Nat) (q n : Int) (_ : List Nat) (o : COut) : Prop :=
  ∃ k : Int, o = { rs := [.int .i64 k], u := [(id, some (rdObj bs (q + 1)))] } ∧ 0 ≤ k ∧ (1 ≤ n → k < n) ∧ (n < 1 → k = 0)
theorem pick_ok (id : Nat) (bs : List Nat) (q n : Int) (hbs : Bs bs) (hq0 : 0 ≤ q) (hq : q ≤ 1099511627776) (hn : n ≤ 1099511627776) :
    CallF Tryd.prog 30 [.ptr id 0, .int .i64 n] [(id, rdObj bs q)] 0 (pickO id bs q n) := by
  have hl := hbs.len
  refine callF_of Tryd.func30 rfl Tryd.ntmps30 (by simp) ?_
  intro f0 B ns hB hns
  have hid : id < B := hB id (by simp [hasKey, lk])
  obtain rfl : ns = [] := List.eq_nil_of_length_eq_zero hns
  have fin : ∀ (k : Int) (s : MS), s.f0 = f0 → s.B = B → s.df = [] → s.l = [(id, .cells 68 [.rows 5 (u8s bs), .int .i64 (q + 1)])] → Sg.get s.env 4 = some (.int .i64 k) → 0 ≤ k → (1 ≤ n → k < n) → (n < 1 → k = 0) →
      retQ Tryd.prog Tryd.f30.results.toList [(id, rdObj bs q)] f0 B [] (pickO id bs q n) .ret s := by
    intro k s h1 h2 h3 h4 h5 k1 k2 k3
    refine ⟨h1, h2, h3, [], [.int .i64 k], _, ⟨k, rfl, k1, k2, k3⟩, rfl, by rw [Tryd.results30]; simp [resA, h5], ?_⟩
    constructor <;> simp [h4, rdObj, keysIn, hasKey, lk, PV.renL, PV.ren, PV.idsL, PV.ids, updOk, oldOk, goodObj, MS.f, AObj.ren, AObj.ids, newOk]
  revert fin
  generalize retQ Tryd.prog Tryd.f30.results.toList [(id, rdObj bs q)] f0 B [] (pickO id bs q n) = Q
  intro fin
  unfold rdObj
  refine wpM_seq ?_
  refine wpM_regionK [0, 1] rfl ?_; intro Q1 hQ1
  simp -implicitDefEqProofs (disch := omega) only [go_sem]
  refine hQ1 _ _ ?_
  simp -implicitDefEqProofs (disch := omega) only [go_sem]
  refine wpM_seq ?_
  refine wpM_regionK [0, 1] rfl ?_; intro Q1 hQ1
  simp -implicitDefEqProofs (disch := omega) only [go_sem]
  refine hQ1 _ _ ?_
  simp -implicitDefEqProofs (disch := omega) only [go_sem]
  refine wpM_seq ?_
  refine wpM_cut (fun s => s = ⟨[(0, .ptr id 0), (1, .int .i64 n), (24, .bool (decide (n < 1) || bs.length == 0))], [(id, AObj.cells 68 [.rows 5 (u8s bs), .int .i64 (q + 1)])], f0, B, B, []⟩) ?_ ?_
  · by_cases h : n < 1
    · skip
      refine wpM_regionK [0, 1, 24] rfl ?_; intro Q1 hQ1
      simp -implicitDefEqProofs (disch := omega) only [go_sem, h, decide_true]
      refine hQ1 _ _ ?_
      simp -implicitDefEqProofs (disch := omega) only [go_sem]
      refine .here ?_
      simp [h]
    · skip
      refine wpM_regionK [0, 1, 24] rfl ?_; intro Q1 hQ1
      simp -implicitDefEqProofs (disch := omega) only [go_sem, h, decide_false]
      refine hQ1 _ _ ?_
      simp -implicitDefEqProofs (disch := omega) only [go_sem]
      refine .here ?_
      simp [h]
      rw [Bool.eq_iff_iff]; simp
  rintro s' rfl
  refine wpM_condK ?_
  simp -implicitDefEqProofs (disch := omega) only [go_sem]
  refine ⟨fun h => ?_, fun h => ?_⟩
  · refine wpM_seq ?_
    refine wpM_regionK [4] rfl ?_; intro Q1 hQ1
    simp -implicitDefEqProofs (disch := omega) only [go_sem]
    refine hQ1 _ _ ?_
    simp -implicitDefEqProofs (disch := omega) only [go_sem]
    refine wpM_ret ?_
    exact fin 0 _ rfl rfl rfl rfl rfl (by omega) (by omega) (fun _ => rfl)
  refine wpM_skip ?_
  simp -implicitDefEqProofs (disch := omega) only [go_sem]
  have hn1 : 1 ≤ n := by
    simp only [Bool.or_eq_false_iff, decide_eq_false_iff_not] at h; omega
  have hb0 : 0 < bs.length := by
    rcases Nat.eq_zero_or_pos bs.length with h0 | h0
    · simp [h0] at h
    · exact h0
  refine wpM_seq ?_
  refine wpM_regionK [0, 1, 5] rfl ?_; intro Q1 hQ1
  simp -implicitDefEqProofs (disch := omega) only [go_sem]
  refine hQ1 _ _ ?_
  simp -implicitDefEqProofs (disch := omega) only [go_sem]
  refine wpM_seq ?_
  refine wpM_seq ?_
  refine wpM_regionK [0, 1, 5, 36] rfl ?_; intro Q1 hQ1
  simp -implicitDefEqProofs (disch := omega) only [go_sem]
  refine hQ1 _ _ ?_
  simp -implicitDefEqProofs (disch := omega) only [go_sem]
  refine wpM_condK ?_
  simp -implicitDefEqProofs (disch := omega) only [go_sem]
  refine ⟨fun h2 => ?_, fun h2 => ?_⟩
  · have b0 := hbs.get q.toNat
    refine wpM_seq ?_
    refine wpM_regionK [4] rfl ?_; intro Q1 hQ1
    simp -implicitDefEqProofs (disch := omega) only [go_sem]
    refine hQ1 _ _ ?_
    simp -implicitDefEqProofs (disch := omega) only [go_sem]
    refine wpM_ret ?_
    exact fin _ _ rfl rfl rfl rfl rfl (Int.tmod_nonneg _ (by omega)) (fun _ => Int.tmod_lt_of_pos _ (by omega)) (by omega)
  refine wpM_skip ?_
  simp -implicitDefEqProofs (disch := omega) only [go_sem]
  have tm := fun (a : Int) (ha : 0 ≤ a) => (⟨Int.tmod_nonneg _ ha, Int.tmod_lt_of_pos a (show (0 : Int) < bs.length by omega)⟩ : 0 ≤ a.tmod bs.length ∧ a.tmod bs.length < bs.length)
  have tm1 := tm q hq0
  have tm2 := tm (q * 7 + 3) (by omega)
  have b1 := hbs.get (q.tmod bs.length).toNat
  have b2 := hbs.get ((q * 7 + 3).tmod bs.length).toNat
  have d1 : 0 ≤ q.tdiv bs.length := Int.tdiv_nonneg hq0 (by omega)
  have d2 : q.tdiv bs.length ≤ q := Int.tdiv_le_self _ hq0
  refine wpM_seq ?_
  refine wpM_keep [1, 6] (wpM_drawn mixed 0 1 [id] #[⟨[0], [], [], [], false⟩, ⟨[47], [], [], [], false⟩, ⟨[48], [], [], [], false⟩, ⟨[49], [0], [], [], false⟩, ⟨[5], [], [], [], false⟩, ⟨[0], [], [], [], false⟩, ⟨[52], [], [], [], false⟩, ⟨[53], [], [], [], false⟩, ⟨[54], [0], [], [], false⟩, ⟨[55], [], [], [], false⟩, ⟨[51, 56], [], [], [], false⟩, ⟨[50, 57], [], [], [], false⟩, ⟨[58], [], [], [], false⟩, ⟨[59], [], [], [], false⟩, ⟨[60], [], [], [], false⟩, ⟨[0], [], [], [], false⟩, ⟨[62], [], [], [], false⟩, ⟨[63], [], [], [], false⟩, ⟨[64], [0], [], [], false⟩, ⟨[5], [], [], [], false⟩, ⟨[66], [], [], [], false⟩, ⟨[67], [], [], [], false⟩, ⟨[0], [], [], [], false⟩, ⟨[69], [], [], [], false⟩, ⟨[70], [], [], [], false⟩, ⟨[71], [0], [], [], false⟩, ⟨[72], [], [], [], false⟩, ⟨[68, 73], [], [], [], false⟩, ⟨[65, 74], [], [], [], false⟩, ⟨[75], [], [], [], false⟩, ⟨[76], [], [], [], false⟩, ⟨[77], [], [], [], false⟩, ⟨[61, 78], [], [], [], false⟩, ⟨[5], [], [], [], false⟩, ⟨[80], [], [], [], false⟩, ⟨[79, 81], [], [], [], false⟩, ⟨[5], [], [], [], false⟩, ⟨[0], [], [], [], false⟩, ⟨[84], [], [], [], false⟩, ⟨[85], [], [], [], false⟩, ⟨[86], [0], [], [], false⟩, ⟨[87], [], [], [], false⟩, ⟨[83, 88], [], [], [], false⟩, ⟨[89], [], [], [], false⟩, ⟨[82, 90], [], [], [], false⟩, ⟨[91], [], [], [], false⟩] [0, 1, 2, 3, 4, 5, 6, 7, 8, 9, 10, 11, 12, 13, 14, 15, 16, 17, 18, 19, 20, 21, 22, 23, 24, 25, 26, 27, 28, 29, 30, 31, 32, 33, 34, 35, 36, 37, 38, 39, 40, 41, 42, 43, 44, 45] [[], [0], [0, 1], [0, 1, 2], [], [], [5], [5, 6], [5, 6, 7], [5, 6, 7, 8], [4, 5, 6, 7, 8, 9], [0, 1, 2, 3, 4, 5, 6, 7, 8, 9, 10], [0, 1, 2, 3, 4, 5, 6, 7, 8, 9, 10, 11], [0, 1, 2, 3, 4, 5, 6, 7, 8, 9, 10, 11, 12], [0, 1, 2, 3, 4, 5, 6, 7, 8, 9, 10, 11, 12, 13], [], [15], [15, 16], [15, 16, 17], [], [19], [19, 20], [], [22], [22, 23], [22, 23, 24], [22, 23, 24, 25], [19, 20, 21, 22, 23, 24, 25, 26], [15, 16, 17, 18, 19, 20, 21, 22, 23, 24, 25, 26, 27], [15, 16, 17, 18, 19, 20, 21, 22, 23, 24, 25, 26, 27, 28], [15, 16, 17, 18, 19, 20, 21, 22, 23, 24, 25, 26, 27, 28, 29], [15, 16, 17, 18, 19, 20, 21, 22, 23, 24, 25, 26, 27, 28, 29, 30], [0, 1, 2, 3, 4, 5, 6, 7, 8, 9, 10, 11, 12, 13, 14, 15, 16, 17, 18, 19, 20, 21, 22, 23, 24, 25, 26, 27, 28, 29, 30, 31], [], [33], [0, 1, 2, 3, 4, 5, 6, 7, 8, 9, 10, 11, 12, 13, 14, 15, 16, 17, 18, 19, 20, 21, 22, 23, 24, 25, 26, 27, 28, 29, 30, 31, 32, 33, 34], [], [], [37], [37, 38], [37, 38, 39], [37, 38, 39, 40], [36, 37, 38, 39, 40, 41], [36, 37, 38, 39, 40, 41, 42], [0, 1, 2, 3, 4, 5, 6, 7, 8, 9, 10, 11, 12, 13, 14, 15, 16, 17, 18, 19, 20, 21, 22, 23, 24, 25, 26, 27, 28, 29, 30, 31, 32, 33, 34, 35, 36, 37, 38, 39, 40, 41, 42, 43], [0, 1, 2, 3, 4, 5, 6, 7, 8, 9, 10, 11, 12, 13, 14, 15, 16, 17, 18, 19, 20, 21, 22, 23, 24, 25, 26, 27, 28, 29, 30, 31, 32, 33, 34, 35, 36, 37, 38, 39, 40, 41, 42, 43, 44]] 1 rfl (by simp) (by decide +kernel) (by simp) ?_)
  intro O A K hO hA hK
  have o0 := opGet hO 0 _ rfl
  have o1 := opGet hO 1 _ rfl
  have o2 := opGet hO 2 _ rfl
  have o3 := opGet hO 3 _ rfl
  have o4 := opGet hO 4 _ rfl
  have o5 := opGet hO 5 _ rfl
  have o6 := opGet hO 6 _ rfl
  have o7 := opGet hO 7 _ rfl
  have o8 := opGet hO 8 _ rfl
  have o9 := opGet hO 9 _ rfl
  have o10 := opGet hO 10 _ rfl
  have o11 := opGet hO 11 _ rfl
  have o12 := opGet hO 12 _ rfl
  have o13 := opGet hO 13 _ rfl
  have o14 := opGet hO 14 _ rfl
  have o15 := opGet hO 15 _ rfl
  have o16 := opGet hO 16 _ rfl
  have o17 := opGet hO 17 _ rfl
  have o18 := opGet hO 18 _ rfl
  have o19 := opGet hO 19 _ rfl
  have o20 := opGet hO 20 _ rfl
  have o21 := opGet hO 21 _ rfl
  have o22 := opGet hO 22 _ rfl
  have o23 := opGet hO 23 _ rfl
  have o24 := opGet hO 24 _ rfl
  have o25 := opGet hO 25 _ rfl
  have o26 := opGet hO 26 _ rfl
  have o27 := opGet hO 27 _ rfl
  have o28 := opGet hO 28 _ rfl
  have o29 := opGet hO 29 _ rfl
  have o30 := opGet hO 30 _ rfl
  have o31 := opGet hO 31 _ rfl
  have o32 := opGet hO 32 _ rfl
  have o33 := opGet hO 33 _ rfl
  have o34 := opGet hO 34 _ rfl
  have o35 := opGet hO 35 _ rfl
  have o36 := opGet hO 36 _ rfl
  have o37 := opGet hO 37 _ rfl
  have o38 := opGet hO 38 _ rfl
  have o39 := opGet hO 39 _ rfl
  have o40 := opGet hO 40 _ rfl
  have o41 := opGet hO 41 _ rfl
  have o42 := opGet hO 42 _ rfl
  have o43 := opGet hO 43 _ rfl
  have o44 := opGet hO 44 _ rfl
  have o45 := opGet hO 45 _ rfl
  have a0 := opGet hA 0 _ rfl
  have a1 := opGet hA 1 _ rfl
  have a2 := opGet hA 2 _ rfl
  have a3 := opGet hA 3 _ rfl
  have a4 := opGet hA 4 _ rfl
  have a5 := opGet hA 5 _ rfl
  have a6 := opGet hA 6 _ rfl
  have a7 := opGet hA 7 _ rfl
  have a8 := opGet hA 8 _ rfl
  have a9 := opGet hA 9 _ rfl
  have a10 := opGet hA 10 _ rfl
  have a11 := opGet hA 11 _ rfl
  have a12 := opGet hA 12 _ rfl
  have a13 := opGet hA 13 _ rfl
  have a14 := opGet hA 14 _ rfl
  have a15 := opGet hA 15 _ rfl
  have a16 := opGet hA 16 _ rfl
  have a17 := opGet hA 17 _ rfl
  have a18 := opGet hA 18 _ rfl
  have a19 := opGet hA 19 _ rfl
  have a20 := opGet hA 20 _ rfl
  have a21 := opGet hA 21 _ rfl
  have a22 := opGet hA 22 _ rfl
  have a23 := opGet hA 23 _ rfl
  have a24 := opGet hA 24 _ rfl
  have a25 := opGet hA 25 _ rfl
  have a26 := opGet hA 26 _ rfl
  have a27 := opGet hA 27 _ rfl
  have a28 := opGet hA 28 _ rfl
  have a29 := opGet hA 29 _ rfl
  have a30 := opGet hA 30 _ rfl
  have a31 := opGet hA 31 _ rfl
  have a32 := opGet hA 32 _ rfl
  have a33 := opGet hA 33 _ rfl
  have a34 := opGet hA 34 _ rfl
  have a35 := opGet hA 35 _ rfl
  have a36 := opGet hA 36 _ rfl
  have a37 := opGet hA 37 _ rfl
  have a38 := opGet hA 38 _ rfl
  have a39 := opGet hA 39 _ rfl
  have a40 := opGet hA 40 _ rfl
  have a41 := opGet hA 41 _ rfl
  have a42 := opGet hA 42 _ rfl
  have a43 := opGet hA 43 _ rfl
  have a44 := opGet hA 44 _ rfl
  have a45 := opGet hA 45 _ rfl
  clear hO hA
  simp -implicitDefEqProofs (disch := omega) only [go_sem, o0, a0, o1, a1, o2, a2, o3, a3, o4, a4, o5, a5, o6, a6, o7, a7, o8, a8, o9, a9, o10, a10, o11, a11, o12, a12, o13, a13, o14, a14, o15, a15, o16, a16, o17, a17, o18, a18, o19, a19, o20, a20, o21, a21, o22, a22, o23, a23, o24, a24, o25, a25, o26, a26, o27, a27, o28, a28, o29, a29, o30, a30, o31, a31, o32, a32, o33, a33, o34, a34, o35, a35, o36, a36, o37, a37, o38, a38, o39, a39, o40, a40, o41, a41, o42, a42, o43, a43, o44, a44, o45, a45]
  refine hK _ ?_
  simp -implicitDefEqProofs (disch := omega) only [go_sem]
  generalize hx : (↑(bs.getD (q.tmod ↑bs.length).toNat 0) * 131 + ↑(bs.getD ((q * 7 + 3).tmod ↑bs.length).toNat 0) * 1117 + q * 29 + q.tdiv ↑bs.length * 53 : Int) = x
  have hx0 : 0 ≤ x ∧ x ≤ 1099511627776 * 100 := by omega
  have hx1 : 0 ≤ x.tdiv 64 := Int.tdiv_nonneg hx0.1 (by omega)
  have hx2 : x.tdiv 64 ≤ x := Int.tdiv_le_self _ hx0.1
  have hx3 := xor64 x (x.tdiv 64) (by omega) (by omega) (by omega) (by omega)
  refine wpM_seq ?_
  refine wpM_regionK [1, 6] rfl ?_; intro Q1 hQ1
  simp -implicitDefEqProofs (disch := omega) only [go_sem]
  refine hQ1 _ _ ?_
  simp -implicitDefEqProofs (disch := omega) only [go_sem]
  refine wpM_seq ?_
  refine wpM_regionK [4] rfl ?_; intro Q1 hQ1
  simp -implicitDefEqProofs (disch := omega) only [go_sem]
  refine hQ1 _ _ ?_
  simp -implicitDefEqProofs (disch := omega) only [go_sem]
  refine wpM_ret ?_
  exact fin _ _ rfl rfl rfl rfl rfl (Int.tmod_nonneg _ hx3.1) (fun _ => Int.tmod_lt_of_pos _ (by omega)) (fun h => by omega)
def numO (id : Nat) (bs : List Nat) (q : Int) (l : List Int) (_ : List Nat) (o : COut) : Prop :=
  ∃ k : Int, o = { rs := [.int .i64 k], u := [(id, some (rdObj bs (q + 1)))] } ∧ k ∈ l
theorem num_ok (id lid : Nat) (bs : List Nat) (q : Int) (l : List Int) (n : Nat) (hn : l.length = n) (hn0 : 0 < n) (hn1 : n ≤ 1000) (hne : id ≠ lid) (hbs : Bs bs) (hq0 : 0 ≤ q) (hq : q ≤ 1099511627776) :
    CallF Tryd.prog 31 [.ptr id 0, .sl 3 lid 0 n] [(id, rdObj bs q), (lid, .cells 3 (ints l))] 0 (numO id bs q l) := by
  refine callF_of' Tryd.func31 rfl Tryd.ntmps31 (by simp) ?_
  intro f0 B ns Q hB hns hQ
  have hid : id < B := hB id (by simp [hasKey, lk])
  have hlid : lid < B := hB lid (by simp [hasKey, lk, hne])
  obtain rfl : ns = [] := List.eq_nil_of_length_eq_zero hns
  refine wpM_seq ?_
  refine wpM_regionK [0, 1] rfl ?_; intro Q1 hQ1
  simp -implicitDefEqProofs (disch := omega) only [go_sem]
  refine hQ1 _ _ ?_
  simp -implicitDefEqProofs (disch := omega) only [go_sem]
  refine wpM_seq ?_
  refine wpM_regionK [4] rfl ?_; intro Q1 hQ1
  simp -implicitDefEqProofs (disch := omega) only [go_sem]
  refine call_fn (pick_ok id bs q n hbs hq0 hq (by omega)) Tryd.call30 rfl rfl rfl rfl T_ ?_
  rintro out ⟨k, rfl, k1, k2, k3⟩
  simp -implicitDefEqProofs (disch := omega) only [go_sem, hne, Nat.mul_one]
  refine hQ1 _ _ ?_
  simp -implicitDefEqProofs (disch := omega) only [go_sem]
  refine wpM_ret (hQ _ _ (ret0 [(id, some (rdObj bs (q + 1)))] rfl rfl rfl (by rw [Tryd.results31]; rfl) ⟨_, rfl, ?_⟩ ?_ ?_ ?_ ?_))
  · rw [List.getD_eq_getElem?_getD, List.getElem?_eq_getElem (by omega)]; exact List.getElem_mem _
  all_goals simp -implicitDefEqProofs (disch := omega) only [go_sem, hne, rdObj]
theorem u8s_take (l : List Nat) (k : Nat) : (u8s l).take k = u8s (l.take k) := by simp [u8s]
def openO (code : List Nat) (ns : List Nat) (o : COut) : Prop :=
  ∃ j bs, ns = [j] ∧ Bs bs ∧ o = { rs := [.ptr j 0], nw := [(j, rdObj bs 0)] } ∧ bs = code.take 2000
theorem open_ok (code : List Nat) (hc : ∀ x ∈ code, x < 256) (hl : code.length ≤ 1099511627776) :
    CallF Tryd.prog 11 [.rows 5 (u8s code)] [] 1 (openO code) := by
  refine callF_of' Tryd.func11 rfl Tryd.ntmps11 (by simp) ?_
  intro f0 B ns Q hB hns hQ
  obtain ⟨j, rfl⟩ : ∃ j, ns = [j] := by
    match ns, hns with
    | [j], _ => exact ⟨j, rfl⟩
  have hbs : Bs (code.take 2000) := ⟨fun x hx => hc x (List.mem_of_mem_take hx), by simp; omega⟩
  refine wpM_seq ?_
  refine wpM_regionK [0] rfl ?_; intro Q1 hQ1
  simp -implicitDefEqProofs (disch := omega) only [go_sem]
  refine hQ1 _ _ ?_
  simp -implicitDefEqProofs (disch := omega) only [go_sem]
  refine wpM_cut (fun s => s = ⟨[(0, .rows 5 (u8s (code.take 2000)))], [], f0, B, B, []⟩) ?_ ?_
  · refine wpM_seq ?_
    refine wpM_regionK [0, 5] rfl ?_; intro Q1 hQ1
    simp -implicitDefEqProofs (disch := omega) only [go_sem]
    refine hQ1 _ _ ?_
    simp -implicitDefEqProofs (disch := omega) only [go_sem]
    refine wpM_condK ?_
    simp -implicitDefEqProofs (disch := omega) only [go_sem]
    refine ⟨fun h => ?_, fun h => ?_⟩
    · refine wpM_regionK [0] rfl ?_; intro Q1 hQ1
      simp -implicitDefEqProofs (disch := omega) only [go_sem, u8s_take]
      refine hQ1 _ _ ?_
      simp -implicitDefEqProofs (disch := omega) only [go_sem]
      refine .of rfl ?_ ?_ ?_ rfl rfl (Nat.le_refl _) rfl <;> simp -implicitDefEqProofs (disch := omega) only [go_sem, u8s_take, Int.reduceToNat]
    · refine wpM_skip ?_
      simp -implicitDefEqProofs (disch := omega) only [go_sem]
      have e : code.take 2000 = code := List.take_of_length_le (by omega)
      rw [e]
      refine .of rfl ?_ ?_ ?_ rfl rfl (Nat.le_refl _) rfl <;> simp -implicitDefEqProofs (disch := omega) only [go_sem]
  rintro s' rfl
  refine wpM_seq ?_
  refine wpM_regionK [2] rfl ?_; intro Q1 hQ1
  simp -implicitDefEqProofs (disch := omega) only [go_sem]
  refine hQ1 _ _ ?_
  simp -implicitDefEqProofs (disch := omega) only [go_sem]
  refine wpM_ret (hQ _ _ (retK [B] [] [(j, rdObj (code.take 2000) 0)] rfl rfl rfl (by rw [Tryd.results11]; rfl) ?_ ⟨j, _, rfl, hbs, rfl, rfl⟩ ?_ ?_ ?_ ?_ ?_ ?_))
  all_goals simp -implicitDefEqProofs (disch := omega) only [go_sem, rdObj, List.nodup_cons, List.nodup_nil]
end Go.Proofs.YtnmfmeehmieifaaDoor
namespace Go.Proofs.YtnmfmeehmieifaaDoor
open Go Sg
set_option maxRecDepth 100000
set_option linter.unusedSectionVars false
class Tab extends Glob where
  pw : List Int
  hlen : pw.length = 20
  tab0 : tab 0 = some (pw.map (.int .u64))
variable [Tab]
end Go.Proofs.YtnmfmeehmieifaaDoor
namespace Go.Proofs.YtnmfmeehmieifaaDoor
open Go Sg Go.Shelf Go.RowKit
set_option maxRecDepth 100000
set_option linter.unusedSimpArgs false
set_option linter.unusedVariables false
set_option linter.unusedSectionVars false
set_option maxHeartbeats 4000000
def Tryd.laysItoa_ren : Go.Shelf.Ren := ⟨fun | 171 => 23 | 243 => 43 | 246 => 58 | 283 => 66 | 284 => 67 | 285 => 68 | 286 => 69 | 129 => 73 | 317 => 72 | 318 => 74 | 319 => 75 | 320 => 76 | 337 => 77 | 338 => 78 | n => n, fun | 3 => 3 | 9 => 9 | 2 => 2 | 4 => 4 | 171 => 104 | 0 => 0 | 53 => 105 | 37 => 22 | 5 => 5 | 173 => 108 | 212 => 114 | 51 => 115 | 20 => 20 | 213 => 116 | 46 => 117 | 232 => 120 | 233 => 121 | n => n, fun | 17 => 0 | 18 => 2 | 19 => 3 | n => n⟩
theorem Tryd.laysItoa : Go.Proofs.LaysM.n171 Tryd.prog Tryd.laysItoa_ren := {
  mixed := by kernel_rfl
  f129 := Tryd.func73.trans (congrArg some (by kernel_rfl))
  f171 := Tryd.func23.trans (congrArg some (by kernel_rfl))
  f243 := Tryd.func43.trans (congrArg some (by kernel_rfl))
  f246 := Tryd.func58.trans (congrArg some (by kernel_rfl))
  f283 := Tryd.func66.trans (congrArg some (by kernel_rfl))
  f284 := Tryd.func67.trans (congrArg some (by kernel_rfl))
  f285 := Tryd.func68.trans (congrArg some (by kernel_rfl))
  f286 := Tryd.func69.trans (congrArg some (by kernel_rfl))
  f317 := Tryd.func72.trans (congrArg some (by kernel_rfl))
  f318 := Tryd.func74.trans (congrArg some (by kernel_rfl))
  f319 := Tryd.func75.trans (congrArg some (by kernel_rfl))
  f320 := Tryd.func76.trans (congrArg some (by kernel_rfl))
  f337 := Tryd.func77.trans (congrArg some (by kernel_rfl))
  f338 := Tryd.func78.trans (congrArg some (by kernel_rfl))
  t0 := Tryd.underlying0
  a0 := Tryd.isAgg0
  z0 := Tryd.sizeOf0
  v0 := Tryd.zeroValue0
  t2 := Tryd.underlying2
  a2 := Tryd.isAgg2
  z2 := Tryd.sizeOf2
  v2 := Tryd.zeroValue2
  t3 := Tryd.underlying3
  a3 := Tryd.isAgg3
  z3 := Tryd.sizeOf3
  v3 := Tryd.zeroValue3
  t4 := Tryd.underlying4
  a4 := Tryd.isAgg4
  z4 := Tryd.sizeOf4
  v4 := Tryd.zeroValue4
  t5 := Tryd.underlying5
  a5 := Tryd.isAgg5
  z5 := Tryd.sizeOf5
  v5 := Tryd.zeroValue5
  t9 := Tryd.underlying9
  a9 := Tryd.isAgg9
  z9 := Tryd.sizeOf9
  v9 := Tryd.zeroValue9
  t20 := Tryd.underlying20
  a20 := Tryd.isAgg20
  z20 := Tryd.sizeOf20
  v20 := Tryd.zeroValue20
  t37 := Tryd.underlying22
  a37 := Tryd.isAgg22
  z37 := Tryd.sizeOf22
  v37 := Tryd.zeroValue22
  t46 := Tryd.underlying117
  a46 := Tryd.isAgg117
  z46 := Tryd.sizeOf117
  v46 := Tryd.zeroValue117
  t51 := Tryd.underlying115
  a51 := Tryd.isAgg115
  z51 := Tryd.sizeOf115
  v51 := Tryd.zeroValue115
  t53 := Tryd.underlying105
  a53 := Tryd.isAgg105
  z53 := Tryd.sizeOf105
  v53 := Tryd.zeroValue105
  t171 := Tryd.underlying104
  a171 := Tryd.isAgg104
  z171 := Tryd.sizeOf104
  v171 := Tryd.zeroValue104
  t173 := Tryd.underlying108
  a173 := Tryd.isAgg108
  z173 := Tryd.sizeOf108
  v173 := Tryd.zeroValue108
  t212 := Tryd.underlying114
  a212 := Tryd.isAgg114
  z212 := Tryd.sizeOf114
  v212 := Tryd.zeroValue114
  t213 := Tryd.underlying116
  a213 := Tryd.isAgg116
  z213 := Tryd.sizeOf116
  t232 := Tryd.underlying120
  a232 := Tryd.isAgg120
  z232 := Tryd.sizeOf120
  v232 := Tryd.zeroValue120
  t233 := Tryd.underlying121
  a233 := Tryd.isAgg121
  z233 := Tryd.sizeOf121
  v233 := Tryd.zeroValue121
  g17 := by kernel_rfl
  g18 := by kernel_rfl
  g19 := by kernel_rfl
  i0 := by kernel_rfl
  i2 := by kernel_rfl
  i3 := by kernel_rfl
  i4 := by kernel_rfl
  i5 := by kernel_rfl
  i9 := by kernel_rfl
  i20 := by kernel_rfl
  i37 := by kernel_rfl
  i46 := by kernel_rfl
  i51 := by kernel_rfl
  i53 := by kernel_rfl
  i171 := by kernel_rfl
  i173 := by kernel_rfl
  i212 := by kernel_rfl
  i232 := by kernel_rfl
  i233 := by kernel_rfl
  m17 := by kernel_rfl
  m18 := by kernel_rfl
  m19 := by kernel_rfl }
def Tryd.laysJoin_ren : Go.Shelf.Ren := ⟨fun | 156 => 28 | 165 => 46 | 166 => 47 | 169 => 48 | 240 => 59 | 241 => 60 | 276 => 70 | 277 => 71 | n => n, fun | 31 => 56 | 9 => 9 | 3 => 3 | 4 => 4 | 0 => 0 | 20 => 20 | 72 => 78 | 76 => 82 | 70 => 76 | 37 => 22 | 75 => 81 | 127 => 95 | 164 => 110 | 5 => 5 | 80 => 75 | n => n, fun | n => n⟩
theorem Tryd.laysJoin : Go.Proofs.Lays.n156 Tryd.prog Tryd.laysJoin_ren := {
  mixed := by kernel_rfl
  f156 := Tryd.func28.trans (congrArg some (by kernel_rfl))
  f165 := Tryd.func46.trans (congrArg some (by kernel_rfl))
  f166 := Tryd.func47.trans (congrArg some (by kernel_rfl))
  f169 := Tryd.func48.trans (congrArg some (by kernel_rfl))
  f240 := Tryd.func59.trans (congrArg some (by kernel_rfl))
  f241 := Tryd.func60.trans (congrArg some (by kernel_rfl))
  f276 := Tryd.func70.trans (congrArg some (by kernel_rfl))
  f277 := Tryd.func71.trans (congrArg some (by kernel_rfl))
  t0 := Tryd.underlying0
  a0 := Tryd.isAgg0
  z0 := Tryd.sizeOf0
  v0 := Tryd.zeroValue0
  t3 := Tryd.underlying3
  a3 := Tryd.isAgg3
  z3 := Tryd.sizeOf3
  v3 := Tryd.zeroValue3
  t4 := Tryd.underlying4
  a4 := Tryd.isAgg4
  z4 := Tryd.sizeOf4
  v4 := Tryd.zeroValue4
  t9 := Tryd.underlying9
  a9 := Tryd.isAgg9
  z9 := Tryd.sizeOf9
  v9 := Tryd.zeroValue9
  t20 := Tryd.underlying20
  a20 := Tryd.isAgg20
  z20 := Tryd.sizeOf20
  v20 := Tryd.zeroValue20
  t31 := Tryd.underlying56
  a31 := Tryd.isAgg56
  z31 := Tryd.sizeOf56
  v31 := Tryd.zeroValue56
  t37 := Tryd.underlying22
  a37 := Tryd.isAgg22
  z37 := Tryd.sizeOf22
  v37 := Tryd.zeroValue22
  t70 := Tryd.underlying76
  a70 := Tryd.isAgg76
  z70 := Tryd.sizeOf76
  v70 := Tryd.zeroValue76
  t72 := Tryd.underlying78
  a72 := Tryd.isAgg78
  z72 := Tryd.sizeOf78
  v72 := Tryd.zeroValue78
  t75 := Tryd.underlying81
  a75 := Tryd.isAgg81
  z75 := Tryd.sizeOf81
  v75 := Tryd.zeroValue81
  t76 := Tryd.underlying82
  a76 := Tryd.isAgg82
  z76 := Tryd.sizeOf82
  v76 := Tryd.zeroValue82
  t127 := Tryd.underlying95
  a127 := Tryd.isAgg95
  z127 := Tryd.sizeOf95
  v127 := Tryd.zeroValue95
  t164 := Tryd.underlying110
  a164 := Tryd.isAgg110
  z164 := Tryd.sizeOf110
  v164 := Tryd.zeroValue110 }
theorem extraJ : Builder.Extra Tryd.prog Tryd.laysJoin_ren := {
  sizeBuilder := by kernel_rfl
  liesBuilder := by kernel_rfl
  t5 := Tryd.underlying5
  a5 := Tryd.isAgg5
  z5 := Tryd.sizeOf5
  v5 := Tryd.zeroValue5
  infoByte := by kernel_rfl
  cellsByte := by kernel_rfl
  sizeByte := by kernel_rfl
  neB5 := by decide }
class TabK extends Tab where
  pow : pw = Lib.pow10Tab
variable [TabK]
def fmtS (n : Int) : ByteArray := ⟨(Lib.itoa n).toArray⟩
theorem fmtS_size (n : Int) (h0 : -9223372036854775808 ≤ n := by omega) (h1 : n ≤ 9223372036854775807 := by omega) : (fmtS n).size ≤ 24 := by
  have := Lib.itoa_length_le n h0 h1
  simp only [fmtS, ByteArray.size, List.size_toArray]; omega
theorem tab_is {g : Gh} {w : World} (hH : ∀ b o, g.H b = some o → w.heap[b]? = some o) (hg : GlobOk Tryd.prog g) : Lib.TabIs Tryd.prog w "internal/strconv.uint64pow10" .u64 Lib.pow10Tab := by
  have hn : Tryd.prog.globalNamed "internal/strconv.uint64pow10" = some 0 := by kernel_rfl
  obtain ⟨h1, arr, T, fr, h2, h3⟩ := hg 0 _ Tab.tab0
  have h4 := hH _ _ h2
  unfold Lib.TabIs World.var?
  rw [hn]
  simp only [Option.bind_some, h4]
  cases h1 with
  | vptr _ _ _ arr' T' fr' k1 k2 k3 k4 =>
    rw [h2] at k1
    injection k1 with k1
    injection k1 with k1
    subst k1
    congr 1
    have hl : arr.size = Lib.pow10Tab.length := by rw [h3, List.length_map, TabK.pow]
    apply Array.ext
    · simp [hl]
    · intro j hj hj2
      have hj3 : j < Lib.pow10Tab.length := by omega
      have := k4 j (by rw [List.length_map, TabK.pow]; exact hj3)
      simp only [List.getElem_map, TabK.pow, Nat.zero_add] at this
      rw [Array.getD_eq_getD_getElem?, Array.getElem?_eq_getElem hj, Option.getD_some] at this
      generalize arr[j] = v at this
      cases this
      simp
theorem grow_below (w : World) (k : Nat) (os : Array Obj) : Below w.heap.size w (Go.Sort.grow (w.drewN k) os) :=
  ⟨rfl, rfl, rfl, by simp [Go.Sort.grow, World.drewN], fun j hj => by simp [Go.Sort.grow, World.drewN, Array.getElem?_append_left hj]⟩
theorem itoa_ok (n : Int) (h0 : -1000000 ≤ n) (h1 : n ≤ 1000000) : PureF Tryd.prog 23 [.int .i64 n] [.str (fmtS n)] := by
  refine pureF_of_calls fun g w vals hv hH hg => ?_
  obtain ⟨v, rfl⟩ : ∃ v, vals = #[v] := by
    have := hv.1
    match vals, this with
    | ⟨[v]⟩, _ => exact ⟨v, rfl⟩
  have hr : R Tryd.prog g (.int .i64 n) v := by simpa using hv.2 0 (by simp)
  cases hr
  refine (Any.strconv_Itoa Tryd.laysItoa n (by omega) (by omega) w (tab_is hH hg)).mono ?_
  rintro e w' ⟨rfl, k, os, rfl⟩
  exact ⟨grow_below w k os, _, rfl, fun g' => .str _⟩
theorem join_ok (l : List ByteArray) (sep : ByteArray) (hn : l.length ≤ 140737488355328) (hl : (Lib.join (l.map (·.data.toList)) sep.data.toList).length ≤ 140737488355328) :
    PureF Tryd.prog 28 [.rows 9 (l.map fun s => [.str s]), .str sep] [.str ⟨(Lib.join (l.map (·.data.toList)) sep.data.toList).toArray⟩] := by
  refine pureF_of_calls fun g w vals hv hH hg => ?_
  obtain ⟨v, u, rfl⟩ : ∃ v u, vals = #[v, u] := by
    have := hv.1
    match vals, this with
    | ⟨[v, u]⟩, _ => exact ⟨v, u, rfl⟩
  have h0 : R Tryd.prog g (.rows 9 (l.map fun s => [.str s])) v := by simpa using hv.2 0 (by simp)
  have h1 : R Tryd.prog g (.str sep) u := by simpa using hv.2 1 (by simp)
  cases h1
  generalize hr : (l.map fun s => [PV.str s]) = r at h0
  cases h0 with
  | rows0 _ a cap =>
    have : l = [] := by simpa using hr
    subst this
    refine (Any.strings_Join_none Tryd.laysJoin extraJ a cap sep w).mono ?_
    rintro e w' ⟨rfl, rfl⟩
    exact ⟨Below.refl _ _, _, rfl, fun g' => .str _⟩
  | rows _ _ b off cap arr T fr hb hes hc hnn hlen hp hce hrr =>
    subst hr
    have hh := hH _ _ hb
    have hsz : b < w.heap.size := (Array.getElem?_eq_some_iff.1 hh).1
    have h1 : Tryd.prog.cellsOf 9 = 1 := cellsOf9
    rw [List.length_map] at hc ⊢
    refine (Any.strings_Join Tryd.laysJoin extraJ b off cap l sep w (fun j x hx => ?_) hsz hn hc hl).mono ?_
    · obtain ⟨hj, hx⟩ := List.getElem?_eq_some_iff.1 hx
      have := hrr j 0 (by simpa using hj) (by simp)
      simp only [List.getElem_map, List.getElem_cons_zero, h1, Nat.mul_one, Nat.add_zero] at this
      unfold World.cell?
      simp only [hh]
      have hj2 : off + j < arr.size := by rw [List.length_map, h1] at hnn; omega
      rw [Array.getD_eq_getD_getElem?, Array.getElem?_eq_getElem hj2, Option.getD_some] at this
      simp [hj2]
      generalize arr[off + j] = z at this
      cases this
      rw [hx]
    · rintro e w' ⟨rfl, hw⟩
      exact ⟨hw, _, rfl, fun g' => .str _⟩
end Go.Proofs.YtnmfmeehmieifaaDoor
namespace Go.Proofs.YtnmfmeehmieifaaDoor
open Go Sg
set_option linter.unusedSectionVars false
variable [Glob]
set_option maxRecDepth 100000
set_option linter.unusedSimpArgs false
set_option linter.unusedVariables false
set_option maxHeartbeats 4000000
def cut (n : Int) : Int := max (-1000000) (min 1000000 n)
theorem l1Max_ok (a b : Int) : PureF Tryd.prog 61 [.int .i64 a, .int .i64 b] [.int .i64 (max a b)] := by
  refine pureF_of Tryd.func61 rfl Tryd.ntmps61 (by simp) T_ ?_
  intro f0 B Q hQ
  refine g_ [0,1] ?_
  refine g_ [0,1,7] ?_
  refine c_ (fun hc0 => ?_) fun hc0 => ?_
  ·
    refine g_ [4] ?_
    refine e_ Tryd.results61 ?_
    first
    | exact True.intro
    | omega
  refine g_ [4] ?_
  refine e_ Tryd.results61 ?_
  first
  | exact True.intro
  | omega
theorem l1Min_ok (a b : Int) : PureF Tryd.prog 62 [.int .i64 a, .int .i64 b] [.int .i64 (min a b)] := by
  refine pureF_of Tryd.func62 rfl Tryd.ntmps62 (by simp) T_ ?_
  intro f0 B Q hQ
  refine g_ [0,1] ?_
  refine g_ [0,1,7] ?_
  refine c_ (fun hc0 => ?_) fun hc0 => ?_
  ·
    refine g_ [4] ?_
    refine e_ Tryd.results62 ?_
    first
    | exact True.intro
    | omega
  refine g_ [4] ?_
  refine e_ Tryd.results62 ?_
  first
  | exact True.intro
  | omega
theorem cut_ok (n : Int) : PureF Tryd.prog 54 [.int .i64 n] [.int .i64 (cut n)] := by
  refine pureF_of Tryd.func54 rfl Tryd.ntmps54 (by simp) T_ ?_
  intro f0 B Q hQ
  refine g_ [0] ?_
  refine n_ ?_
  refine wpM_regionK [2] rfl fun Q1 hQ1 => ?_
  refine S_ ?_
  refine cp_ (l1Min_ok 1000000 n) Tryd.call62 ?_
  refine cp_ (l1Max_ok (-1000000) (min 1000000 n)) Tryd.call61 ?_
  refine hQ1 _ _ (S_ ?_);clear hQ1 Q1
  refine e_ Tryd.results54 ?_
  first
  | exact True.intro
  | rfl
structure AD where
  kind : Int
  at' : Int
  deriving DecidableEq, Inhabited
def AD.cs (a : AD) : List PV := [.int .i64 a.kind, .int .i64 a.at']
@[go_sem] theorem AD.cs_eq (a : AD) : a.cs = [.int .i64 a.kind, .int .i64 a.at'] := rfl
theorem eqAD (d : Nat) (a b c e : Int) : eqA Tryd.prog (d + 2) 39 (.agg [.int .i64 a, .int .i64 b]) (.agg [.int .i64 c, .int .i64 e]) = some (a == c && b == e) := by
  unfold eqA
  simp only [Tryd.underlying39, Tryd.stoodInHeld39, Bool.false_eq_true, if_false, eqFs]
  simp -implicitDefEqProofs (disch := omega) only [go_sem, eqA, eqFs, ne_eq, String.reduceEq]
  cases h1 : a == c <;> cases h2 : b == e <;> simp [eqA, Tryd.underlying3, h1, h2]
@[go_sem] theorem neqAD (x y : Operand) (a b c e : Int) : binOpA Tryd.prog .neq 39 x y (.agg [.int .i64 a, .int .i64 b]) (.agg [.int .i64 c, .int .i64 e]) = some (.bool (!(a == c && b == e))) := by
  simp only [binOpA, Tryd.eqGuardType39]
  rw [eqAD 9998]; rfl
@[go_sem] theorem eqlAD (x y : Operand) (a b c e : Int) : binOpA Tryd.prog .eql 39 x y (.agg [.int .i64 a, .int .i64 b]) (.agg [.int .i64 c, .int .i64 e]) = some (.bool (a == c && b == e)) := by
  simp only [binOpA, Tryd.eqGuardType39]
  rw [eqAD 9998]; rfl
def AD.ok (a : AD) : Bool := decide (a.kind ≥ 1) && decide (a.kind ≤ 3) && decide (a.at' ≥ 0) && decide (a.at' < 6)
theorem addrOk_ok (a : AD) : PureF Tryd.prog 21 [.agg a.cs] [.bool a.ok] := by
  refine pureF_of Tryd.func21 rfl Tryd.ntmps21 (by simp) T_ ?_
  intro f0 B Q hQ
  refine g_ [1] ?_
  refine gD_ [2] ?_
  refine e_ Tryd.results21 ?_
  first
  | exact True.intro
  | rfl
inductive Ex where
  | mk (kind n : Int) (a : AD) (kids : List Ex)
  deriving Inhabited
def Ex.kind : Ex → Int | .mk k _ _ _ => k
def Ex.n : Ex → Int | .mk _ n _ _ => n
def Ex.a : Ex → AD | .mk _ _ a _ => a
def Ex.kids : Ex → List Ex | .mk _ _ _ l => l
mutual
def Ex.cs : Ex → List PV
  | .mk k n a l => [.int .i64 k, .int .i64 n, .int .i64 a.kind, .int .i64 a.at', .rows 42 (Ex.csL l)]
def Ex.csL : List Ex → List (List PV)
  | [] => []
  | e :: l => e.cs :: Ex.csL l
end
@[go_sem] theorem Ex.cs_eq (e : Ex) : e.cs = [.int .i64 e.kind, .int .i64 e.n, .int .i64 e.a.kind, .int .i64 e.a.at', .rows 42 (Ex.csL e.kids)] := by cases e; simp only [Ex.cs, Ex.kind, Ex.n, Ex.a, Ex.kids]
theorem Ex.csL_map (l : List Ex) : Ex.csL l = l.map Ex.cs := by
  induction l with
  | nil => rfl
  | cons e l ih => simp [Ex.csL, ih]
@[go_sem] theorem Ex.csL_len (l : List Ex) : (Ex.csL l).length = l.length := by simp [Ex.csL_map]
@[go_sem] theorem Ex.csL_get (l : List Ex) (k : Nat) (h : k < l.length) : (Ex.csL l).getD k [] = (l.getD k default).cs := by simp [Ex.csL_map, List.getD, h]
def kidsN (k : Int) : Int := if k == 1 || k == 2 then 0 else if k == 10 then 1 else if decide (k ≥ 3) && decide (k ≤ 9) then 2 else -1
theorem l3Kids_ok (k : Int) : PureF Tryd.prog 51 [.int .i64 k] [.int .i64 (kidsN k)] := by
  refine pureF_of Tryd.func51 rfl Tryd.ntmps51 (by simp) T_ ?_
  intro f0 B Q hQ
  refine g_ [0] ?_
  refine gD_ [0,3] ?_
  refine c_ (fun hc0 => ?_) fun hc0 => ?_
  ·
    refine g_ [2] ?_
    refine e_ Tryd.results51 ?_
    first
    | exact True.intro
    | simp [kidsN, *]
  refine g_ [0,10] ?_
  refine c_ (fun hc1 => ?_) fun hc1 => ?_
  ·
    refine g_ [2] ?_
    refine e_ Tryd.results51 ?_
    first
    | exact True.intro
    | simp [kidsN, *]
  refine gD_ [13] ?_
  refine c_ (fun hc2 => ?_) fun hc2 => ?_
  ·
    refine g_ [2] ?_
    refine e_ Tryd.results51 ?_
    first
    | exact True.intro
    | simp [kidsN, *]
  refine g_ [2] ?_
  refine e_ Tryd.results51 ?_
  first
  | exact True.intro
  | simp [kidsN, *]
end Go.Proofs.YtnmfmeehmieifaaDoor
namespace Go.Proofs.YtnmfmeehmieifaaDoor
open Go Sg
set_option linter.unusedSectionVars false
variable [Glob]
set_option maxRecDepth 100000
set_option linter.unusedSimpArgs false
set_option linter.unusedVariables false
set_option maxHeartbeats 4000000
mutual
def Ex.sz : Ex → Nat | .mk _ _ _ l => 1 + Ex.szL l
def Ex.szL : List Ex → Nat | [] => 0 | e :: l => e.sz + Ex.szL l
end
theorem Ex.sz_eq (e : Ex) : e.sz = 1 + Ex.szL e.kids := by cases e; simp only [Ex.sz, Ex.kids]
theorem Ex.sz_pos (e : Ex) : 0 < e.sz := by rw [Ex.sz_eq]; omega
theorem Ex.len_szL (l : List Ex) : l.length ≤ Ex.szL l := by
  induction l with
  | nil => simp
  | cons e l ih => simp only [List.length_cons, Ex.szL]; have := e.sz_pos; omega
theorem Ex.get_szL (l : List Ex) (k : Nat) (h : k < l.length) : (l.getD k default).sz ≤ Ex.szL l := by
  induction l generalizing k with
  | nil => simp at h
  | cons e l ih =>
    simp only [Ex.szL]
    cases k with
    | zero => simp
    | succ k =>
      have := ih k (by simpa using h)
      simp only [List.getD_cons_succ]; omega
theorem Ex.kid_sz {e : Ex} {k : Nat} (h : k < e.kids.length) : (e.kids.getD k default).sz < e.sz := by
  have := Ex.get_szL e.kids k h
  rw [Ex.sz_eq e]; omega
theorem Ex.kids_len (e : Ex) : e.kids.length < e.sz := by
  have := Ex.len_szL e.kids
  rw [Ex.sz_eq e]; omega
def formD : Nat → Ex → Bool
  | 0, _ => false
  | d + 1, e => if kidsN e.kind != (e.kids.length : Int) then false
    else if (e.kind == 1 && cut e.n != e.n) || (e.kind != 1 && e.n != 0) then false
    else if (e.kind == 2 && !e.a.ok) || (e.kind != 2 && !(e.a.kind == 0 && e.a.at' == 0)) then false
    else e.kids.all (formD d)
theorem take_all {α : Type} [Inhabited α] (p : α → Bool) (l : List α) (i : Nat) (h : i < l.length) : (l.take (i + 1)).all p = ((l.take i).all p && p (l.getD i default)) := by
  rw [List.take_succ_eq_append_getElem h, List.all_append]
  simp [List.getD, h]
theorem all_no {α : Type} [Inhabited α] {p : α → Bool} {l : List α} {i : Nat} (h : i < l.length) (hp : (!p (l.getD i default)) = true) : l.all p = false := by
  rw [List.all_eq_false]
  refine ⟨l.getD i default, ?_, by simpa using hp⟩
  rw [List.getD_eq_getElem?_getD, List.getElem?_eq_getElem h]; exact List.getElem_mem h
theorem all_yes {α : Type} [Inhabited α] {p : α → Bool} {l : List α} {i n : Nat} (hi : i + n = l.length) (h : ¬ (i : Int) < (l.length : Int)) (hp : (l.take i).all p = true) : l.all p = true := by
  have : i = l.length := by omega
  rwa [List.take_of_length_le (by omega)] at hp
theorem l3Form_ok (d : Nat) : ∀ (e : Ex) (deep : Int), deep.toNat = d → deep ≤ 1000000 → e.sz ≤ 1099511627776 → PureF Tryd.prog 36 [.agg e.cs, .int .i64 deep] [.bool (formD d e)] := by
  induction d with
  | zero =>
    intro e deep hd hdl hs
    have hlen := e.kids_len
    refine pureF_of Tryd.func36 rfl Tryd.ntmps36 (by simp) T_ ?_
    intro f0 B Q hQ
    have hlt : deep < 1 := by omega
    refine g_ [1,2] ?_
    refine n_ ?_
    refine dr_ mixed [1,2,16] 0 1 [B] [⟨[1],[],[],[],false⟩,⟨[6],[],[],[],false⟩,⟨[7],[],[],[],false⟩,⟨[2,8],[],[],[],false⟩,⟨[8,9],[0],[],[],false⟩,⟨[8,10],[],[],[],true⟩,⟨[2,8],[],[],[],false⟩,⟨[8,12],[0],[],[],false⟩,⟨[8,13],[],[],[],false⟩,⟨[8,11,14],[],[],[],false⟩,⟨[8,15],[],[],[],false⟩] [0,1,2,3,4,6,7,8,5,9,10] [[],[0],[0,1],[0,1,2],[0,1,2,3],[0,1,2,3,4],[0,1,2],[0,1,2,6],[0,1,2,6,7],[0,1,2,3,4,5,6,7,8],[0,1,2,3,4,5,6,7,8,9]] 1 ?_
    intro O A K hO hA hK;simp only [atL_cons,atL_nil,Nat.reduceAdd,Nat.zero_add] at hO hA
    refine SE_ ?_
    first | refine lg_ (fun hb => l3Kids_ok e.kind) Tryd.call51 ?_ | refine lpE_ (l3Kids_ok e.kind) Tryd.call51 ?_
    refine hK _ (S_ ?_);clear hK K hO hA O A
    refine c_ (fun hc0 => ?_) fun hc0 => ?_
    ·
      refine g_ [4] ?_
      refine e_ Tryd.results36 ?_
      first
      | exact True.intro
      | rfl
    simp [hlt] at hc0
  | succ d ih =>
    intro e deep hd hdl hs
    have hlen := e.kids_len
    refine pureF_of Tryd.func36 rfl Tryd.ntmps36 (by simp) T_ ?_
    intro f0 B Q hQ
    have hlt : decide (deep < 1) = false := by simp; omega
    refine g_ [1,2] ?_
    refine n_ ?_
    refine dr_ mixed [1,2,16] 0 1 [B] [⟨[1],[],[],[],false⟩,⟨[6],[],[],[],false⟩,⟨[7],[],[],[],false⟩,⟨[2,8],[],[],[],false⟩,⟨[8,9],[0],[],[],false⟩,⟨[8,10],[],[],[],true⟩,⟨[2,8],[],[],[],false⟩,⟨[8,12],[0],[],[],false⟩,⟨[8,13],[],[],[],false⟩,⟨[8,11,14],[],[],[],false⟩,⟨[8,15],[],[],[],false⟩] [0,1,2,3,4,6,7,8,5,9,10] [[],[0],[0,1],[0,1,2],[0,1,2,3],[0,1,2,3,4],[0,1,2],[0,1,2,6],[0,1,2,6,7],[0,1,2,3,4,5,6,7,8],[0,1,2,3,4,5,6,7,8,9]] 1 ?_
    intro O A K hO hA hK;simp only [atL_cons,atL_nil,Nat.reduceAdd,Nat.zero_add] at hO hA
    refine SE_ ?_
    first | refine lg_ (fun hb => l3Kids_ok e.kind) Tryd.call51 ?_ | refine lpE_ (l3Kids_ok e.kind) Tryd.call51 ?_
    refine hK _ (S_ ?_);clear hK K hO hA O A
    refine c_ (fun hc0 => ?_) fun hc0 => ?_
    ·
      rw [hlt, Bool.false_or] at hc0
      refine g_ [4] ?_
      refine e_ Tryd.results36 ?_
      first
      | exact True.intro
      | clear ih hQ
        simp only [formD, *, ↓reduceIte, Bool.false_eq_true] <;> first | exact (all_no hi2 hc4).symm | exact (all_yes hi hc3 hall).symm
    rw [hlt, Bool.false_or] at hc0
    refine n_ ?_
    refine dr_ mixed [1,2,37] 0 1 [B] [⟨[2],[],[],[],false⟩,⟨[17],[0],[],[],false⟩,⟨[18],[],[],[],false⟩,⟨[19],[],[],[],false⟩,⟨[2,20],[],[],[],false⟩,⟨[20,21],[0],[],[],false⟩,⟨[20,22],[],[],[],true⟩,⟨[2,20],[],[],[],false⟩,⟨[20,24],[0],[],[],false⟩,⟨[20,23,25],[],[],[],false⟩,⟨[20,26],[],[],[],false⟩,⟨[27],[],[],[],false⟩,⟨[2,28],[],[],[],false⟩,⟨[28,29],[0],[],[],false⟩,⟨[28,30],[],[],[],false⟩,⟨[28,31],[],[],[],false⟩,⟨[2,32],[],[],[],false⟩,⟨[32,33],[0],[],[],false⟩,⟨[32,34],[],[],[],false⟩,⟨[28,32,35],[],[],[],false⟩,⟨[28,36],[],[],[],false⟩] [0,1,2,3,4,5,7,8,6,9,10,11,12,13,14,15,16,17,18,19,20] [[],[0],[0,1],[0,1,2],[0,1,2,3],[0,1,2,3,4],[0,1,2,3,4,5],[0,1,2,3],[0,1,2,3,7],[0,1,2,3,4,5,6,7,8],[0,1,2,3,4,5,6,7,8,9],[0,1,2,3,4,5,6,7,8,9,10],[0,1,2,3,4,5,6,7,8,9,10,11],[0,1,2,3,4,5,6,7,8,9,10,11,12],[0,1,2,3,4,5,6,7,8,9,10,11,12,13],[0,1,2,3,4,5,6,7,8,9,10,11,12,13,14],[0,1,2,3,4,5,6,7,8,9,10,11,12,13,14,15],[0,1,2,3,4,5,6,7,8,9,10,11,12,13,14,15,16],[0,1,2,3,4,5,6,7,8,9,10,11,12,13,14,15,16,17],[0,1,2,3,4,5,6,7,8,9,10,11,12,13,14,15,16,17,18],[0,1,2,3,4,5,6,7,8,9,10,11,12,13,14,15,16,17,18,19]] 1 ?_
    intro O A K hO hA hK;simp only [atL_cons,atL_nil,Nat.reduceAdd,Nat.zero_add] at hO hA
    refine SE_ ?_
    first | refine lg_ (fun hb => cut_ok e.n) Tryd.call54 ?_ | refine lpE_ (cut_ok e.n) Tryd.call54 ?_
    refine hK _ (S_ ?_);clear hK K hO hA O A
    refine c_ (fun hc1 => ?_) fun hc1 => ?_
    ·
      refine g_ [4] ?_
      refine e_ Tryd.results36 ?_
      first
      | exact True.intro
      | clear ih hQ
        simp only [formD, *, ↓reduceIte, Bool.false_eq_true] <;> first | exact (all_no hi2 hc4).symm | exact (all_yes hi hc3 hall).symm
    refine n_ ?_
    refine wpM_regionK [1,2,57] rfl fun Q1 hQ1 => ?_
    refine SD_ ?_
    first | refine cg_ (fun hb => addrOk_ok e.a) Tryd.call21 ?_ | refine cpD_ (addrOk_ok e.a) Tryd.call21 ?_
    refine hQ1 _ _ (S_ ?_);clear hQ1 Q1
    refine c_ (fun hc2 => ?_) fun hc2 => ?_
    ·
      refine g_ [4] ?_
      refine e_ Tryd.results36 ?_
      first
      | exact True.intro
      | clear ih hQ
        simp only [formD, *, ↓reduceIte, Bool.false_eq_true] <;> first | exact (all_no hi2 hc4).symm | exact (all_yes hi hc3 hall).symm
    refine g_ [1,2,5] ?_
    refine n_ ?_
    refine wpM_loopS (fun s n s' => ∃ i M : Nat, i + n = e.kids.length ∧ s.M ≤ M ∧ (e.kids.take i).all (formD d) = true ∧ s' = { s with env := setE 5 (.int .i64 i) s.env, M := M }) (e.kids.length) ?_ ?_
    ·
      refine .of ⟨0, _, by omega, Nat.le_refl _, by simp, rfl⟩ ?_ ?_ ?_ rfl rfl (Nat.le_refl _) rfl <;> exact L_
    rintro n s' ⟨i, M, hi, hM, hall, rfl⟩
    try refine S_ ?_
    refine g_ [1,2,5,62] ?_
    refine c_ (fun hc3 => ?_) fun hc3 => ?_
    ·
      have hi2 : i < e.kids.length := by omega
      refine n_ ?_
      refine wpM_regionK [1,2,5,73] rfl fun Q1 hQ1 => ?_
      refine S_ ?_
      refine cp_ (ih (e.kids.getD i default) (deep - 1) (by omega) (by omega) (by have := Ex.kid_sz hi2; omega)) Tryd.call36 ?_
      refine hQ1 _ _ (S_ ?_);clear hQ1 Q1
      refine c_ (fun hc4 => ?_) fun hc4 => ?_
      ·
        refine g_ [4] ?_
        refine e_ Tryd.results36 ?_
        first
        | exact True.intro
        | clear ih hQ
          simp only [formD, *, ↓reduceIte, Bool.false_eq_true] <;> first | exact (all_no hi2 hc4).symm | exact (all_yes hi hc3 hall).symm
      refine g_ [1,2,5] ?_
      refine .of ⟨n - 1, by omega, i + 1, M, by omega, hM, ?_, rfl⟩ ?_ ?_ ?_ rfl rfl (Nat.le_refl _) rfl
      · rw [take_all _ _ _ hi2, hall]; simp at hc4; simp [hc4]
      all_goals exact L_
    refine g_ [4] ?_
    refine e_ Tryd.results36 ?_
    first
    | exact True.intro
    | clear ih hQ
      simp only [formD, *, ↓reduceIte, Bool.false_eq_true] <;> first | exact (all_no hi2 hc4).symm | exact (all_yes hi hc3 hall).symm
def manyD : Nat → Ex → Nat
  | 0, _ => 1
  | d + 1, e => 1 + (e.kids.map (manyD d)).sum
theorem manyD_le (d : Nat) : ∀ e : Ex, manyD d e ≤ e.sz := by
  induction d with
  | zero => intro e; exact e.sz_pos
  | succ d ih =>
    intro e
    have h : ∀ l : List Ex, (l.map (manyD d)).sum ≤ Ex.szL l := by
      intro l
      induction l with
      | nil => simp [Ex.szL]
      | cons x l ihl => simp only [List.map_cons, List.sum_cons, Ex.szL]; have := ih x; omega
    have := h e.kids
    rw [Ex.sz_eq]; simp only [manyD]; omega
theorem take_sum {α : Type} [Inhabited α] (f : α → Nat) (l : List α) (i : Nat) (h : i < l.length) : ((l.take (i + 1)).map f).sum = ((l.take i).map f).sum + f (l.getD i default) := by
  rw [List.take_succ_eq_append_getElem h, List.map_append, List.sum_append]
  simp [List.getD, h]
theorem take_sum_le {α : Type} (f : α → Nat) (l : List α) (i : Nat) : ((l.take i).map f).sum ≤ (l.map f).sum := by
  have : (l.map f).sum = ((l.take i).map f).sum + ((l.drop i).map f).sum := by rw [← List.sum_append, ← List.map_append, List.take_append_drop]
  omega
theorem l3Many_ok (d : Nat) : ∀ (e : Ex) (deep : Int), deep.toNat = d → deep ≤ 1000000 → e.sz ≤ 1099511627776 → PureF Tryd.prog 37 [.agg e.cs, .int .i64 deep] [.int .i64 (manyD d e : Nat)] := by
  induction d with
  | zero =>
    intro e deep hd hdl hs
    have hlen := e.kids_len
    refine pureF_of Tryd.func37 rfl Tryd.ntmps37 (by simp) T_ ?_
    intro f0 B Q hQ
    have hlt : decide (deep > 0) = false := by simp; omega
    refine g_ [1,2] ?_
    refine g_ [1,2,5] ?_
    refine g_ [1,2,5,6] ?_
    refine n_ ?_
    refine wpM_loopS (fun s n s' => s' = s) (0) ?_ ?_
    ·
      exact .here rfl
    rintro n s' rfl
    try refine S_ ?_
    refine gD_ [1,2,5,6,15] ?_
    refine c_ (fun hc0 => ?_) fun hc0 => ?_
    · simp [hlt] at hc0
    refine g_ [4] ?_
    refine e_ Tryd.results37 ?_
    first
    | exact True.intro
    | rfl
  | succ d ih =>
    intro e deep hd hdl hs
    have hlen := e.kids_len
    refine pureF_of Tryd.func37 rfl Tryd.ntmps37 (by simp) T_ ?_
    intro f0 B Q hQ
    have hlt : decide (deep > 0) = true := by simp; omega
    have hmx := manyD_le (d + 1) e
    refine g_ [1,2] ?_
    refine g_ [1,2,5] ?_
    refine g_ [1,2,5,6] ?_
    refine n_ ?_
    refine wpM_loopS (fun s n s' => ∃ i M : Nat, i + n = e.kids.length ∧ s.M ≤ M ∧ s' = { s with env := setE 6 (.int .i64 (i : Nat)) (setE 5 (.int .i64 ((1 + ((e.kids.take i).map (manyD d)).sum : Nat) : Int)) s.env), M := M }) (e.kids.length) ?_ ?_
    ·
      refine .of ⟨0, _, by omega, Nat.le_refl _, rfl⟩ ?_ ?_ ?_ rfl rfl (Nat.le_refl _) rfl <;> exact L_
    rintro n s' ⟨i, M, hi, hM, rfl⟩
    try refine S_ ?_
    refine n_ ?_
    refine wpM_regionK [1,2,5,6,15] rfl fun Q1 hQ1 => ?_
    simp (contextual := true) (maxSteps := 1000000) (implicitDefEqProofs := false) (disch := first | omega | (simp only [decide_eq_true_eq, decide_eq_false_iff_not, Bool.and_eq_true, Bool.or_eq_false_iff, Bool.not_eq_true'] at *; omega)) only [go_sem, hlt, Bool.and_true]
    refine hQ1 _ _ (S_ ?_);clear hQ1 Q1
    refine c_ (fun hc0 => ?_) fun hc0 => ?_
    ·
      have hi2 : i < e.kids.length := by omega
      have hsum := take_sum (manyD d) e.kids i hi2
      have hle := take_sum_le (manyD d) e.kids (i + 1)
      simp only [manyD] at hmx
      rw [hsum] at hle
      refine n_ ?_
      refine wpM_regionK [1,2,5,6] rfl fun Q1 hQ1 => ?_
      refine S_ ?_
      refine cp_ (ih (e.kids.getD i default) (deep - 1) (by omega) (by omega) (by have := Ex.kid_sz hi2; omega)) Tryd.call37 ?_
      refine hQ1 _ _ (S_ ?_);clear hQ1 Q1
      refine g_ [1,2,5,6] ?_
      refine .of ⟨n - 1, by omega, i + 1, M, by omega, hM, rfl⟩ ?_ ?_ ?_ rfl rfl (Nat.le_refl _) rfl
      · simp -implicitDefEqProofs (disch := omega) only [go_sem, PV.int.injEq]
        rw [hsum]
        constructor <;> omega
      all_goals exact L_
    refine g_ [4] ?_
    refine e_ Tryd.results37 ?_
    first
    | exact True.intro
    | have hie : i = e.kids.length := by omega
      simp only [manyD]
      rw [hie, List.take_of_length_le (Nat.le_refl _)]
def Ex.ok (e : Ex) : Bool := formD 6 e && decide (manyD 6 e ≤ 14)
theorem exprOk_ok (e : Ex) (hs : e.sz ≤ 1099511627776) : PureF Tryd.prog 20 [.agg e.cs] [.bool e.ok] := by
  refine pureF_of Tryd.func20 rfl Tryd.ntmps20 (by simp) T_ ?_
  intro f0 B Q hQ
  refine g_ [1] ?_
  refine n_ ?_
  refine wpM_regionK [2] rfl fun Q1 hQ1 => ?_
  refine SD_ ?_
  refine cpD_ (l3Form_ok 6 e 6 rfl (by omega) hs) Tryd.call36 ?_
  first | refine cg_ (fun hb => l3Many_ok 6 e 6 rfl (by omega) hs) Tryd.call37 ?_ | refine cpD_ (l3Many_ok 6 e 6 rfl (by omega) hs) Tryd.call37 ?_
  refine hQ1 _ _ (S_ ?_);clear hQ1 Q1
  refine e_ Tryd.results20 ?_
  first
  | exact True.intro
  | have : decide ((manyD 6 e : Int) ≤ 14) = decide (manyD 6 e ≤ 14) := by simp; omega
    simp only [Ex.ok, this]
end Go.Proofs.YtnmfmeehmieifaaDoor
namespace Go.Proofs.YtnmfmeehmieifaaDoor
open Go Sg
set_option linter.unusedSectionVars false
variable [Glob]
set_option maxRecDepth 100000
set_option linter.unusedSimpArgs false
set_option linter.unusedVariables false
set_option maxHeartbeats 4000000
def rowsI (l : List Int) : List (List PV) := l.map fun x => [.int .i64 x]
def rowsB (l : List Bool) : List (List PV) := l.map fun x => [.bool x]
@[go_sem] theorem rowsI_len (l : List Int) : (rowsI l).length = l.length := by simp [rowsI]
@[go_sem] theorem rowsI_getD (l : List Int) (k : Nat) (h : k < l.length) : (rowsI l).getD k [] = [.int .i64 (l.getD k 0)] := by simp [rowsI, List.getD, h]
structure MM where
  i : List Int
  o : List Int
  v : List Int
  deriving DecidableEq, Inhabited
def MM.cs (m : MM) : List PV := [.rows 3 (rowsI m.i), .rows 3 (rowsI m.o), .rows 3 (rowsI m.v)]
@[go_sem] theorem MM.cs_eq (m : MM) : m.cs = [.rows 3 (rowsI m.i), .rows 3 (rowsI m.o), .rows 3 (rowsI m.v)] := rfl
def listOk (l : List Int) : Bool := l.all (fun x => !(cut x != x)) && (l.length : Int) == 6
def MM.ok (m : MM) : Bool := listOk m.i && listOk m.o && listOk m.v
structure MM.Sm (m : MM) : Prop where
  i : m.i.length ≤ 1099511627776
  o : m.o.length ≤ 1099511627776
  v : m.v.length ≤ 1099511627776
end Go.Proofs.YtnmfmeehmieifaaDoor
namespace Go.Proofs.YtnmfmeehmieifaaDoor
open Go Sg
set_option linter.unusedSectionVars false
variable [Glob]
set_option maxRecDepth 100000
set_option linter.unusedSimpArgs false
set_option linter.unusedVariables false
set_option maxHeartbeats 4000000
def numIs (b : Bool) : Int := if b then 1 else 0
def two (k a b : Int) : Int := if k == 3 then cut (cut a + cut b) else if k == 4 then cut (cut a - cut b) else if k == 5 then cut (cut a * cut b)
  else if k == 6 then numIs (decide (a < b)) else if k == 7 then numIs (a == b) else if k == 8 then numIs (a != 0 && b != 0) else numIs (a != 0 || b != 0)
def MM.get (m : MM) (a : AD) : Int := if a.kind == 1 then m.i.getD a.at'.toNat 0 else if a.kind == 2 then m.o.getD a.at'.toNat 0 else m.v.getD a.at'.toNat 0
structure MM.Six (m : MM) : Prop where
  i : m.i.length = 6
  o : m.o.length = 6
  v : m.v.length = 6
mutual
def Ex.of (m : MM) : Ex → Int
  | .mk k n a l => if k == 1 then n else if k == 2 then m.get a else if k == 10 then numIs (!((Ex.ofL m l).getD 0 0 != 0)) else two k ((Ex.ofL m l).getD 0 0) ((Ex.ofL m l).getD 1 0)
def Ex.ofL (m : MM) : List Ex → List Int
  | [] => []
  | e :: l => e.of m :: Ex.ofL m l
end
theorem form_inv {d : Nat} {e : Ex} (h : formD (d + 1) e = true) : kidsN e.kind = (e.kids.length : Int) ∧ (e.kind = 2 → e.a.ok = true) ∧ (∀ i, i < e.kids.length → formD d (e.kids.getD i default) = true) := by
  simp only [formD] at h
  split at h
  · cases h
  · rename_i h1
    split at h
    · cases h
    · split at h
      · cases h
      · rename_i h2 h3
        refine ⟨by simpa using h1, fun hk => ?_, fun i hi => ?_⟩
        · simp only [Bool.or_eq_true, Bool.and_eq_true, not_or, not_and, beq_iff_eq, bne_iff_ne] at h3
          have := h3.1 hk; simpa using this
        · rw [List.all_eq_true] at h
          refine h _ ?_
          rw [List.getD_eq_getElem?_getD, List.getElem?_eq_getElem hi]; exact List.getElem_mem hi
end Go.Proofs.YtnmfmeehmieifaaDoor
namespace Go.Proofs.YtnmfmeehmieifaaDoor
open Go Sg
set_option linter.unusedSectionVars false
variable [Glob]
set_option maxRecDepth 100000
set_option linter.unusedSimpArgs false
set_option linter.unusedVariables false
set_option maxHeartbeats 4000000
@[go_sem] theorem rowsI_flat (l : List Int) : (rowsI l).flatten = ints l := by
  induction l with
  | nil => rfl
  | cons x l ih => simp only [rowsI, ints, List.map_cons, List.flatten_cons] at ih ⊢; rw [ih]; rfl
theorem ints_nil : ([] : List PV) = ints [] := rfl
@[go_sem] theorem ints_app (l : List Int) (x : Int) : ints l ++ [.int .i64 x] = ints (l ++ [x]) := by simp [ints]
theorem rowsOf_ints {f : Nat → Option AObj} {id : Nat} {T : TypeId} {l : List Int} (h : f id = some (.cells T (ints l))) : RowsOf Tryd.prog f 3 id 0 l.length (rowsI l) := by
  refine ⟨by rw [cellsOf3]; omega, by simp [rowsI], ?_, T, _, h, ?_, ?_⟩
  · intro c hc
    simp only [rowsI, List.mem_map] at hc
    obtain ⟨x, _, rfl⟩ := hc
    rw [cellsOf3]; exact ⟨rfl, rfl⟩
  · rw [cellsOf3]; simp [ints]
  · rw [cellsOf3, rowsI_flat]; simp [ints, List.take_of_length_le]
@[go_sem] theorem ints_nil' : ints [] = [] := rfl
def ocs (x y z : Nat) : List PV := [.sl 3 x 0 6, .sl 3 y 0 6, .sl 3 z 0 6]
@[go_sem] theorem ocs_eq (x y z : Nat) : ocs x y z = [.sl 3 x 0 6, .sl 3 y 0 6, .sl 3 z 0 6] := rfl
def MM.ol (m : MM) (x y z : Nat) : List (Nat × AObj) := [(x, .cells 3 (ints m.i)), (y, .cells 3 (ints m.o)), (z, .cells 3 (ints m.v))]
@[go_sem] theorem MM.ol_eq (m : MM) (x y z : Nat) : m.ol x y z = [(x, .cells 3 (ints m.i)), (y, .cells 3 (ints m.o)), (z, .cells 3 (ints m.v))] := rfl
def MM.ou (m : MM) (x y z : Nat) : List (Nat × Option AObj) := [(x, some (.cells 3 (ints m.i))), (y, some (.cells 3 (ints m.o))), (z, some (.cells 3 (ints m.v)))]
@[go_sem] theorem MM.ou_eq (m : MM) (x y z : Nat) : m.ou x y z = [(x, some (.cells 3 (ints m.i))), (y, some (.cells 3 (ints m.o))), (z, some (.cells 3 (ints m.v)))] := rfl
def MM.tb (m : MM) (x y z : Nat) : List (TypeId × Nat × Nat × Nat × List (List PV)) := [(3, x, 0, 6, rowsI m.i), (3, y, 0, 6, rowsI m.o), (3, z, 0, 6, rowsI m.v)]
theorem MM.sub (m : MM) {x y z : Nat} (h1 : x ≠ y) (h2 : x ≠ z) (h3 : y ≠ z) : PV.subL (thOf (m.tb x y z)) (ocs x y z) = m.cs := by
  simp [ocs, MM.cs, PV.subL, PV.sub, thOf, MM.tb, h1, h2, h3]
theorem rowsOf_ints' {f : Nat → Option AObj} {id n : Nat} {T : TypeId} {l : List Int} (h : f id = some (.cells T (ints l))) (hn : l.length = n) : RowsOf Tryd.prog f 3 id 0 n (rowsI l) := by subst hn; exact rowsOf_ints h
theorem MM.tb_ok (m : MM) (hm : m.Six) {f : Nat → Option AObj} {x y z : Nat} (hx : f x = some (.cells 3 (ints m.i))) (hy : f y = some (.cells 3 (ints m.o))) (hz : f z = some (.cells 3 (ints m.v))) : ∀ q ∈ m.tb x y z, RowsOf Tryd.prog f q.1 q.2.1 q.2.2.1 q.2.2.2.1 q.2.2.2.2 := by
  intro q hq
  simp only [MM.tb, List.mem_cons, List.not_mem_nil, or_false] at hq
  rcases hq with rfl | rfl | rfl
  · exact rowsOf_ints' hx hm.i
  · exact rowsOf_ints' hy hm.o
  · exact rowsOf_ints' hz hm.v
theorem MM.frz (m : MM) (hm : m.Six) {f : Nat → Option AObj} {x y z : Nat} (hx : f x = some (.cells 3 (ints m.i))) (hy : f y = some (.cells 3 (ints m.o))) (hz : f z = some (.cells 3 (ints m.v))) : ∀ q ∈ m.tb x y z, q.2.1 ∈ [x, y, z] ∧ RowsOf Tryd.prog f q.1 q.2.1 q.2.2.1 q.2.2.2.1 q.2.2.2.2 := by
  intro q hq
  refine ⟨?_, m.tb_ok hm hx hy hz q hq⟩
  simp only [MM.tb, List.mem_cons, List.not_mem_nil, or_false] at hq
  rcases hq with rfl | rfl | rfl <;> simp
mutual
theorem sub_flatE (θ : TypeId → Nat → Nat → Nat → Option PV) : (e : Ex) → PV.subL θ e.cs = e.cs
  | .mk k n a l => by simp [Ex.cs, PV.subL, PV.sub]
end
theorem sub_rowsB (θ : TypeId → Nat → Nat → Nat → Option PV) (e : TypeId) (r : List (List PV)) : PV.sub θ (.rows e r) = .rows e r := rfl
def MM.put (m : MM) (a : AD) (n : Int) : MM := if a.kind == 2 then { m with o := m.o.set a.at'.toNat (cut n) } else if a.kind == 3 then { m with v := m.v.set a.at'.toNat (cut n) } else m
theorem MM.put_six {m : MM} (hm : m.Six) (a : AD) (n : Int) : (m.put a n).Six := by
  unfold MM.put
  split
  · exact ⟨hm.i, by simp [hm.o], hm.v⟩
  · split
    · exact ⟨hm.i, hm.o, by simp [hm.v]⟩
    · exact hm
theorem range_all (p : Nat → Bool) (i : Nat) : (List.range (i + 1)).all p = ((List.range i).all p && p i) := by
  rw [List.range_succ, List.all_append]; simp
theorem range_no {p : Nat → Bool} {i n : Nat} (h : i < n) (hp : p i = false) : (List.range n).all p = false := by
  rw [List.all_eq_false]
  exact ⟨i, List.mem_range.2 h, by simpa using hp⟩
end Go.Proofs.YtnmfmeehmieifaaDoor
namespace Go.Proofs.YtnmfmeehmieifaaDoor
open Go Sg
set_option linter.unusedSectionVars false
variable [Glob]
set_option maxRecDepth 100000
set_option linter.unusedSimpArgs false
set_option linter.unusedVariables false
set_option maxHeartbeats 4000000
def isNum (n : Int) : Bool := decide (n ≥ -1000000) && decide (n ≤ 1000000)
theorem isNum_cut (n : Int) : isNum n = (cut n == n) := by
  unfold isNum cut
  rw [Bool.eq_iff_iff]
  simp only [Bool.and_eq_true, decide_eq_true_eq, beq_iff_eq]
  omega
theorem isNum_ok (n : Int) : PureF Tryd.prog 101 [.int .i64 n] [.bool (isNum n)] := by
  refine pureF_of Tryd.func101 rfl Tryd.ntmps101 (by simp) T_ ?_
  intro f0 B Q hQ
  refine g_ [0] ?_
  refine gD_ [2] ?_
  refine e_ Tryd.results101 ?_
  first
  | exact True.intro
  | rfl
theorem iaddrOk_ok (a : AD) : PureF Tryd.prog 42 [.agg a.cs] [.bool a.ok] := by
  refine pureF_of Tryd.func42 rfl Tryd.ntmps42 (by simp) T_ ?_
  intro f0 B Q hQ
  refine g_ [1] ?_
  refine gD_ [2] ?_
  refine e_ Tryd.results42 ?_
  first
  | exact True.intro
  | rfl
def isTwo (k : Int) : Bool := decide (k ≥ 3) && decide (k ≤ 9)
theorem isTwo_ok (k : Int) : PureF Tryd.prog 65 [.int .i64 k] [.bool (isTwo k)] := by
  refine pureF_of Tryd.func65 rfl Tryd.ntmps65 (by simp) T_ ?_
  intro f0 B Q hQ
  refine g_ [0] ?_
  refine gD_ [2] ?_
  refine e_ Tryd.results65 ?_
  first
  | exact True.intro
  | rfl
def recOf (k : Int) : PV := if k == 1 then .iface 99 (.agg []) else if k == 2 then .iface 100 (.agg []) else if isTwo k then .iface 102 (.agg []) else if k == 10 then .iface 103 (.agg []) else .nilif
@[go_sem] theorem buildA_numReckoning : buildA Tryd.prog 99 [] = some (.agg []) := buildA_of (pl := []) (z := []) zeroA99 (placesA_struct Tryd.underlying99 rfl rfl) []
@[go_sem] theorem buildA_addrReckoning : buildA Tryd.prog 100 [] = some (.agg []) := buildA_of (pl := []) (z := []) zeroA100 (placesA_struct Tryd.underlying100 rfl rfl) []
@[go_sem] theorem buildA_twoReckoning : buildA Tryd.prog 102 [] = some (.agg []) := buildA_of (pl := []) (z := []) zeroA102 (placesA_struct Tryd.underlying102 rfl rfl) []
@[go_sem] theorem buildA_notReckoning : buildA Tryd.prog 103 [] = some (.agg []) := buildA_of (pl := []) (z := []) zeroA103 (placesA_struct Tryd.underlying103 rfl rfl) []
theorem recOf_pure (k : Int) : (recOf k).pure = true := by
  unfold recOf
  repeat' split
  all_goals rfl
theorem recOf_ok (k : Int) : PureF Tryd.prog 56 [.int .i64 k] [recOf k] := by
  refine pureF_of Tryd.func56 rfl Tryd.ntmps56 (by simp) (by simp [PV.pureL, recOf_pure]) ?_
  intro f0 B Q hQ
  refine g_ [0] ?_
  refine g_ [0,3] ?_
  refine c_ (fun hc0 => ?_) fun hc0 => ?_
  ·
    refine g_ [2] ?_
    refine e_ Tryd.results56 ?_
    first
    | exact True.intro
    | simp only [recOf, *, ↓reduceIte, Bool.false_eq_true]
  refine g_ [0,8] ?_
  refine c_ (fun hc1 => ?_) fun hc1 => ?_
  ·
    refine g_ [2] ?_
    refine e_ Tryd.results56 ?_
    first
    | exact True.intro
    | simp only [recOf, *, ↓reduceIte, Bool.false_eq_true]
  refine n_ ?_
  refine wpM_regionK [0,13] rfl fun Q1 hQ1 => ?_
  refine S_ ?_
  refine cp_ (isTwo_ok k) Tryd.call65 ?_
  refine hQ1 _ _ (S_ ?_);clear hQ1 Q1
  refine c_ (fun hc2 => ?_) fun hc2 => ?_
  ·
    refine g_ [2] ?_
    refine e_ Tryd.results56 ?_
    first
    | exact True.intro
    | simp only [recOf, *, ↓reduceIte, Bool.false_eq_true]
  refine g_ [18] ?_
  refine c_ (fun hc3 => ?_) fun hc3 => ?_
  ·
    refine g_ [2] ?_
    refine e_ Tryd.results56 ?_
    first
    | exact True.intro
    | simp only [recOf, *, ↓reduceIte, Bool.false_eq_true]
  refine g_ [2] ?_
  refine e_ Tryd.results56 ?_
  first
  | exact True.intro
  | simp only [recOf, *, ↓reduceIte, Bool.false_eq_true]
theorem kids1_ok : PureF Tryd.prog 97 [.agg []] [.int .i64 0] := by
  refine pureF_of Tryd.func97 rfl Tryd.ntmps97 (by simp) T_ ?_
  intro f0 B Q hQ
  refine g_ [] ?_
  refine g_ [2] ?_
  refine e_ Tryd.results97 ?_
  first
  | exact True.intro
  | rfl
theorem kids2_ok : PureF Tryd.prog 102 [.agg []] [.int .i64 0] := by
  refine pureF_of Tryd.func102 rfl Tryd.ntmps102 (by simp) T_ ?_
  intro f0 B Q hQ
  refine g_ [] ?_
  refine g_ [2] ?_
  refine e_ Tryd.results102 ?_
  first
  | exact True.intro
  | rfl
theorem kids3_ok : PureF Tryd.prog 106 [.agg []] [.int .i64 2] := by
  refine pureF_of Tryd.func106 rfl Tryd.ntmps106 (by simp) T_ ?_
  intro f0 B Q hQ
  refine g_ [] ?_
  refine g_ [2] ?_
  refine e_ Tryd.results106 ?_
  first
  | exact True.intro
  | rfl
theorem kids4_ok : PureF Tryd.prog 111 [.agg []] [.int .i64 1] := by
  refine pureF_of Tryd.func111 rfl Tryd.ntmps111 (by simp) T_ ?_
  intro f0 B Q hQ
  refine g_ [] ?_
  refine g_ [2] ?_
  refine e_ Tryd.results111 ?_
  first
  | exact True.intro
  | rfl
def noAddr (e : Ex) : Bool := e.a.kind == 0 && e.a.at' == 0
theorem shape1_ok (e : Ex) : PureF Tryd.prog 99 [.agg [], .agg e.cs] [.bool (isNum e.n && noAddr e)] := by
  refine pureF_of Tryd.func99 rfl Tryd.ntmps99 (by simp) T_ ?_
  intro f0 B Q hQ
  refine g_ [3] ?_
  refine n_ ?_
  refine wpM_regionK [4] rfl fun Q1 hQ1 => ?_
  refine SD_ ?_
  refine cpD_ (isNum_ok e.n) Tryd.call101 ?_
  refine hQ1 _ _ (S_ ?_);clear hQ1 Q1
  refine e_ Tryd.results99 ?_
  first
  | exact True.intro
  | rfl
theorem shape2_ok (e : Ex) : PureF Tryd.prog 104 [.agg [], .agg e.cs] [.bool (e.a.ok && e.n == 0)] := by
  refine pureF_of Tryd.func104 rfl Tryd.ntmps104 (by simp) T_ ?_
  intro f0 B Q hQ
  refine g_ [3] ?_
  refine n_ ?_
  refine wpM_regionK [4] rfl fun Q1 hQ1 => ?_
  refine SD_ ?_
  refine cpD_ (iaddrOk_ok e.a) Tryd.call42 ?_
  refine hQ1 _ _ (S_ ?_);clear hQ1 Q1
  refine e_ Tryd.results104 ?_
  first
  | exact True.intro
  | rfl
theorem shape3_ok (e : Ex) : PureF Tryd.prog 108 [.agg [], .agg e.cs] [.bool (e.n == 0 && noAddr e)] := by
  refine pureF_of Tryd.func108 rfl Tryd.ntmps108 (by simp) T_ ?_
  intro f0 B Q hQ
  refine g_ [3] ?_
  refine gD_ [4] ?_
  refine e_ Tryd.results108 ?_
  first
  | exact True.intro
  | rfl
theorem shape4_ok (e : Ex) : PureF Tryd.prog 113 [.agg [], .agg e.cs] [.bool (e.n == 0 && noAddr e)] := by
  refine pureF_of Tryd.func113 rfl Tryd.ntmps113 (by simp) T_ ?_
  intro f0 B Q hQ
  refine g_ [3] ?_
  refine gD_ [4] ?_
  refine e_ Tryd.results113 ?_
  first
  | exact True.intro
  | rfl
end Go.Proofs.YtnmfmeehmieifaaDoor
namespace Go.Proofs.YtnmfmeehmieifaaDoor
open Go Sg
set_option linter.unusedSectionVars false
variable [Glob]
set_option maxRecDepth 100000
set_option linter.unusedSimpArgs false
set_option linter.unusedVariables false
set_option maxHeartbeats 4000000
theorem parts_ok (e : Ex) : CallF Tryd.prog 55 [.agg e.cs] [] 1 (fun ns o => ∃ x, ns = [x] ∧ o = { rs := [.fn (.func 63) [] [.ptr x 0]], nw := [(x, .cells 42 e.cs)] }) := by
  refine callF_of' Tryd.func55 rfl Tryd.ntmps55 (by simp) ?_
  intro f0 B ns Q hB hns hQ
  obtain ⟨x, rfl⟩ : ∃ x, ns = [x] := by
    match ns, hns with
    | [x], _ => exact ⟨x, rfl⟩
  refine g_ [1] ?_
  refine g_ [2] ?_
  refine wpM_ret ?_
  try refine S_ ?_
  refine hQ _ _ (retK [B] [] [(x, .cells 42 e.cs)] rfl rfl rfl (by rw [Tryd.results55] <;> simp (maxSteps := 1000000) -implicitDefEqProofs (disch := omega) only [go_sem] <;> rfl) ?_ ⟨x, rfl, rfl⟩ ?_ ?_ ?_ ?_ ?_ ?_)
  all_goals (first | (simp -implicitDefEqProofs (disch := omega) only [go_sem, List.nodup_cons, List.nodup_nil, true_or, or_true, List.mem_cons, List.not_mem_nil]; done) | (simp -implicitDefEqProofs (disch := omega) only [go_sem, List.nodup_cons, List.nodup_nil, true_or, or_true, List.mem_cons, List.not_mem_nil]; omega))
def rfs : Code → List (Code × Code)
  | .seq a b | .cond _ a b => rfs a ++ rfs b
  | .block _ a | .loop a => rfs a
  | .rangeFunc _ _ a b => [(a, b)]
  | _ => []
def recNil (k : Int) : Bool := !(k == 1 || k == 2 || isTwo k || k == 10)
def kidsR (k : Int) : Int := if k == 10 then 1 else if isTwo k then 2 else 0
def shapeR (e : Ex) : Bool := if e.kind == 1 then isNum e.n && noAddr e else if e.kind == 2 then e.a.ok && e.n == 0 else e.n == 0 && noAddr e
@[go_sem] theorem eql_rec (x : Operand) (v : Value) (k : Int) : binOpA Tryd.prog .eql 90 x (.const v) (recOf k) .nilif = some (.bool (recNil k)) := by
  unfold recOf recNil
  cases h1 : k == 1 <;> cases h2 : k == 2 <;> cases h3 : isTwo k <;> cases h4 : k == 10 <;> simp [binOpA, eqPair, eqA, Tryd.underlying90, isConstOp]
@[go_sem] theorem isConstOp_const (v : Value) : isConstOp (.const v) = true := rfl
theorem rec_meth (k : Int) (hn : recNil k = false) : ∃ t fk fs, recOf k = .iface t (.agg []) ∧
    (∀ args w, (callFunc fk args).run Tryd.prog w = .ok (.enter fk args) w) ∧ (∀ (v : Value) w, (method (Tryd.prog.types.size + Made.depth) t v "loop.example/stopgate/impl.kids").run Tryd.prog w = .ok (fk, v) w) ∧ PureF Tryd.prog fk [.agg []] [.int .i64 (kidsR k)] ∧
    (∀ args w, (callFunc fs args).run Tryd.prog w = .ok (.enter fs args) w) ∧ (∀ (v : Value) w, (method (Tryd.prog.types.size + Made.depth) t v "loop.example/stopgate/impl.shape").run Tryd.prog w = .ok (fs, v) w) ∧ (∀ e : Ex, e.kind = k → PureF Tryd.prog fs [.agg [], .agg e.cs] [.bool (shapeR e)]) := by
  by_cases h1 : k = 1
  · subst h1
    refine ⟨99, 97, 99, rfl, Tryd.call97, method_run info99 Tryd.underlying99 (by simp) (by rfl) rfl rfl, kids1_ok, Tryd.call99, method_run info99 Tryd.underlying99 (by simp) (by rfl) rfl rfl, fun e he => ?_⟩
    have : shapeR e = (isNum e.n && noAddr e) := by simp [shapeR, he]
    rw [this]; exact shape1_ok e
  by_cases h2 : k = 2
  · subst h2
    refine ⟨100, 102, 104, rfl, Tryd.call102, method_run info100 Tryd.underlying100 (by simp) (by rfl) rfl rfl, kids2_ok, Tryd.call104, method_run info100 Tryd.underlying100 (by simp) (by rfl) rfl rfl, fun e he => ?_⟩
    have : shapeR e = (e.a.ok && e.n == 0) := by simp [shapeR, he]
    rw [this]; exact shape2_ok e
  by_cases h3 : isTwo k = true
  · have h10 : (k == 10) = false := by
      simp only [isTwo, Bool.and_eq_true, decide_eq_true_eq] at h3
      simp; omega
    have hk : kidsR k = 2 := by simp [kidsR, h3, h10]
    rw [hk]
    refine ⟨102, 106, 108, by simp [recOf, h1, h2, h3], Tryd.call106, method_run info102 Tryd.underlying102 (by simp) (by rfl) rfl rfl, kids3_ok, Tryd.call108, method_run info102 Tryd.underlying102 (by simp) (by rfl) rfl rfl, fun e he => ?_⟩
    have : shapeR e = (e.n == 0 && noAddr e) := by simp [shapeR, he, h1, h2]
    rw [this]; exact shape3_ok e
  have h10 : k = 10 := by
    simp only [Bool.not_eq_true] at h3
    simpa [recNil, h1, h2, h3] using hn
  subst h10
  refine ⟨103, 111, 113, rfl, Tryd.call111, method_run info103 Tryd.underlying103 (by simp) (by rfl) rfl rfl, kids4_ok, Tryd.call113, method_run info103 Tryd.underlying103 (by simp) (by rfl) rfl rfl, fun e he => ?_⟩
  have : shapeR e = (e.n == 0 && noAddr e) := by simp [shapeR, he]
  rw [this]; exact shape4_ok e
def badE (n : Int) (deep : Int) (e : Ex) : Bool := decide (n > 14) || decide (deep ≥ 6) || recNil e.kind || (e.kids.length : Int) != kidsR e.kind || !shapeR e
mutual
def vis : Ex → Nat → Nat → Option Nat
  | .mk k n a l, deep, c => if badE ((c : Int) + 1) (deep : Int) (.mk k n a l) then none else visL l (deep + 1) (c + 1)
def visL : List Ex → Nat → Nat → Option Nat
  | [], _, c => some c
  | e :: l, deep, c => match vis e deep c with
    | none => none
    | some c' => visL l deep c'
end
theorem vis_eq (e : Ex) (deep c : Nat) : vis e deep c = if badE ((c : Int) + 1) (deep : Int) e then none else visL e.kids (deep + 1) (c + 1) := by cases e; rfl
theorem visL_append (l l' : List Ex) (deep : Nat) : ∀ c, visL (l ++ l') deep c = (visL l deep c).bind (visL l' deep) := by
  induction l with
  | nil => intro c; rfl
  | cons e l ih =>
    intro c
    simp only [List.cons_append, visL]
    cases vis e deep c with
    | none => rfl
    | some c' => exact ih c'
theorem visL_take (l : List Ex) (deep c i : Nat) (h : i < l.length) : visL (l.take (i + 1)) deep c = (visL (l.take i) deep c).bind (vis (l.getD i default) deep) := by
  rw [List.take_succ_eq_append_getElem h, visL_append]
  have : l.getD i default = l[i] := by simp [List.getD, h]
  rw [this]
  congr 1
  funext c'
  simp only [visL]
  cases vis l[i] deep c' <;> rfl
theorem visL_none {l : List Ex} {deep c i : Nat} (h : visL (l.take i) deep c = none) : visL l deep c = none := by
  conv => lhs; rw [← List.take_append_drop i l]
  rw [visL_append, h]; rfl
def okSt (x : Nat) (rc : AObj) (b n : Nat) : List (Nat × AObj) :=
  [(x + 7, .cells 3 [.int .i64 (n : Int)]), (x + 5, rc), (x + 2, .cells 3 [.int .i64 (n : Int)]), (x + 1, .cells 4 [.bool false]),
   (x + 6, .cells 97 [.fn (.yield b) [] []]), (x + 8, .cells 70 [.fn (.func 64) [] [.ptr (x + 7) 0, .ptr (x + 6) 0, .ptr (x + 8) 0]])]
def okRec (x b d fn : Nat) (fv : PV) (asg body : Code) (st : LoopState) (pe : Option Code) : AObj := .loop b d st pe fn 40 [(2, .ptr (x + 1) 0), (3, .ptr (x + 2) 0), (8, fv)] #[9, 10] asg body
@[go_sem] theorem okRec_eq (x b d fn : Nat) (fv : PV) (asg body : Code) (st : LoopState) (pe : Option Code) : okRec x b d fn fv asg body st pe = .loop b d st pe fn 40 [(2, .ptr (x + 1) 0), (3, .ptr (x + 2) 0), (8, fv)] #[9, 10] asg body := rfl
@[go_sem] theorem okSt_eq (x : Nat) (rc : AObj) (b n : Nat) : okSt x rc b n = [(x + 7, .cells 3 [.int .i64 (n : Int)]), (x + 5, rc), (x + 2, .cells 3 [.int .i64 (n : Int)]), (x + 1, .cells 4 [.bool false]),
   (x + 6, .cells 97 [.fn (.yield b) [] []]), (x + 8, .cells 70 [.fn (.func 64) [] [.ptr (x + 7) 0, .ptr (x + 6) 0, .ptr (x + 8) 0]])] := rfl
def visQ (x b d fn : Nat) (fv : PV) (asg body : Code) (e : Ex) (deep cnt : Nat) (f0 : Nat → Option AObj) (B : Nat) (ex : ExitA) (s : MS) : Prop :=
  ex = .ret ∧ ((∃ cnt' M', vis e deep cnt = some cnt' ∧ cnt' ≤ 14 ∧ B ≤ M' ∧ s = ⟨[(7, .bool true)], okSt x (okRec x b d fn fv asg body .ready none) b cnt', f0, B, M', []⟩) ∨
    (∃ cnt' M', vis e deep cnt = none ∧ B ≤ M' ∧ s = ⟨[(7, .bool false)], okSt x (okRec x b d fn fv asg body .done (some .ret)) b cnt', f0, B, M', []⟩))
theorem walk_ok (x b d fn : Nat) (fv : PV) (asg body c : Code) (hcode : Tryd.f39.body.map rfs = some [(asg, body)]) (hc : Tryd.f64.body = some c) : ∀ (N : Nat) (e : Ex), e.sz ≤ N → e.sz ≤ 1099511627776 →
    ∀ (deep cnt : Nat) (dI : Int) (f0 : Nat → Option AObj) (B : Nat), dI = (deep : Int) → x + 9 ≤ B → deep ≤ 6 → cnt ≤ 14 →
      wpM Tryd.prog none 39 c ⟨envOf 0 [.agg e.cs, .int .i64 dI, .ptr (x + 7) 0, .ptr (x + 6) 0, .ptr (x + 8) 0], okSt x (okRec x b d fn fv asg body .ready none) b cnt, f0, B, B, []⟩ (visQ x b d fn fv asg body e deep cnt f0 B) := by
  have hcode' := Option.some.inj hcode
  simp only [rfs, List.nil_append, List.append_nil, List.cons.injEq, Prod.mk.injEq, and_true] at hcode'
  obtain ⟨hasg, hbody⟩ := hcode'
  obtain rfl : _ = c := Option.some.inj hc
  intro N
  induction N with
  | zero => intro e h; have := e.sz_pos; omega
  | succ N ih =>
    intro e hN hs deep cnt dI f0 B hdI hB hd hcn
    have hlen := e.kids_len
    refine wpM_wk ?_
    refine g_ [1,2,3,4,5] ?_
    refine g_ [1,2,3,4,5] ?_
    refine n_ ?_
    refine wpM_regionK [1,4,5,24] rfl fun Q1 hQ1 => ?_
    refine S_ ?_
    refine OpM_roundK (x + 5) rfl rfl rfl rfl (by simp -implicitDefEqProofs (disch := omega) only [go_sem]; rfl) rfl rfl ?_
    intro K' hK'
    refine wpM_code hasg ?_
    simp -implicitDefEqProofs (disch := omega) only [go_sem]
    refine g_ [2,3,4,10] ?_
    refine g_ [2,3,4,5] ?_
    refine ⟨d, none, fn, 40, [(2, .ptr (x + 1) 0), (3, .ptr (x + 2) 0), (8, fv)], #[9, 10], asg, body, rfl, ?_⟩
    refine wpM_code hbody ?_
    refine g_ [2,3,4,5] ?_
    refine n_ ?_
    refine wpM_regionK [2,3,4,5,6] rfl fun Q1 hQ1 => ?_
    refine S_ ?_
    refine cp_ (recOf_ok e.kind) Tryd.call56 ?_
    refine hQ1 _ _ (S_ ?_);clear hQ1 Q1
    refine n_ ?_
    refine dr_ mixed [2,39] 0 2 [x+2, B+1] [⟨[3],[0],[],[],false⟩,⟨[16],[],[],[],false⟩,⟨[17],[],[],[],false⟩,⟨[4,18],[],[],[],false⟩,⟨[18,19],[],[],[],false⟩,⟨[18,20],[],[],[],false⟩,⟨[21],[],[],[],false⟩,⟨[6,22],[],[],[],false⟩,⟨[22,23],[],[],[],false⟩,⟨[22,24],[],[],[],false⟩,⟨[25],[],[],[],false⟩,⟨[5,26],[],[],[],false⟩,⟨[26,27],[1],[],[],false⟩,⟨[26,28],[],[],[],false⟩,⟨[6,26],[],[],[],false⟩,⟨[26,30],[],[],[],true⟩,⟨[26,29,31],[],[],[],false⟩,⟨[26,32],[],[],[],false⟩,⟨[33],[],[],[],false⟩,⟨[6,34],[],[],[],false⟩,⟨[5,34],[1],[],[],false⟩,⟨[34,35,36],[],[],[],true⟩,⟨[34,37],[],[],[],false⟩,⟨[34,38],[],[],[],false⟩] [0,1,2,3,4,5,6,7,8,9,10,11,12,13,14,15,16,17,18,19,20,21,22,23] [[],[0],[0,1],[0,1,2],[0,1,2,3],[0,1,2,3,4],[0,1,2,3,4,5],[0,1,2,3,4,5,6],[0,1,2,3,4,5,6,7],[0,1,2,3,4,5,6,7,8],[0,1,2,3,4,5,6,7,8,9],[0,1,2,3,4,5,6,7,8,9,10],[0,1,2,3,4,5,6,7,8,9,10,11],[0,1,2,3,4,5,6,7,8,9,10,11,12],[0,1,2,3,4,5,6,7,8,9,10],[0,1,2,3,4,5,6,7,8,9,10,14],[0,1,2,3,4,5,6,7,8,9,10,11,12,13,14,15],[0,1,2,3,4,5,6,7,8,9,10,11,12,13,14,15,16],[0,1,2,3,4,5,6,7,8,9,10,11,12,13,14,15,16,17],[0,1,2,3,4,5,6,7,8,9,10,11,12,13,14,15,16,17,18],[0,1,2,3,4,5,6,7,8,9,10,11,12,13,14,15,16,17,18],[0,1,2,3,4,5,6,7,8,9,10,11,12,13,14,15,16,17,18,19,20],[0,1,2,3,4,5,6,7,8,9,10,11,12,13,14,15,16,17,18,19,20,21],[0,1,2,3,4,5,6,7,8,9,10,11,12,13,14,15,16,17,18,19,20,21,22]] 2 (htbl := by simp; omega) (hnm := by simp) ?_
    intro O A K hO hA hK;simp only [atL_cons,atL_nil,Nat.reduceAdd,Nat.zero_add] at hO hA
    refine SE_ ?_
    refine loudG (v := .int .i64 (kidsR e.kind)) (fun K2 hb h2 => ?_) ?_
    · have hb2 := hb
      simp only [Bool.not_eq_true', Bool.or_eq_false_iff] at hb2
      obtain ⟨t, fk, fs, hr, q1, q2, q3, q4, q5, q6⟩ := rec_meth e.kind hb2.2
      exact loudi_p (args := []) q3 q1 q2 rfl (by simp -implicitDefEqProofs (disch := omega) only [go_sem, hb, gd_of hb, hr]) rfl rfl h2
    refine SE_ ?_
    refine loudG (v := .bool (shapeR e)) (fun K2 hb h2 => ?_) ?_
    · have hb2 := hb
      simp only [Bool.not_eq_true', Bool.or_eq_false_iff] at hb2
      obtain ⟨t, fk, fs, hr, q1, q2, q3, q4, q5, q6⟩ := rec_meth e.kind hb2.1.2
      exact loudi_p (args := [.agg e.cs]) (q6 e rfl) q4 q5 rfl (by simp -implicitDefEqProofs (disch := omega) only [go_sem, hb, gd_of hb, hr]) (by simp -implicitDefEqProofs (disch := omega) only [go_sem, hb, gd_of hb]) rfl h2
    refine SE_ ?_
    refine hK _ (S_ ?_);clear hK K hO hA O A
    refine c_ (fun hc0 => ?_) fun hc0 => ?_
    ·
      refine g_ [2] ?_
      refine wpM_ret ?_
      try refine S_ ?_
      have hbad : badE ((cnt : Int) + 1) dI e = true := hc0
      refine ⟨d, .busy, none, fn, 40, [(2, .ptr (x + 1) 0), (3, .ptr (x + 2) 0), (8, fv)], #[9, 10], asg, body, by simp -implicitDefEqProofs (disch := omega) only [go_sem], ?_⟩
      refine hK' _ ?_; clear hK' K'
      simp -implicitDefEqProofs (disch := omega) only [go_sem]
      refine hQ1 _ _ ?_; clear hQ1 Q1
      simp -implicitDefEqProofs (disch := omega) only [go_sem]
      refine wpM_condK ?_
      simp -implicitDefEqProofs (disch := omega) only [go_sem]
      refine wpM_seq ?_
      refine wpM_regionK [7] rfl ?_; intro Q1 hQ1
      simp -implicitDefEqProofs (disch := omega) only [go_sem]
      refine hQ1 _ _ ?_; clear hQ1 Q1
      simp -implicitDefEqProofs (disch := omega) only [go_sem]
      refine wpM_ret ?_
      refine .of' _ _ ⟨rfl, .inr ⟨cnt + 1, _, ?_, ?_, rfl⟩⟩ ?_ ?_ ?_
      · rw [vis_eq, ← hdI, if_pos hbad]
      · first | omega | (simp -implicitDefEqProofs (disch := omega) only [go_sem]; done)
      all_goals exact L_
    refine n_ ?_
    have hbad : badE ((cnt : Int) + 1) dI e = false := hc0
    clear hc0
    have hb2 := hbad
    simp only [badE, Bool.or_eq_false_iff] at hb2
    obtain ⟨⟨⟨⟨hg1, hg2⟩, _⟩, _⟩, _⟩ := hb2
    have hg2' : deep < 6 := by simp at hg2; omega
    have hg1' : cnt + 1 ≤ 14 := by simp at hg1; omega
    refine ⟨d, .busy, none, fn, 40, [(2, .ptr (x + 1) 0), (3, .ptr (x + 2) 0), (8, fv)], #[9, 10], asg, body, by simp -implicitDefEqProofs (disch := omega) only [go_sem], ?_⟩
    refine hK' _ ?_; clear hK' K'
    simp -implicitDefEqProofs (disch := omega) only [go_sem, hg1, hg2]
    refine hQ1 _ _ (S_ ?_);clear hQ1 Q1
    refine c1_ ?_
    refine g_ [1,4,26,27,28] ?_
    refine n_ ?_
    refine wpM_loopS (fun s n s' => ∃ (i M ci : Nat), i + n = e.kids.length ∧ B + 1 ≤ M ∧ visL (e.kids.take i) (deep + 1) (cnt + 1) = some ci ∧ ci ≤ 14 ∧ s' = { s with env := setE 28 (.int .i64 (i : Nat)) s.env, l := okSt x (okRec x b d fn fv asg body .ready none) b ci ++ [(B, .cells 42 e.cs)], M := M }) (e.kids.length) ?_ ?_
    ·
      refine .of' _ _ ⟨0, _, cnt + 1, by omega, ?_, rfl, hg1', rfl⟩ ?_ ?_ ?_
      · first | omega | (simp -implicitDefEqProofs (disch := omega) only [go_sem]; done)
      all_goals exact L_
    rintro n s' ⟨i, M, ci, hi, hM, hv, hci, rfl⟩
    try refine S_ ?_
    refine g_ [1,4,26,27,28,29] ?_
    refine c_ (fun hc1 => ?_) fun hc1 => ?_
    ·
      have hl0 : i < e.kids.length := by omega
      have hks := Ex.kid_sz hl0
      refine g_ [1,4,9,26,27,28] ?_
      refine n_ ?_
      refine wpM_regionK [1,4,26,27,28,37] rfl fun Q1 hQ1 => ?_
      refine S_ ?_
      refine OpM_inlineK (first := []) (ps := [.agg (e.kids.getD i default).cs, .int .i64 (dI + 1)]) (cap := [.ptr (x + 7) 0, .ptr (x + 6) 0, .ptr (x + 8) 0]) Tryd.func64 rfl Tryd.ntmps64 (by simp) Tryd.call64 rfl rfl F_ F_ ?_
      intro K' hK'
      refine wpM_frame (okSt x (okRec x b d fn fv asg body .ready none) b ci) [(M, .cells 42 (e.kids.getD i default).cs), (B, .cells 42 e.cs)] T_ T_ T_ (by simp -implicitDefEqProofs (disch := omega) only [go_sem, true_or, or_true]) T_ ?_
      intro f1
      refine wpM_mono (ih (e.kids.getD i default) (by omega) (by omega) (deep + 1) ci (dI + 1) f1 (M + 1) (by rw [hdI]; rfl) (by omega) (by omega) hci) ?_
      rintro ex s' ⟨rfl, ⟨cnt', M', h1, h2, h3, rfl⟩ | ⟨cnt', M', h1, h3, rfl⟩⟩
      rotate_left
      · refine ⟨rfl, rfl, T_, (by simp -implicitDefEqProofs (disch := omega) only [go_sem, true_or, or_true]), ?_⟩
        refine ⟨[], rfl, trivial, [.bool false], (by rw [Tryd.results64]; simp -implicitDefEqProofs (disch := omega) only [go_sem]), ?_⟩
        refine hK' _ ?_; clear hK' K'
        simp -implicitDefEqProofs (disch := omega) only [go_sem]
        refine hQ1 _ _ ?_; clear hQ1 Q1
        simp -implicitDefEqProofs (disch := omega) only [go_sem]
        refine wpM_condK ?_
        simp -implicitDefEqProofs (disch := omega) only [go_sem]
        refine wpM_seq ?_
        refine wpM_regionK [7] rfl ?_; intro Q1 hQ1
        simp -implicitDefEqProofs (disch := omega) only [go_sem]
        refine hQ1 _ _ ?_; clear hQ1 Q1
        simp -implicitDefEqProofs (disch := omega) only [go_sem]
        refine wpM_ret ?_
        refine .of' _ _ ⟨rfl, .inr ⟨cnt', _, ?_, ?_, rfl⟩⟩ ?_ ?_ ?_
        · rw [vis_eq, ← hdI, hbad]
          exact visL_none (i := i + 1) (by rw [visL_take _ _ _ _ hl0, hv]; exact h1)
        · first | omega | (simp -implicitDefEqProofs (disch := omega) only [go_sem]; done) | (simp -implicitDefEqProofs (disch := omega) only [go_sem]; omega)
        all_goals exact L_
      refine ⟨rfl, rfl, T_, (by simp -implicitDefEqProofs (disch := omega) only [go_sem, true_or, or_true]), ?_⟩
      refine ⟨[], rfl, trivial, [.bool true], (by rw [Tryd.results64]; simp -implicitDefEqProofs (disch := omega) only [go_sem]), ?_⟩
      refine hK' _ ?_; clear hK' K'
      have hv2 : visL (e.kids.take (i + 1)) (deep + 1) (cnt + 1) = some cnt' := by rw [visL_take _ _ _ _ hl0, hv]; exact h1
      refine S_ ?_
      refine hQ1 _ _ (S_ ?_);clear hQ1 Q1
      refine c1_ ?_
      refine g_ [1,4,26,27,28] ?_
      refine .of' _ _ ⟨n - 1, by omega, i + 1, _, cnt', by omega, ?_, hv2, h2, rfl⟩ ?_ ?_ ?_
      · first | omega | (simp -implicitDefEqProofs (disch := omega) only [go_sem]; done) | (simp -implicitDefEqProofs (disch := omega) only [go_sem]; omega)
      all_goals exact L_
    refine g_ [7] ?_
    refine wpM_ret ?_
    try refine S_ ?_
    have hie : i = e.kids.length := by omega
    rw [hie, List.take_of_length_le (Nat.le_refl _)] at hv
    refine .of' _ _ ⟨rfl, .inl ⟨ci, _, ?_, hci, ?_, rfl⟩⟩ ?_ ?_ ?_
    · rw [vis_eq, ← hdI, hbad]; exact hv
    · first | omega | (simp -implicitDefEqProofs (disch := omega) only [go_sem]; done) | (simp -implicitDefEqProofs (disch := omega) only [go_sem]; omega)
    all_goals exact L_
end Go.Proofs.YtnmfmeehmieifaaDoor
namespace Go.Proofs.YtnmfmeehmieifaaDoor
open Go Sg
set_option linter.unusedSectionVars false
variable [Glob]
set_option maxRecDepth 100000
set_option linter.unusedSimpArgs false
set_option linter.unusedVariables false
set_option maxHeartbeats 4000000
theorem iexprOk_ok (e : Ex) (hs : e.sz ≤ 1099511627776) : PureF Tryd.prog 39 [.agg e.cs] [.bool (vis e 0 0).isSome] := by
  refine pureF_ofM Tryd.func39 rfl Tryd.ntmps39 (by simp) T_ ?_
  intro f0 B Q hQ
  obtain ⟨asg, body, hcode⟩ : ∃ asg body, Tryd.f39.body.map rfs = some [(asg, body)] := ⟨_, _, rfl⟩
  have hcode' := Option.some.inj hcode
  simp only [rfs, List.nil_append, List.append_nil, List.cons.injEq, Prod.mk.injEq, and_true] at hcode'
  obtain ⟨hasg, hbody⟩ := hcode'
  refine g_ [1,2,9,10] ?_
  refine g_ [1,2,3,9,10] ?_
  refine n_ ?_
  refine wpM_regionK [2,3,8,9,10] rfl fun Q1 hQ1 => ?_
  refine S_ ?_
  refine call_fn (l := []) (first := []) (cap := []) (ps := [.agg e.cs]) (parts_ok e) Tryd.call55 rfl rfl rfl T_ T_ ?_
  rintro out ⟨x, hns, rfl⟩
  injection hns with hn1 hns
  subst hn1
  refine S_ ?_
  refine hQ1 _ _ (S_ ?_);clear hQ1 Q1
  refine n_ ?_
  refine wpM_code (c' := Code.rangeFunc (.tmp 8) #[9, 10] asg body) (by rw [← hasg, ← hbody]) ?_
  refine wpM_rangeFunc (first := []) (cap := [.ptr (B + 3) 0]) T_ Tryd.func63 rfl Tryd.ntmps63 (by simp) Tryd.call63 ?_
  intro fn b d
  refine g_ [1,2] ?_
  refine g_ [1,2,3] ?_
  refine g_ [1,2,3,4] ?_
  refine g_ [1,4] ?_
  refine wpM_regionK [] rfl fun Q1 hQ1 => ?_
  refine S_ ?_
  simp -implicitDefEqProofs (disch := omega) only [go_sem, Nat.add_assoc]
  refine OpM_inlineK (first := []) (ps := [.agg e.cs, .int .i64 0]) (cap := [.ptr (B + 7) 0, .ptr (B + 6) 0, .ptr (B + 8) 0]) Tryd.func64 rfl Tryd.ntmps64 (by simp) Tryd.call64 rfl rfl F_ F_ ?_
  intro K' hK'
  refine wpM_frame (okSt B (okRec B b d fn (.fn (.func 63) [] [.ptr (B + 3) 0]) asg body .ready none) b 0) [(B + 4, .dfr d), (B + 3, .cells 42 e.cs), (B, .cells 42 e.cs)] (by simp -implicitDefEqProofs (disch := omega) only [go_sem, Int.natCast_zero]) T_ T_ (by simp -implicitDefEqProofs (disch := omega) only [go_sem, true_or, or_true]) T_ ?_
  intro f1
  refine wpM_mono (walk_ok B b d fn (.fn (.func 63) [] [.ptr (B + 3) 0]) asg body _ hcode rfl e.sz e (Nat.le_refl _) hs 0 0 0 f1 (B + 9) rfl (by omega) (by omega) (by omega)) ?_
  rintro ex s' ⟨rfl, ⟨cnt', M', q1, q2, q3, rfl⟩ | ⟨cnt', M', q1, q3, rfl⟩⟩
  rotate_left
  · refine ⟨rfl, rfl, T_, (by simp -implicitDefEqProofs (disch := omega) only [go_sem, true_or, or_true]), ?_⟩
    refine ⟨[], rfl, trivial, [.bool false], (by rw [Tryd.results64]; simp -implicitDefEqProofs (disch := omega) only [go_sem]), ?_⟩
    refine hK' _ ?_; clear hK' K'
    simp -implicitDefEqProofs (disch := omega) only [go_sem]
    refine hQ1 _ _ ?_; clear hQ1 Q1
    simp -implicitDefEqProofs (disch := omega) only [go_sem]
    refine ⟨[], rfl, trivial, [], (by rw [Tryd.results63]; simp -implicitDefEqProofs (disch := omega) only [go_sem]), ?_⟩
    refine ⟨d, .done, some .ret, fn, 40, [(2, .ptr (B + 1) 0), (3, .ptr (B + 2) 0), (8, .fn (.func 63) [] [.ptr (B + 3) 0])], #[9, 10], asg, body, T_, (by simp), ?_⟩
    simp -implicitDefEqProofs (disch := omega) only [go_sem, Nat.add_assoc]
    refine hQ [B + 4] _ _ rfl rfl rfl ⟨⟨by simp -implicitDefEqProofs (disch := omega) only [go_sem], ⟨d, by simp -implicitDefEqProofs (disch := omega) only [go_sem]⟩, by simp⟩, trivial⟩ (by simp -implicitDefEqProofs (disch := omega) only [go_sem, true_or]) ?_ (.inl rfl)
    rw [Tryd.results39, q1]
    simp -implicitDefEqProofs (disch := omega) only [go_sem, Option.isSome_none]
  refine ⟨rfl, rfl, T_, (by simp -implicitDefEqProofs (disch := omega) only [go_sem, true_or, or_true]), ?_⟩
  refine ⟨[], rfl, trivial, [.bool true], (by rw [Tryd.results64]; simp -implicitDefEqProofs (disch := omega) only [go_sem]), ?_⟩
  refine hK' _ ?_; clear hK' K'
  refine S_ ?_
  refine hQ1 _ _ (S_ ?_);clear hQ1 Q1
  refine ⟨[], rfl, trivial, [], (by rw [Tryd.results63]; simp -implicitDefEqProofs (disch := omega) only [go_sem]), ?_⟩
  refine ⟨d, .ready, none, fn, 40, [(2, .ptr (B + 1) 0), (3, .ptr (B + 2) 0), (8, .fn (.func 63) [] [.ptr (B + 3) 0])], #[9, 10], asg, body, T_, (by simp), ?_⟩
  simp -implicitDefEqProofs (disch := omega) only [go_sem, Nat.add_assoc]
  refine g_ [2] ?_
  refine wpM_ret ?_
  try refine S_ ?_
  refine hQ [B + 4] _ _ rfl rfl rfl ⟨⟨by simp -implicitDefEqProofs (disch := omega) only [go_sem], ⟨d, by simp -implicitDefEqProofs (disch := omega) only [go_sem]⟩, by simp⟩, trivial⟩ (by simp -implicitDefEqProofs (disch := omega) only [go_sem, true_or]) ?_ (.inl rfl)
  rw [Tryd.results39, q1]
  simp -implicitDefEqProofs (disch := omega) only [go_sem, Option.isSome_some]
end Go.Proofs.YtnmfmeehmieifaaDoor
namespace Go.Proofs.YtnmfmeehmieifaaDoor
open Go Sg
set_option maxRecDepth 100000
set_option linter.unusedSimpArgs false
set_option linter.unusedVariables false
set_option linter.unusedSectionVars false
set_option maxHeartbeats 4000000
variable [TabK]
def strC (l : List ByteArray) : List PV := l.map .str
def strR (l : List ByteArray) : List (List PV) := l.map fun s => [.str s]
@[go_sem] theorem strC_len (l : List ByteArray) : (strC l).length = l.length := by simp [strC]
@[go_sem] theorem strR_len (l : List ByteArray) : (strR l).length = l.length := by simp [strR]
@[go_sem] theorem strR_flat (l : List ByteArray) : (strR l).flatten = strC l := by
  induction l with
  | nil => rfl
  | cons x l ih => simp only [strR, strC, List.map_cons, List.flatten_cons] at ih ⊢; rw [ih]; rfl
@[go_sem] theorem strR_get (l : List ByteArray) (k : Nat) (h : k < l.length) : (strR l).getD k [] = [.str (l.getD k default)] := by simp [strR, List.getD, h]
@[go_sem] theorem strC_app (l : List ByteArray) (x : ByteArray) : strC l ++ [.str x] = strC (l ++ [x]) := by simp [strC]
theorem rowsOf_str {f : Nat → Option AObj} {id n : Nat} {T : TypeId} {l : List ByteArray} (h : f id = some (.cells T (strC l))) (hn : l.length = n) : RowsOf Tryd.prog f 9 id 0 n (strR l) := by
  subst hn
  refine ⟨by rw [cellsOf9]; omega, by simp [strR], ?_, T, _, h, ?_, ?_⟩
  · intro c hc
    simp only [strR, List.mem_map] at hc
    obtain ⟨x, _, rfl⟩ := hc
    rw [cellsOf9]; exact ⟨rfl, rfl⟩
  · rw [cellsOf9]; simp [strC]
  · rw [cellsOf9, strR_flat]; simp [strC, List.take_of_length_le]
def letS (k : Int) : ByteArray := ByteArray.extract ⟨#[32, 105, 111, 118]⟩ k.toNat (k + 1).toNat
theorem letS_size (k : Int) (h : 1 ≤ k ∧ k ≤ 3) : (letS k).size ≤ 4 := by
  simp [letS]; omega
theorem letter_ok (a : AD) (h : a.ok = true) : PureF Tryd.prog 45 [.agg a.cs] [.str (letS a.kind)] := by
  have hk : 1 ≤ a.kind ∧ a.kind ≤ 3 ∧ 0 ≤ a.at' ∧ a.at' < 6 := by simp only [AD.ok, Bool.and_eq_true, decide_eq_true_eq] at h; omega
  have h4 : (⟨#[32, 105, 111, 118]⟩ : ByteArray).size = 4 := rfl
  refine pureF_of Tryd.func45 rfl Tryd.ntmps45 (by simp) T_ ?_
  intro f0 B Q hQ
  refine g_ [1] ?_
  refine n_ ?_
  refine wpM_regionK [2] rfl fun Q1 hQ1 => ?_
  simp -implicitDefEqProofs (disch := omega) only [go_sem, h4]
  refine hQ1 _ _ (S_ ?_);clear hQ1 Q1
  refine e_ Tryd.results45 ?_
  first
  | exact True.intro
  | rfl
def adrS (a : AD) : ByteArray := letS a.kind ++ fmtS a.at'
theorem add_str (x y : ByteArray) (h : x.size + y.size ≤ 1000000) : strOpA .add x y = some (.str (x ++ y)) := by
  simp only [strOpA]
  rw [if_pos (by omega)]
theorem bin_adds {P : Program} (t : TypeId) (x y : Operand) (a c : ByteArray) (h : a.size + c.size ≤ 1000000) : binOpA P .add t x y (.str a) (.str c) = some (.str (a ++ c)) := by
  simp only [binOpA]; exact add_str a c h
theorem addrText_ok (a : AD) (h : a.ok = true) : PureF Tryd.prog 27 [.agg a.cs] [.str (adrS a)] := by
  have hk : 1 ≤ a.kind ∧ a.kind ≤ 3 ∧ 0 ≤ a.at' ∧ a.at' < 6 := by simp only [AD.ok, Bool.and_eq_true, decide_eq_true_eq] at h; omega
  have h1 := letS_size a.kind ⟨hk.1, hk.2.1⟩
  have h2 := fmtS_size a.at'
  refine pureF_of Tryd.func27 rfl Tryd.ntmps27 (by simp) T_ ?_
  intro f0 B Q hQ
  refine g_ [1] ?_
  refine n_ ?_
  refine wpM_regionK [1,5] rfl fun Q1 hQ1 => ?_
  refine S_ ?_
  refine call_p (iaddrOk_ok a) Tryd.call42 rfl rfl rfl (by first | rfl | (simp -implicitDefEqProofs (disch := omega) only [go_sem] <;> rfl)) ?_
  simp -implicitDefEqProofs (disch := omega) only [go_sem, h]
  refine hQ1 _ _ (S_ ?_);clear hQ1 Q1
  refine c1_ ?_
  refine n_ ?_
  refine dr_ mixed [2] 0 1 [B] [⟨[1],[0],[],[],false⟩,⟨[6],[],[],[],true⟩,⟨[1],[],[],[],false⟩,⟨[8],[0],[],[],false⟩,⟨[9],[],[],[],true⟩,⟨[7,10],[],[],[],false⟩,⟨[11],[],[],[],false⟩] [0,2,3,1,4,5,6] [[],[0],[],[2],[0,1,2,3],[0,1,2,3,4],[0,1,2,3,4,5]] 1 ?_
  intro O A K hO hA hK;simp only [atL_cons,atL_nil,Nat.reduceAdd,Nat.zero_add] at hO hA
  simp -implicitDefEqProofs (disch := omega) only [go_sem, bin_adds, hO, hA]
  refine loud_p (letter_ok a h) Tryd.call45 rfl rfl (by first | rfl | (simp -implicitDefEqProofs (disch := omega) only [go_sem] <;> rfl)) rfl ?_
  simp -implicitDefEqProofs (disch := omega) only [go_sem, bin_adds, hO, hA]
  refine loud_p (itoa_ok a.at' (by omega) (by omega)) Tryd.call23 rfl rfl (by first | rfl | (simp -implicitDefEqProofs (disch := omega) only [go_sem] <;> rfl)) rfl ?_
  simp -implicitDefEqProofs (disch := omega) only [go_sem, bin_adds, hO, hA]
  refine hK _ (S_ ?_);clear hK K hO hA O A
  refine e_ Tryd.results27 ?_
  first
  | exact True.intro
  | rfl
theorem word1_ok (e : Ex) (h : isNum e.n = true) : PureF Tryd.prog 100 [.agg [], .agg e.cs] [.str (fmtS e.n)] := by
  have hn : -1000000 ≤ e.n ∧ e.n ≤ 1000000 := by simp [isNum] at h; omega
  refine pureF_of Tryd.func100 rfl Tryd.ntmps100 (by simp) T_ ?_
  intro f0 B Q hQ
  refine g_ [3] ?_
  refine n_ ?_
  refine wpM_regionK [4] rfl fun Q1 hQ1 => ?_
  refine S_ ?_
  refine cp_ (itoa_ok e.n hn.1 hn.2) Tryd.call23 ?_
  refine hQ1 _ _ (S_ ?_);clear hQ1 Q1
  exact e_ Tryd.results100 True.intro
theorem word2_ok (e : Ex) (h : e.a.ok = true) : PureF Tryd.prog 105 [.agg [], .agg e.cs] [.str (adrS e.a)] := by
  refine pureF_of Tryd.func105 rfl Tryd.ntmps105 (by simp) T_ ?_
  intro f0 B Q hQ
  refine g_ [3] ?_
  refine n_ ?_
  refine wpM_regionK [4] rfl fun Q1 hQ1 => ?_
  refine S_ ?_
  refine cp_ (addrText_ok e.a h) Tryd.call27 ?_
  refine hQ1 _ _ (S_ ?_);clear hQ1 Q1
  exact e_ Tryd.results105 True.intro
def notS : ByteArray := ⟨#[110, 111, 116]⟩
theorem word4_ok (e : Ex) : PureF Tryd.prog 114 [.agg [], .agg e.cs] [.str notS] := by
  refine pureF_of Tryd.func114 rfl Tryd.ntmps114 (by simp) T_ ?_
  intro f0 B Q hQ
  refine g_ [] ?_
  refine g_ [4] ?_
  refine e_ Tryd.results114 ?_
  first
  | exact True.intro
  | rfl
def twoL : List ByteArray := [⟨#[]⟩, ⟨#[]⟩, ⟨#[]⟩, ⟨#[97, 100, 100]⟩, ⟨#[115, 117, 98]⟩, ⟨#[109, 117, 108]⟩, ⟨#[108, 101, 115, 115]⟩, ⟨#[115, 97, 109, 101]⟩, ⟨#[97, 110, 100]⟩, ⟨#[111, 114]⟩]
theorem twoWords_ok : PureF Tryd.prog 110 [] [.rows 9 (strR twoL)] := by
  refine pureF_of Tryd.func110 rfl Tryd.ntmps110 (by simp) T_ ?_
  intro f0 B Q hQ
  have hr : rep 10 [PV.str ⟨#[]⟩] = [.str ⟨#[]⟩, .str ⟨#[]⟩, .str ⟨#[]⟩, .str ⟨#[]⟩, .str ⟨#[]⟩, .str ⟨#[]⟩, .str ⟨#[]⟩, .str ⟨#[]⟩, .str ⟨#[]⟩, .str ⟨#[]⟩] := rfl
  refine g_ [] ?_
  refine n_ ?_
  refine wpM_regionK [0] rfl fun Q1 hQ1 => ?_
  simp -implicitDefEqProofs (disch := omega) only [go_sem, hr, splice, List.take_succ_cons, List.take_zero, List.drop_succ_cons, List.drop_zero, List.cons_append, List.nil_append, List.length_cons, List.length_nil]
  refine hQ1 _ _ (S_ ?_);clear hQ1 Q1
  rw [show [PV.str ⟨#[]⟩, .str ⟨#[]⟩, .str ⟨#[]⟩, .str ⟨#[97, 100, 100]⟩, .str ⟨#[115, 117, 98]⟩, .str ⟨#[109, 117, 108]⟩, .str ⟨#[108, 101, 115, 115]⟩, .str ⟨#[115, 97, 109, 101]⟩, .str ⟨#[97, 110, 100]⟩, .str ⟨#[111, 114]⟩] = strC twoL from rfl]
  refine wpM_frz [B] [(9, B, 0, 10, strR twoL)] (by intro q hq; simp at hq; subst hq; simp -implicitDefEqProofs (disch := omega) only [go_sem]) (by intro q hq; simp only [List.mem_cons, List.not_mem_nil, or_false] at hq; subst hq; exact ⟨by simp, rowsOf_str (T := 9) T_ rfl⟩) ?_
  refine S_ ?_
  exact e_ Tryd.results110 True.intro
theorem word3_ok (e : Ex) (h : isTwo e.kind = true) : PureF Tryd.prog 109 [.agg [], .agg e.cs] [.str (twoL.getD e.kind.toNat default)] := by
  have hk : 3 ≤ e.kind ∧ e.kind ≤ 9 := by simp [isTwo] at h; omega
  refine pureF_of Tryd.func109 rfl Tryd.ntmps109 (by simp) T_ ?_
  intro f0 B Q hQ
  have h10 : twoL.length = 10 := rfl
  refine g_ [3] ?_
  refine n_ ?_
  refine dr_ mixed [4] 0 1 [B + 1] [⟨[],[],[],[],true⟩,⟨[3],[],[],[],false⟩,⟨[6],[0],[],[],false⟩,⟨[5,7],[],[],[],false⟩,⟨[8],[],[],[],false⟩,⟨[9],[],[],[],false⟩] [1,2,0,3,4,5] [[],[],[1],[0,1,2],[0,1,2,3],[0,1,2,3,4]] 1 ?_
  intro O A K hO hA hK;simp only [atL_cons,atL_nil,Nat.reduceAdd,Nat.zero_add] at hO hA
  simp -implicitDefEqProofs (disch := omega) only [go_sem, h10, hO, hA]
  refine loud_p (twoWords_ok) Tryd.call110 rfl rfl (by first | rfl | (simp -implicitDefEqProofs (disch := omega) only [go_sem] <;> rfl)) rfl ?_
  simp -implicitDefEqProofs (disch := omega) only [go_sem, h10, hO, hA]
  refine hK _ (S_ ?_);clear hK K hO hA O A
  refine e_ Tryd.results109 ?_
  first
  | exact True.intro
  | rfl
end Go.Proofs.YtnmfmeehmieifaaDoor
namespace Go.Proofs.YtnmfmeehmieifaaDoor
open Go Sg
set_option maxRecDepth 100000
set_option linter.unusedSimpArgs false
set_option linter.unusedVariables false
set_option linter.unusedSectionVars false
set_option maxHeartbeats 4000000
variable [TabK]
def wordS (e : Ex) : ByteArray := if e.kind == 1 then fmtS e.n else if e.kind == 2 then adrS e.a else if isTwo e.kind then twoL.getD e.kind.toNat default else notS
mutual
def wsE : Ex → List ByteArray
  | .mk k n a l => wordS (.mk k n a l) :: wsL l
def wsL : List Ex → List ByteArray
  | [] => []
  | e :: l => wsE e ++ wsL l
end
theorem wsE_eq (e : Ex) : wsE e = wordS e :: wsL e.kids := by cases e; rfl
theorem wsL_app (l l' : List Ex) : wsL (l ++ l') = wsL l ++ wsL l' := by
  induction l with
  | nil => rfl
  | cons x l ih => simp only [List.cons_append, wsL, ih, List.append_assoc]
theorem wsL_take (l : List Ex) (i : Nat) (h : i < l.length) : wsL (l.take (i + 1)) = wsL (l.take i) ++ wsE (l.getD i default) := by
  rw [List.take_succ_eq_append_getElem h, wsL_app]
  simp [wsL, List.getD, h]
theorem rec_word (e : Ex) (hn : recNil e.kind = false) (hs : shapeR e = true) : ∃ t fk, recOf e.kind = .iface t (.agg []) ∧
    (∀ args w, (callFunc fk args).run Tryd.prog w = .ok (.enter fk args) w) ∧ (∀ (v : Value) w, (method (Tryd.prog.types.size + Made.depth) t v "loop.example/stopgate/impl.word").run Tryd.prog w = .ok (fk, v) w) ∧ PureF Tryd.prog fk [.agg [], .agg e.cs] [.str (wordS e)] := by
  by_cases h1 : e.kind = 1
  · refine ⟨99, 100, by simp [recOf, h1], Tryd.call100, method_run info99 Tryd.underlying99 (by simp) (by rfl) rfl rfl, ?_⟩
    rw [show wordS e = fmtS e.n by simp [wordS, h1]]
    exact word1_ok e (by simp [shapeR, h1] at hs; exact hs.1)
  by_cases h2 : e.kind = 2
  · refine ⟨100, 105, by simp [recOf, h2], Tryd.call105, method_run info100 Tryd.underlying100 (by simp) (by rfl) rfl rfl, ?_⟩
    rw [show wordS e = adrS e.a by simp [wordS, h2]]
    exact word2_ok e (by simp [shapeR, h2] at hs; exact hs.1)
  by_cases h3 : isTwo e.kind = true
  · refine ⟨102, 109, by simp [recOf, h1, h2, h3], Tryd.call109, method_run info102 Tryd.underlying102 (by simp) (by rfl) rfl rfl, ?_⟩
    rw [show wordS e = twoL.getD e.kind.toNat default by simp [wordS, h1, h2, h3]]
    exact word3_ok e h3
  have h10 : e.kind = 10 := by
    simp only [Bool.not_eq_true] at h3
    simpa [recNil, h1, h2, h3] using hn
  refine ⟨103, 114, by simp [recOf, h10]; decide, Tryd.call114, method_run info103 Tryd.underlying103 (by simp) (by rfl) rfl rfl, ?_⟩
  rw [show wordS e = notS by simp [wordS, h10]; decide]
  exact word4_ok e
def wdRec (x b d fn : Nat) (fv : PV) (asg body : Code) (st : LoopState) (pe : Option Code) : AObj := .loop b d st pe fn 19 [(3, .ptr (x + 1) 0), (7, fv)] #[8, 9] asg body
@[go_sem] theorem wdRec_eq (x b d fn : Nat) (fv : PV) (asg body : Code) (st : LoopState) (pe : Option Code) : wdRec x b d fn fv asg body st pe = .loop b d st pe fn 19 [(3, .ptr (x + 1) 0), (7, fv)] #[8, 9] asg body := rfl
def wdSt (x : Nat) (rc : AObj) (b n y : Nat) (ws : List ByteArray) : List (Nat × AObj) :=
  [(x + 7, .cells 3 [.int .i64 (n : Int)]), (x + 5, rc), (y, .cells 9 (strC ws)), (x + 1, .cells 56 [.sl 9 y 0 ws.length]),
   (x + 6, .cells 97 [.fn (.yield b) [] []]), (x + 8, .cells 70 [.fn (.func 64) [] [.ptr (x + 7) 0, .ptr (x + 6) 0, .ptr (x + 8) 0]])]
@[go_sem] theorem wdSt_eq (x : Nat) (rc : AObj) (b n y : Nat) (ws : List ByteArray) : wdSt x rc b n y ws = [(x + 7, .cells 3 [.int .i64 (n : Int)]), (x + 5, rc), (y, .cells 9 (strC ws)), (x + 1, .cells 56 [.sl 9 y 0 ws.length]),
   (x + 6, .cells 97 [.fn (.yield b) [] []]), (x + 8, .cells 70 [.fn (.func 64) [] [.ptr (x + 7) 0, .ptr (x + 6) 0, .ptr (x + 8) 0]])] := rfl
def wdQ (x b d fn : Nat) (fv : PV) (asg body : Code) (e : Ex) (deep cnt : Nat) (ws : List ByteArray) (f0 : Nat → Option AObj) (B : Nat) (ex : ExitA) (s : MS) : Prop :=
  ex = .ret ∧ ∃ cnt' y' M' ws', vis e deep cnt = some cnt' ∧ cnt' ≤ 14 ∧ B ≤ y' ∧ y' < M' ∧ B ≤ M' ∧ ws' = ws ++ wsE e ∧ ws'.length = cnt' ∧ s = ⟨[(7, .bool true)], wdSt x (wdRec x b d fn fv asg body .ready none) b cnt' y' ws', f0, B, M', []⟩
theorem walkW_ok (x b d fn : Nat) (fv : PV) (asg body c : Code) (hcode : Tryd.f44.body.map rfs = some [(asg, body)]) (hc : Tryd.f64.body = some c) : ∀ (N : Nat) (e : Ex), e.sz ≤ N → e.sz ≤ 1099511627776 →
    ∀ (deep cnt y : Nat) (ws : List ByteArray) (dI : Int) (f0 : Nat → Option AObj) (B : Nat), dI = (deep : Int) → x + 9 ≤ B → (y = x + 2 ∨ x + 9 ≤ y) → y < B → f0 y = none → deep ≤ 6 → cnt ≤ 14 → ws.length = cnt → (vis e deep cnt).isSome = true →
      wpM Tryd.prog none 39 c ⟨envOf 0 [.agg e.cs, .int .i64 dI, .ptr (x + 7) 0, .ptr (x + 6) 0, .ptr (x + 8) 0], wdSt x (wdRec x b d fn fv asg body .ready none) b cnt y ws, f0, B, B, []⟩ (wdQ x b d fn fv asg body e deep cnt ws f0 B) := by
  have hcode' := Option.some.inj hcode
  simp only [rfs, List.nil_append, List.append_nil, List.cons.injEq, Prod.mk.injEq, and_true] at hcode'
  obtain ⟨hasg, hbody⟩ := hcode'
  obtain rfl : _ = c := Option.some.inj hc
  intro N
  induction N with
  | zero => intro e h; have := e.sz_pos; omega
  | succ N ih =>
    intro e hN hs deep cnt y ws dI f0 B hdI hB hy hyB hfy hd hcn hws hvis
    have hlen := e.kids_len
    have hbad : badE ((cnt : Int) + 1) (deep : Int) e = false := by
      rw [vis_eq] at hvis
      cases h : badE ((cnt : Int) + 1) (deep : Int) e with
      | false => rfl
      | true => rw [h] at hvis; simp at hvis
    have hvk : (visL e.kids (deep + 1) (cnt + 1)).isSome = true := by rw [vis_eq, hbad] at hvis; simpa using hvis
    have hb2 := hbad
    simp only [badE, Bool.or_eq_false_iff] at hb2
    obtain ⟨⟨⟨⟨hg1, hg2⟩, hrn⟩, _⟩, hsh⟩ := hb2
    have hsh' : shapeR e = true := by simpa using hsh
    have hg2' : deep < 6 := by simp at hg2; omega
    have hg1' : cnt + 1 ≤ 14 := by simp at hg1; omega
    obtain ⟨rt, fk, hr, q1, q2, q3⟩ := rec_word e hrn hsh'
    have hdel : okDel B f0 [(y, none)] = True := by simp [okDel, hfy]
    rw [← hdI] at hg2
    refine wpM_wk ?_
    refine g_ [1,2,3,4,5] ?_
    refine g_ [1,2,3,4,5] ?_
    refine n_ ?_
    refine wpM_regionK [1,4,5,24] rfl fun Q1 hQ1 => ?_
    refine S_ ?_
    refine OpM_roundK (x + 5) rfl rfl rfl rfl (by simp -implicitDefEqProofs (disch := omega) only [go_sem]; rfl) rfl rfl ?_
    intro K' hK'
    refine wpM_code hasg ?_
    simp -implicitDefEqProofs (disch := omega) only [go_sem]
    refine g_ [3,5] ?_
    refine ⟨d, none, fn, 19, [(3, .ptr (x + 1) 0), (7, fv)], #[8, 9], asg, body, rfl, ?_⟩
    refine wpM_code hbody ?_
    refine n_ ?_
    refine dr_ mixed [] 2 3 [x + 1, B + 1, y, B + 2, B + 3] [⟨[3],[0],[],[],false⟩,⟨[5],[],[],[],false⟩,⟨[11],[1],[],[],false⟩,⟨[12],[],[],[],true⟩,⟨[5],[1],[],[],false⟩,⟨[13,14],[],[],[],true⟩,⟨[15],[],[],[3],false⟩,⟨[10,16],[2,3],[2],[4],false⟩,⟨[3,17],[0],[0],[],false⟩] [0,1,2,4,3,5,6,7,8] [[],[],[1],[1,2],[],[1,2,3,4],[1,2,3,4,5],[0,1,2,3,4,5,6],[0,1,2,3,4,5,6,7]] 5 (htbl := by simp; omega) (hnm := by simp) ?_
    intro O A K hO hA hK;simp only [atL_cons,atL_nil,Nat.reduceAdd,Nat.zero_add] at hO hA
    simp -implicitDefEqProofs (disch := omega) only [go_sem, hdel, hO, hA]
    refine loud_p (recOf_ok e.kind) Tryd.call56 rfl rfl (by first | rfl | (simp -implicitDefEqProofs (disch := omega) only [go_sem] <;> rfl)) rfl ?_
    simp -implicitDefEqProofs (disch := omega) only [go_sem, hdel, hO, hA]
    refine loudi_p (args := [.agg e.cs]) q3 q1 q2 rfl (by simp -implicitDefEqProofs (disch := omega) only [go_sem, hr]) T_ rfl ?_
    simp -implicitDefEqProofs (disch := omega) only [go_sem, hdel, hO, hA]
    refine hK _ (S_ ?_);clear hK K hO hA O A
    rw [show ws.length + 1 = (ws ++ [wordS e]).length by simp]
    generalize hW : ws ++ [wordS e] = W
    have hWl : W.length = cnt + 1 := by rw [← hW]; simp [hws]
    refine ⟨d, .busy, none, fn, 19, [(3, .ptr (x + 1) 0), (7, fv)], #[8, 9], asg, body, by simp -implicitDefEqProofs (disch := omega) only [go_sem], ?_⟩
    refine hK' _ ?_; clear hK' K'
    simp -implicitDefEqProofs (disch := omega) only [go_sem, hg1, hg2]
    refine hQ1 _ _ (S_ ?_);clear hQ1 Q1
    refine c1_ ?_
    refine g_ [1,4,26,27,28] ?_
    refine n_ ?_
    refine wpM_loopS (fun s n s' => ∃ (i M ci Y : Nat) (W2 : List ByteArray), i + n = e.kids.length ∧ B + 4 ≤ M ∧ visL (e.kids.take i) (deep + 1) (cnt + 1) = some ci ∧ ci ≤ 14 ∧ B + 2 ≤ Y ∧ Y < M ∧ W2 = W ++ wsL (e.kids.take i) ∧ W2.length = ci ∧ s' = { s with env := setE 28 (.int .i64 (i : Nat)) s.env, l := wdSt x (wdRec x b d fn fv asg body .ready none) b ci Y W2 ++ [(B, .cells 42 e.cs)], M := M }) (e.kids.length) ?_ ?_
    ·
      refine .of' _ _ ⟨0, _, cnt + 1, B + 3, W, by omega, ?_, rfl, hg1', by omega, ?_, by simp [wsL], hWl, rfl⟩ ?_ ?_ ?_
      · first | omega | (simp -implicitDefEqProofs (disch := omega) only [go_sem]; done)
      · first | omega | (simp -implicitDefEqProofs (disch := omega) only [go_sem]; done) | (simp -implicitDefEqProofs (disch := omega) only [go_sem]; omega)
      all_goals exact L_
    rintro n s' ⟨i, M, ci, Y, W2, hi, hM, hv, hci, hY1, hY2, hW2, hW2l, rfl⟩
    try refine S_ ?_
    refine g_ [1,4,26,27,28,29] ?_
    refine c_ (fun hc1 => ?_) fun hc1 => ?_
    ·
      have hl0 : i < e.kids.length := by omega
      have hks := Ex.kid_sz hl0
      have hv1 : (vis (e.kids.getD i default) (deep + 1) ci).isSome = true := by
        have hx : visL e.kids (deep + 1) (cnt + 1) = (visL (e.kids.take (i + 1)) (deep + 1) (cnt + 1)).bind (visL (e.kids.drop (i + 1)) (deep + 1)) := by
          conv => lhs; rw [← List.take_append_drop (i + 1) e.kids]
          exact visL_append _ _ _ _
        rw [visL_take _ _ _ _ hl0, hv] at hx
        cases h : vis (e.kids.getD i default) (deep + 1) ci with
        | some _ => rfl
        | none =>
          simp only [Option.bind_some, h, Option.bind_none] at hx
          rw [hx] at hvk; exact hvk
      refine g_ [1,4,9,26,27,28] ?_
      refine n_ ?_
      refine wpM_regionK [1,4,26,27,28,37] rfl fun Q1 hQ1 => ?_
      refine S_ ?_
      refine OpM_inlineK (first := []) (ps := [.agg (e.kids.getD i default).cs, .int .i64 (dI + 1)]) (cap := [.ptr (x + 7) 0, .ptr (x + 6) 0, .ptr (x + 8) 0]) Tryd.func64 rfl Tryd.ntmps64 (by simp) Tryd.call64 rfl rfl F_ F_ ?_
      intro K' hK'
      refine wpM_frameC (wdSt x (wdRec x b d fn fv asg body .ready none) b ci Y W2) [(M, .cells 42 (e.kids.getD i default).cs), (B, .cells 42 e.cs)] T_ T_ T_ (by simp -implicitDefEqProofs (disch := omega) only [go_sem, true_or, or_true]) T_ ?_
      intro f1
      have hf1 : cutL (wdSt x (wdRec x b d fn fv asg body .ready none) b ci Y W2) f1 Y = none := by
        have h1 : ¬ (x + 7 = Y) := by omega
        have h2 : ¬ (x + 5 = Y) := by omega
        simp [cutL, wdSt, lk, h1, h2]
      generalize cutL (wdSt x (wdRec x b d fn fv asg body .ready none) b ci Y W2) f1 = F1 at *
      refine wpM_mono (ih (e.kids.getD i default) (by omega) (by omega) (deep + 1) ci Y W2 (dI + 1) F1 (M + 1) (by rw [hdI]; rfl) (by omega) (by omega) (by omega) hf1 (by omega) hci hW2l hv1) ?_
      rintro ex s' ⟨rfl, cnt', y', M', ws', h1, h2, h3, h4, h5, h6, h7, rfl⟩
      refine ⟨rfl, rfl, T_, (by simp -implicitDefEqProofs (disch := omega) only [go_sem, true_or, or_true]), ?_⟩
      refine ⟨[], rfl, trivial, [.bool true], (by rw [Tryd.results64]; simp -implicitDefEqProofs (disch := omega) only [go_sem]), ?_⟩
      refine hK' _ ?_; clear hK' K'
      have hv2 : visL (e.kids.take (i + 1)) (deep + 1) (cnt + 1) = some cnt' := by rw [visL_take _ _ _ _ hl0, hv]; exact h1
      refine S_ ?_
      refine hQ1 _ _ (S_ ?_);clear hQ1 Q1
      refine c1_ ?_
      refine g_ [1,4,26,27,28] ?_
      refine .of' _ _ ⟨n - 1, by omega, i + 1, _, cnt', y', ws', by omega, ?_, hv2, h2, by omega, h4, by rw [h6, hW2, wsL_take _ _ hl0, List.append_assoc], h7, rfl⟩ ?_ ?_ ?_
      · first | omega | (simp -implicitDefEqProofs (disch := omega) only [go_sem]; done) | (simp -implicitDefEqProofs (disch := omega) only [go_sem]; omega)
      all_goals exact L_
    refine g_ [7] ?_
    refine wpM_ret ?_
    try refine S_ ?_
    have hie : i = e.kids.length := by omega
    rw [hie, List.take_of_length_le (Nat.le_refl _)] at hv hW2
    refine .of' _ _ ⟨rfl, ci, Y, _, W2, ?_, hci, by omega, ?_, ?_, ?_, hW2l, rfl⟩ ?_ ?_ ?_
    · rw [vis_eq, hbad]; exact hv
    · first | omega | (simp -implicitDefEqProofs (disch := omega) only [go_sem]; done) | (simp -implicitDefEqProofs (disch := omega) only [go_sem]; omega)
    · first | omega | (simp -implicitDefEqProofs (disch := omega) only [go_sem]; done) | (simp -implicitDefEqProofs (disch := omega) only [go_sem]; omega)
    · rw [hW2, ← hW, wsE_eq, List.append_assoc]; rfl
    all_goals exact L_
theorem wordsOf_ok (e : Ex) (hs : e.sz ≤ 1099511627776) (hv : (vis e 0 0).isSome = true) : PureF Tryd.prog 44 [.agg e.cs] [.rows 9 (strR (wsE e))] := by
  refine pureF_ofM Tryd.func44 rfl Tryd.ntmps44 (by simp) T_ ?_
  intro f0 B Q hQ
  obtain ⟨asg, body, hcode⟩ : ∃ asg body, Tryd.f44.body.map rfs = some [(asg, body)] := ⟨_, _, rfl⟩
  have hcode' := Option.some.inj hcode
  simp only [rfs, List.nil_append, List.append_nil, List.cons.injEq, Prod.mk.injEq, and_true] at hcode'
  obtain ⟨hasg, hbody⟩ := hcode'
  refine g_ [1,9] ?_
  refine g_ [1,3,9] ?_
  refine wpM_nil 9 [(1, .ptr B 0), (3, .ptr (B + 1) 0)] [(B + 1, .cells 56 [.sl 9 (B + 1 + 1) 0 0]), (B, .cells 42 e.cs)] T_ T_ T_ ?_
  simp -implicitDefEqProofs (disch := omega) only [go_sem]
  refine n_ ?_
  refine wpM_regionK [3,7,9] rfl fun Q1 hQ1 => ?_
  refine S_ ?_
  refine call_fn (l := []) (first := []) (cap := []) (ps := [.agg e.cs]) (parts_ok e) Tryd.call55 rfl rfl rfl T_ T_ ?_
  rintro out ⟨x, hns, rfl⟩
  injection hns with hn1 hns
  subst hn1
  refine S_ ?_
  refine hQ1 _ _ (S_ ?_);clear hQ1 Q1
  refine n_ ?_
  refine wpM_code (c' := Code.rangeFunc (.tmp 7) #[8, 9] asg body) (by rw [← hasg, ← hbody]) ?_
  refine wpM_rangeFunc (first := []) (cap := [.ptr (B + 3) 0]) T_ Tryd.func63 rfl Tryd.ntmps63 (by simp) Tryd.call63 ?_
  intro fn b d
  refine g_ [1,2] ?_
  refine g_ [1,2,3] ?_
  refine g_ [1,2,3,4] ?_
  refine g_ [1,4] ?_
  refine wpM_regionK [] rfl fun Q1 hQ1 => ?_
  refine S_ ?_
  simp -implicitDefEqProofs (disch := omega) only [go_sem, Nat.add_assoc]
  refine OpM_inlineK (first := []) (ps := [.agg e.cs, .int .i64 0]) (cap := [.ptr (B + 7) 0, .ptr (B + 6) 0, .ptr (B + 8) 0]) Tryd.func64 rfl Tryd.ntmps64 (by simp) Tryd.call64 rfl rfl F_ F_ ?_
  intro K' hK'
  refine wpM_frameC (wdSt B (wdRec B b d fn (.fn (.func 63) [] [.ptr (B + 3) 0]) asg body .ready none) b 0 (B + 2) []) [(B + 4, .dfr d), (B + 3, .cells 42 e.cs), (B, .cells 42 e.cs)] (by simp -implicitDefEqProofs (disch := omega) only [go_sem, Int.natCast_zero, strC, List.map_nil, List.length_nil]) T_ T_ (by simp -implicitDefEqProofs (disch := omega) only [go_sem, true_or, or_true]) T_ ?_
  intro f1
  have hf1 : cutL (wdSt B (wdRec B b d fn (.fn (.func 63) [] [.ptr (B + 3) 0]) asg body .ready none) b 0 (B + 2) []) f1 (B + 2) = none := by simp [cutL, wdSt, lk]
  generalize cutL (wdSt B (wdRec B b d fn (.fn (.func 63) [] [.ptr (B + 3) 0]) asg body .ready none) b 0 (B + 2) []) f1 = F1 at *
  refine wpM_mono (walkW_ok B b d fn (.fn (.func 63) [] [.ptr (B + 3) 0]) asg body _ hcode rfl e.sz e (Nat.le_refl _) hs 0 0 (B + 2) [] 0 F1 (B + 9) rfl (by omega) (by omega) (by omega) hf1 (by omega) (by omega) rfl hv) ?_
  rintro ex s' ⟨rfl, cnt', y', M', ws', k1, k2, k3, k4, k5, k6, k7, rfl⟩
  obtain rfl : ws' = wsE e := by simpa using k6
  refine ⟨rfl, rfl, T_, (by simp -implicitDefEqProofs (disch := omega) only [go_sem, true_or, or_true]), ?_⟩
  refine ⟨[], rfl, trivial, [.bool true], (by rw [Tryd.results64]; simp -implicitDefEqProofs (disch := omega) only [go_sem]), ?_⟩
  refine hK' _ ?_; clear hK' K'
  refine S_ ?_
  refine hQ1 _ _ (S_ ?_);clear hQ1 Q1
  refine ⟨[], rfl, trivial, [], (by rw [Tryd.results63]; simp -implicitDefEqProofs (disch := omega) only [go_sem]), ?_⟩
  refine ⟨d, .ready, none, fn, 19, [(3, .ptr (B + 1) 0), (7, .fn (.func 63) [] [.ptr (B + 3) 0])], #[8, 9], asg, body, T_, (by simp), ?_⟩
  simp -implicitDefEqProofs (disch := omega) only [go_sem, Nat.add_assoc]
  refine g_ [2] ?_
  refine wpM_frz [y'] [(9, y', 0, (wsE e).length, strR (wsE e))] (by intro q hq; simp at hq; subst hq; simp -implicitDefEqProofs (disch := omega) only [go_sem]) (by intro q hq; simp only [List.mem_cons, List.not_mem_nil, or_false] at hq; subst hq; exact ⟨by simp, rowsOf_str (T := 9) T_ rfl⟩) ?_
  refine S_ ?_
  refine wpM_ret ?_
  try refine S_ ?_
  refine hQ [B + 4] _ _ rfl rfl rfl ⟨⟨by simp -implicitDefEqProofs (disch := omega) only [go_sem], ⟨d, by simp -implicitDefEqProofs (disch := omega) only [go_sem]⟩, by simp⟩, trivial⟩ (by simp -implicitDefEqProofs (disch := omega) only [go_sem, true_or]) ?_ (.inl rfl)
  rw [Tryd.results44]
  simp -implicitDefEqProofs (disch := omega) only [go_sem]
mutual
theorem wsE_len : (e : Ex) → (wsE e).length = e.sz
  | .mk k n a l => by simp only [wsE, Ex.sz, List.length_cons, wsL_len l]; omega
theorem wsL_len : (l : List Ex) → (wsL l).length = Ex.szL l
  | [] => rfl
  | e :: l => by simp only [wsL, Ex.szL, List.length_append, wsE_len e, wsL_len l]
end
end Go.Proofs.YtnmfmeehmieifaaDoor
namespace Go.Proofs.YtnmfmeehmieifaaDoor
open Go Sg
set_option linter.unusedSectionVars false
variable [Glob]
set_option maxRecDepth 100000
set_option linter.unusedSimpArgs false
set_option linter.unusedVariables false
set_option maxHeartbeats 4000000
structure Trn where
  fr : List Int
  to' : List Int
  w : Ex
  deriving Inhabited
structure GAct where
  kind : Int
  step : Int
  to' : AD
  deriving DecidableEq, Inhabited
structure Cht where
  steps : Int
  ts : List Trn
  as' : List GAct
  deriving Inhabited
structure Mrk where
  on : List Bool
  kept : List Bool
  deriving DecidableEq, Inhabited
def Trn.cs (t : Trn) : List PV := [.rows 3 (rowsI t.fr), .rows 3 (rowsI t.to'), .int .i64 t.w.kind, .int .i64 t.w.n, .int .i64 t.w.a.kind, .int .i64 t.w.a.at', .rows 42 (Ex.csL t.w.kids)]
@[go_sem] theorem Trn.cs_eq (t : Trn) : t.cs = [.rows 3 (rowsI t.fr), .rows 3 (rowsI t.to'), .int .i64 t.w.kind, .int .i64 t.w.n, .int .i64 t.w.a.kind, .int .i64 t.w.a.at', .rows 42 (Ex.csL t.w.kids)] := rfl
def GAct.cs (a : GAct) : List PV := [.int .i64 a.kind, .int .i64 a.step, .int .i64 a.to'.kind, .int .i64 a.to'.at']
@[go_sem] theorem GAct.cs_eq (a : GAct) : a.cs = [.int .i64 a.kind, .int .i64 a.step, .int .i64 a.to'.kind, .int .i64 a.to'.at'] := rfl
def rowsT (l : List Trn) : List (List PV) := l.map Trn.cs
def rowsA (l : List GAct) : List (List PV) := l.map GAct.cs
@[go_sem] theorem rowsT_len (l : List Trn) : (rowsT l).length = l.length := by simp [rowsT]
@[go_sem] theorem rowsT_getD (l : List Trn) (k : Nat) (h : k < l.length) : (rowsT l).getD k [] = (l.getD k default).cs := by simp [rowsT, List.getD, h]
@[go_sem] theorem rowsA_len (l : List GAct) : (rowsA l).length = l.length := by simp [rowsA]
@[go_sem] theorem rowsA_getD (l : List GAct) (k : Nat) (h : k < l.length) : (rowsA l).getD k [] = (l.getD k default).cs := by simp [rowsA, List.getD, h]
def Cht.cs (c : Cht) : List PV := [.int .i64 c.steps, .rows 44 (rowsT c.ts), .rows 51 (rowsA c.as')]
@[go_sem] theorem Cht.cs_eq (c : Cht) : c.cs = [.int .i64 c.steps, .rows 44 (rowsT c.ts), .rows 51 (rowsA c.as')] := rfl
def Mrk.cs (k : Mrk) : List PV := [.rows 4 (rowsB k.on), .rows 4 (rowsB k.kept)]
@[go_sem] theorem Mrk.cs_eq (k : Mrk) : k.cs = [.rows 4 (rowsB k.on), .rows 4 (rowsB k.kept)] := rfl
def plBad (l : List Int) (b : Int) (i : Nat) : Bool := decide (l.getD i 0 < 0) || decide (l.getD i 0 ≥ b) || (decide ((i : Int) > 0) && decide (l.getD i 0 ≤ l.getD ((i : Int) - 1).toNat 0))
def plOk (l : List Int) (b : Int) : Bool := (List.range l.length).all (fun i => !plBad l b i) && decide ((l.length : Int) > 0)
theorem plOk_ok (l : List Int) (b : Int) (hl : l.length ≤ 1099511627776) : PureF Tryd.prog 19 [.rows 3 (rowsI l), .int .i64 b] [.bool (plOk l b)] := by
  refine pureF_of Tryd.func19 rfl Tryd.ntmps19 (by simp) T_ ?_
  intro f0 B Q hQ
  refine g_ [0,1] ?_
  refine g_ [0,1,5] ?_
  refine n_ ?_
  refine wpM_loopS (fun s n s' => ∃ (i0 M0 : Nat) , i0 + n = l.length ∧ s.M ≤ M0 ∧ ((List.range i0).all (fun i => !plBad l b i) = true) ∧ s' = { s with env := setE 5 (.int .i64 (i0 : Nat)) s.env, M := M0 }) (l.length) ?_ ?_
  ·
    refine .of' _ _ ⟨0, _, by omega, Nat.le_refl _, by simp, rfl⟩ ?_ ?_ ?_ <;> exact L_
  rintro n0 s' ⟨i0, M0, hi0, hM0, hv0, rfl⟩
  try dsimp only at hM0
  try refine S_ ?_
  refine g_ [0,1,5,9] ?_
  refine c_ (fun hc0 => ?_) fun hc0 => ?_
  ·
    have hl0 : i0 < l.length := by omega
    refine n_ ?_
    refine dr_ mixed [0,1,5,40] 0 0 [] [⟨[0],[],[],[],false⟩,⟨[5],[],[],[],false⟩,⟨[12,13],[],[],[],false⟩,⟨[14],[],[],[],false⟩,⟨[15],[],[],[],false⟩,⟨[16],[],[],[],false⟩,⟨[0,17],[],[],[],false⟩,⟨[5,17],[],[],[],false⟩,⟨[17,18,19],[],[],[],false⟩,⟨[17,20],[],[],[],false⟩,⟨[1,17],[],[],[],false⟩,⟨[17,21,22],[],[],[],false⟩,⟨[17,23],[],[],[],false⟩,⟨[24],[],[],[],false⟩,⟨[5,25],[],[],[],false⟩,⟨[25,26],[],[],[],false⟩,⟨[25,27],[],[],[],false⟩,⟨[0,28],[],[],[],false⟩,⟨[5,28],[],[],[],false⟩,⟨[28,29,30],[],[],[],false⟩,⟨[28,31],[],[],[],false⟩,⟨[0,28],[],[],[],false⟩,⟨[5,28],[],[],[],false⟩,⟨[28,34],[],[],[],false⟩,⟨[28,33,35],[],[],[],false⟩,⟨[28,36],[],[],[],false⟩,⟨[28,32,37],[],[],[],false⟩,⟨[25,28,38],[],[],[],false⟩,⟨[25,39],[],[],[],false⟩] [0,1,2,3,4,5,6,7,8,9,10,11,12,13,14,15,16,17,18,19,20,21,22,23,24,25,26,27,28] [[],[],[0,1],[0,1,2],[0,1,2,3],[0,1,2,3,4],[0,1,2,3,4,5],[0,1,2,3,4,5],[0,1,2,3,4,5,6,7],[0,1,2,3,4,5,6,7,8],[0,1,2,3,4,5],[0,1,2,3,4,5,6,7,8,9,10],[0,1,2,3,4,5,6,7,8,9,10,11],[0,1,2,3,4,5,6,7,8,9,10,11,12],[0,1,2,3,4,5,6,7,8,9,10,11,12,13],[0,1,2,3,4,5,6,7,8,9,10,11,12,13,14],[0,1,2,3,4,5,6,7,8,9,10,11,12,13,14,15],[0,1,2,3,4,5,6,7,8,9,10,11,12,13,14,15,16],[0,1,2,3,4,5,6,7,8,9,10,11,12,13,14,15,16],[0,1,2,3,4,5,6,7,8,9,10,11,12,13,14,15,16,17,18],[0,1,2,3,4,5,6,7,8,9,10,11,12,13,14,15,16,17,18,19],[0,1,2,3,4,5,6,7,8,9,10,11,12,13,14,15,16],[0,1,2,3,4,5,6,7,8,9,10,11,12,13,14,15,16],[0,1,2,3,4,5,6,7,8,9,10,11,12,13,14,15,16,22],[0,1,2,3,4,5,6,7,8,9,10,11,12,13,14,15,16,21,22,23],[0,1,2,3,4,5,6,7,8,9,10,11,12,13,14,15,16,21,22,23,24],[0,1,2,3,4,5,6,7,8,9,10,11,12,13,14,15,16,17,18,19,20,21,22,23,24,25],[0,1,2,3,4,5,6,7,8,9,10,11,12,13,14,15,16,17,18,19,20,21,22,23,24,25,26],[0,1,2,3,4,5,6,7,8,9,10,11,12,13,14,15,16,17,18,19,20,21,22,23,24,25,26,27]] 0 ?_
    intro O A K hO hA hK;simp only [atL_cons,atL_nil,Nat.reduceAdd,Nat.zero_add] at hO hA
    refine SE_ ?_
    refine hK _ (S_ ?_);clear hK K hO hA O A
    refine c_ (fun hc1 => ?_) fun hc1 => ?_
    ·
      refine g_ [4] ?_
      refine e_ Tryd.results19 ?_
      first
      | exact True.intro
      | first | (have h1 : plBad l b i0 = true := hc1
                 rw [plOk, range_no hl0 (by rw [h1]; rfl)]; rfl) | (have : i0 = l.length := by omega
                                                                    rw [plOk, ← this, hv0]; rfl)
    refine g_ [0,1,5] ?_
    refine .of' _ _ ⟨n0 - 1, by omega, i0 + 1, _, by omega, M_, ?_, rfl⟩ L_ L_ L_
    rw [range_all, hv0]
    have : plBad l b i0 = false := hc1
    rw [this]; rfl
  refine g_ [4] ?_
  refine e_ Tryd.results19 ?_
  first
  | exact True.intro
  | first | (have h1 : plBad l b i0 = true := hc1
             rw [plOk, range_no hl0 (by rw [h1]; rfl)]; rfl) | (have : i0 = l.length := by omega
                                                                rw [plOk, ← this, hv0]; rfl)
structure Trn.Sm (t : Trn) : Prop where
  fr : t.fr.length ≤ 1099511627776
  to' : t.to'.length ≤ 1099511627776
  w : t.w.sz ≤ 1099511627776
structure Cht.Sm (c : Cht) : Prop where
  ts : c.ts.length ≤ 1099511627776
  as' : c.as'.length ≤ 1099511627776
  t : ∀ i, i < c.ts.length → (c.ts.getD i default).Sm
def Trn.bad (s : Int) (t : Trn) : Bool := !plOk t.fr s || !plOk t.to' s || !t.w.ok
def GAct.bad (s : Int) (a : GAct) : Bool := decide (a.kind < 1) || decide (a.kind > 4) || decide (a.step < 0) || decide (a.step ≥ s) || !a.to'.ok || a.to'.kind != 2
def Cht.ok (c : Cht) : Bool := if decide (c.steps < 1) || decide (c.steps > 6) || decide ((c.ts.length : Int) > 6) || decide ((c.as'.length : Int) > 6) then false
  else c.ts.all (fun t => !t.bad c.steps) && c.as'.all (fun a => !a.bad c.steps)
theorem chtOk_ok (c : Cht) (hc : c.Sm) : PureF Tryd.prog 8 [.agg c.cs] [.bool c.ok] := by
  have hts := hc.ts
  have has := hc.as'
  refine pureF_of Tryd.func8 rfl Tryd.ntmps8 (by simp) T_ ?_
  intro f0 B Q hQ
  refine g_ [1] ?_
  refine gD_ [1,26] ?_
  refine c_ (fun hc0 => ?_) fun hc0 => ?_
  ·
    refine g_ [2] ?_
    refine e_ Tryd.results8 ?_
    first
    | exact True.intro
    | unfold Cht.ok
      first
      | rw [if_pos hc0]
      | (have hb : (c.ts.getD i0 default).bad c.steps = true := hc2
         rw [if_neg (by rw [hc0]; simp), all_no (p := fun t => !t.bad c.steps) hl0 (by simp only [hb]; rfl)]; rfl)
      | (have hb : (c.as'.getD i1 default).bad c.steps = true := hc4
         rw [if_neg (by rw [hc0]; simp), all_no (l := c.as') (p := fun t => !t.bad c.steps) hl1 (by simp only [hb]; rfl), Bool.and_false])
      | rw [if_neg (by rw [hc0]; simp), all_yes hi0 hc1 hv0, all_yes hi1 hc3 hv1]; rfl
  refine g_ [1,3] ?_
  refine n_ ?_
  refine wpM_loopS (fun s n s' => ∃ (i0 M0 : Nat) , i0 + n = c.ts.length ∧ s.M ≤ M0 ∧ ((c.ts.take i0).all (fun t => !t.bad c.steps) = true) ∧ s' = { s with env := setE 3 (.int .i64 (i0 : Nat)) s.env, M := M0 }) (c.ts.length) ?_ ?_
  ·
    refine .of' _ _ ⟨0, _, by omega, Nat.le_refl _, by simp, rfl⟩ ?_ ?_ ?_ <;> exact L_
  rintro n0 s' ⟨i0, M0, hi0, hM0, hv0, rfl⟩
  try dsimp only at hM0
  try refine S_ ?_
  refine g_ [1,3,31] ?_
  refine c_ (fun hc1 => ?_) fun hc1 => ?_
  ·
    have hl0 : i0 < c.ts.length := by omega
    have ht := hc.t i0 hl0
    refine g_ [1,3,4] ?_
    refine n_ ?_
    refine wpM_regionK [1,3,58] rfl fun Q1 hQ1 => ?_
    refine SD_ ?_
    refine cpD_ (plOk_ok (c.ts.getD i0 default).fr c.steps ht.fr) Tryd.call19 ?_
    first | refine cg_ (fun hb => plOk_ok (c.ts.getD i0 default).to' c.steps ht.to') Tryd.call19 ?_ | refine cpD_ (plOk_ok (c.ts.getD i0 default).to' c.steps ht.to') Tryd.call19 ?_
    first | refine cg_ (fun hb => exprOk_ok (c.ts.getD i0 default).w ht.w) Tryd.call20 ?_ | refine cpD_ (exprOk_ok (c.ts.getD i0 default).w ht.w) Tryd.call20 ?_
    refine hQ1 _ _ (S_ ?_);clear hQ1 Q1
    refine c_ (fun hc2 => ?_) fun hc2 => ?_
    ·
      refine g_ [2] ?_
      refine e_ Tryd.results8 ?_
      first
      | exact True.intro
      | unfold Cht.ok
        first
        | rw [if_pos hc0]
        | (have hb : (c.ts.getD i0 default).bad c.steps = true := hc2
           rw [if_neg (by rw [hc0]; simp), all_no (p := fun t => !t.bad c.steps) hl0 (by simp only [hb]; rfl)]; rfl)
        | (have hb : (c.as'.getD i1 default).bad c.steps = true := hc4
           rw [if_neg (by rw [hc0]; simp), all_no (l := c.as') (p := fun t => !t.bad c.steps) hl1 (by simp only [hb]; rfl), Bool.and_false])
        | rw [if_neg (by rw [hc0]; simp), all_yes hi0 hc1 hv0, all_yes hi1 hc3 hv1]; rfl
    refine g_ [1,3] ?_
    refine .of' _ _ ⟨n0 - 1, by omega, i0 + 1, _, by omega, M_, ?_, rfl⟩ L_ L_ L_
    have hb : (c.ts.getD i0 default).bad c.steps = false := hc2
    rw [take_all _ _ _ hl0, hv0, hb]; rfl
  refine g_ [1,5] ?_
  refine n_ ?_
  refine wpM_loopS (fun s n s' => ∃ (i1 M1 : Nat) , i1 + n = c.as'.length ∧ s.M ≤ M1 ∧ ((c.as'.take i1).all (fun a => !a.bad c.steps) = true) ∧ s' = { s with env := setE 5 (.int .i64 (i1 : Nat)) s.env, M := M1 }) (c.as'.length) ?_ ?_
  ·
    refine .of' _ _ ⟨0, _, by omega, Nat.le_refl _, by simp, rfl⟩ ?_ ?_ ?_ <;> exact L_
  rintro n1 s' ⟨i1, M1, hi1, hM1, hv1, rfl⟩
  try dsimp only at hM1
  try refine S_ ?_
  refine g_ [1,5,63] ?_
  refine c_ (fun hc3 => ?_) fun hc3 => ?_
  ·
    have hl1 : i1 < c.as'.length := by omega
    refine g_ [1,5,6] ?_
    refine n_ ?_
    refine wpM_regionK [1,5,102] rfl fun Q1 hQ1 => ?_
    refine SD_ ?_
    first | refine cg_ (fun hb => addrOk_ok (c.as'.getD i1 default).to') Tryd.call21 ?_ | refine cpD_ (addrOk_ok (c.as'.getD i1 default).to') Tryd.call21 ?_
    refine hQ1 _ _ (S_ ?_);clear hQ1 Q1
    refine c_ (fun hc4 => ?_) fun hc4 => ?_
    ·
      refine g_ [2] ?_
      refine e_ Tryd.results8 ?_
      first
      | exact True.intro
      | unfold Cht.ok
        first
        | rw [if_pos hc0]
        | (have hb : (c.ts.getD i0 default).bad c.steps = true := hc2
           rw [if_neg (by rw [hc0]; simp), all_no (p := fun t => !t.bad c.steps) hl0 (by simp only [hb]; rfl)]; rfl)
        | (have hb : (c.as'.getD i1 default).bad c.steps = true := hc4
           rw [if_neg (by rw [hc0]; simp), all_no (l := c.as') (p := fun t => !t.bad c.steps) hl1 (by simp only [hb]; rfl), Bool.and_false])
        | rw [if_neg (by rw [hc0]; simp), all_yes hi0 hc1 hv0, all_yes hi1 hc3 hv1]; rfl
    refine g_ [1,5] ?_
    refine .of' _ _ ⟨n1 - 1, by omega, i1 + 1, _, by omega, M_, ?_, rfl⟩ L_ L_ L_
    have hb : (c.as'.getD i1 default).bad c.steps = false := hc4
    rw [take_all _ _ _ hl1, hv1, hb]; rfl
  refine g_ [2] ?_
  refine e_ Tryd.results8 ?_
  first
  | exact True.intro
  | unfold Cht.ok
    first
    | rw [if_pos hc0]
    | (have hb : (c.ts.getD i0 default).bad c.steps = true := hc2
       rw [if_neg (by rw [hc0]; simp), all_no (p := fun t => !t.bad c.steps) hl0 (by simp only [hb]; rfl)]; rfl)
    | (have hb : (c.as'.getD i1 default).bad c.steps = true := hc4
       rw [if_neg (by rw [hc0]; simp), all_no (l := c.as') (p := fun t => !t.bad c.steps) hl1 (by simp only [hb]; rfl), Bool.and_false])
    | rw [if_neg (by rw [hc0]; simp), all_yes hi0 hc1 hv0, all_yes hi1 hc3 hv1]; rfl
def allOn (on : List Bool) (l : List Int) : Bool := l.all fun x => on.getD x.toNat false
end Go.Proofs.YtnmfmeehmieifaaDoor
namespace Go.Proofs.YtnmfmeehmieifaaDoor
open Go Sg Go.Lib
set_option maxRecDepth 100000
set_option linter.unusedSimpArgs false
set_option linter.unusedVariables false
set_option linter.unusedSectionVars false
variable [Glob]
def letB (k : Int) : List UInt8 := if k = 1 then [105] else if k = 2 then [111] else [118]
def adrB (a : AD) : List UInt8 := letB a.kind ++ itoa a.at'
def twoB (k : Int) : List UInt8 := if k = 3 then [97, 100, 100] else if k = 4 then [115, 117, 98] else if k = 5 then [109, 117, 108] else if k = 6 then [108, 101, 115, 115] else if k = 7 then [115, 97, 109, 101] else if k = 8 then [97, 110, 100] else [111, 114]
def notB : List UInt8 := [110, 111, 116]
def wordB (e : Ex) : List UInt8 := if e.kind == 1 then itoa e.n else if e.kind == 2 then adrB e.a else if isTwo e.kind then twoB e.kind else notB
mutual
def wsB : Ex → List (List UInt8)
  | .mk k n a l => wordB (.mk k n a l) :: wsBL l
def wsBL : List Ex → List (List UInt8)
  | [] => []
  | e :: l => wsB e ++ wsBL l
end
theorem wsB_eq (e : Ex) : wsB e = wordB e :: wsBL e.kids := by cases e; rfl
def clsB (w : List UInt8) : Int :=
  match w with
  | [] => 0
  | b :: r => if b.toNat ≤ 57 then 1 else match r with
    | [] => 0
    | b2 :: _ => if b2.toNat ≤ 57 then 2 else if w = [97, 100, 100] then 3 else if w = [115, 117, 98] then 4 else if w = [109, 117, 108] then 5 else if w = [108, 101, 115, 115] then 6 else if w = [115, 97, 109, 101] then 7 else if w = [97, 110, 100] then 8 else if w = [111, 114] then 9 else if w = [110, 111, 116] then 10 else 0
theorem itoa_low (n : Int) : ∃ b r, itoa n = b :: r ∧ b.toNat ≤ 57 := by
  cases h : itoa n with
  | nil => exact absurd h (itoa_ne n)
  | cons b r =>
    refine ⟨b, r, rfl, ?_⟩
    rcases itoa_chr n b (by rw [h]; simp) with hb | hb
    · exact hb.2
    · rw [hb]; decide
theorem form_kinds {d : Nat} {e : Ex} (h : formD (d + 1) e = true) : (e.kind = 1 ∨ e.kind = 2 ∨ (3 ≤ e.kind ∧ e.kind ≤ 9) ∨ e.kind = 10) ∧ (e.kind ≠ 1 → e.n = 0) ∧ (e.kind ≠ 2 → e.a = ⟨0, 0⟩) ∧ (e.kind = 2 → e.a.ok = true) := by
  have h1 := form_inv h
  simp only [formD] at h
  split at h
  · cases h
  · split at h
    · cases h
    · rename_i h2
      split at h
      · cases h
      · rename_i h3
        refine ⟨?_, fun hk => ?_, fun hk => ?_, h1.2.1⟩
        · have := h1.1
          unfold kidsN at this
          split at this
          · rename_i hk; simp at hk; omega
          · split at this
            · rename_i hk; simp at hk; omega
            · split at this
              · rename_i hk; simp at hk; omega
              · omega
        · by_cases hn : e.n = 0
          · exact hn
          · exact absurd (by simp [hk, hn]) h2
        · obtain ⟨ka, ca⟩ : ∃ x y, e.a = ⟨x, y⟩ := ⟨e.a.kind, e.a.at', rfl⟩
          obtain ⟨y, hy⟩ := ca
          have h4 : ¬ ((e.kind == 2 && !e.a.ok) || (e.kind != 2 && !(e.a.kind == 0 && e.a.at' == 0))) = true := h3
          rw [hy] at h4 ⊢
          by_cases hx : ka = 0
          · by_cases hyy : y = 0
            · rw [hx, hyy]
            · exact absurd (by simp [hk, hyy]) h4
          · exact absurd (by simp [hk, hx]) h4
theorem cls_word {d : Nat} {e : Ex} (h : formD (d + 1) e = true) : clsB (wordB e) = e.kind := by
  obtain ⟨hk, -, -, ha⟩ := form_kinds h
  rcases hk with hk | hk | hk | hk
  · obtain ⟨b, r, hb, hl⟩ := itoa_low e.n
    rw [wordB, if_pos (by simp [hk]), hb, hk]
    simp only [clsB, if_pos hl]
  · have ho := ha hk
    obtain ⟨b, r, hb, hl⟩ := itoa_low e.a.at'
    rw [wordB, if_neg (by simp [hk]), if_pos (by simp [hk]), adrB, hb, hk]
    have hko : 1 ≤ e.a.kind ∧ e.a.kind ≤ 3 := by
      simp only [AD.ok, Bool.and_eq_true, decide_eq_true_eq] at ho; omega
    have : e.a.kind = 1 ∨ e.a.kind = 2 ∨ e.a.kind = 3 := by omega
    rcases this with h1 | h1 | h1 <;> rw [h1] <;> simp [letB, clsB, hl]
  · have hw : wordB e = twoB e.kind := by
      rw [wordB, if_neg (by simp; omega), if_neg (by simp; omega), if_pos (by simp [isTwo]; omega)]
    have : e.kind = 3 ∨ e.kind = 4 ∨ e.kind = 5 ∨ e.kind = 6 ∨ e.kind = 7 ∨ e.kind = 8 ∨ e.kind = 9 := by omega
    rw [hw]
    rcases this with h1 | h1 | h1 | h1 | h1 | h1 | h1 <;> rw [h1] <;> decide
  · have hw : wordB e = notB := by
      rw [wordB, if_neg (by simp; omega), if_neg (by simp; omega), if_neg (by simp [isTwo]; omega)]
    rw [hw, hk]; decide
theorem let_inj {a b : AD} (ha : a.ok = true) (hb : b.ok = true) (h : adrB a = adrB b) : a = b := by
  simp only [AD.ok, Bool.and_eq_true, decide_eq_true_eq] at ha hb
  obtain ⟨ka, xa⟩ := a
  obtain ⟨kb, xb⟩ := b
  have e1 : ka = 1 ∨ ka = 2 ∨ ka = 3 := by simp at ha; omega
  have e2 : kb = 1 ∨ kb = 2 ∨ kb = 3 := by simp at hb; omega
  rcases e1 with rfl | rfl | rfl <;> rcases e2 with rfl | rfl | rfl <;> simp [adrB, letB] at h <;> rw [itoa_inj h]
theorem word_inj {d d' : Nat} {e e' : Ex} (h : formD (d + 1) e = true) (h' : formD (d' + 1) e' = true) (hw : wordB e = wordB e') : e.kind = e'.kind ∧ e.n = e'.n ∧ e.a = e'.a := by
  have hk : e.kind = e'.kind := by rw [← cls_word h, ← cls_word h', hw]
  obtain ⟨-, hn, ha, ho⟩ := form_kinds h
  obtain ⟨-, hn', ha', ho'⟩ := form_kinds h'
  refine ⟨hk, ?_, ?_⟩
  · by_cases h1 : e.kind = 1
    · rw [wordB, wordB, if_pos (by simp [h1]), if_pos (by simp [← hk, h1])] at hw
      exact itoa_inj hw
    · rw [hn h1, hn' (by omega)]
  · by_cases h2 : e.kind = 2
    · rw [wordB, wordB, if_neg (by simp [h2]), if_pos (by simp [h2]), if_neg (by simp [← hk, h2]), if_pos (by simp [← hk, h2])] at hw
      exact let_inj (ho h2) (ho' (by omega)) hw
    · rw [ha h2, ha' (by omega)]
theorem wsBL_inj {d : Nat} (ih : ∀ e e' : Ex, formD d e = true → formD d e' = true → ∀ r r', wsB e ++ r = wsB e' ++ r' → e = e' ∧ r = r') : ∀ (l l' : List Ex), l.length = l'.length → (∀ x ∈ l, formD d x = true) → (∀ x ∈ l', formD d x = true) → ∀ r r', wsBL l ++ r = wsBL l' ++ r' → l = l' ∧ r = r'
  | [], [], _, _, _, r, r', h => ⟨rfl, by simpa [wsBL] using h⟩
  | [], _ :: _, h, _, _, _, _, _ => by simp at h
  | _ :: _, [], h, _, _, _, _, _ => by simp at h
  | a :: l, b :: l', hl, h1, h2, r, r', h => by
    simp only [wsBL, List.append_assoc] at h
    obtain ⟨e1, e2⟩ := ih a b (h1 a (by simp)) (h2 b (by simp)) _ _ h
    obtain ⟨e3, e4⟩ := wsBL_inj ih l l' (by simpa using hl) (fun x hx => h1 x (by simp [hx])) (fun x hx => h2 x (by simp [hx])) r r' e2
    exact ⟨by rw [e1, e3], e4⟩
theorem ex_eta (e : Ex) : e = .mk e.kind e.n e.a e.kids := by cases e; rfl
theorem ws_inj (d : Nat) : ∀ e e' : Ex, formD d e = true → formD d e' = true → ∀ r r', wsB e ++ r = wsB e' ++ r' → e = e' ∧ r = r' := by
  induction d with
  | zero => intro e e' h; cases h
  | succ d ih =>
    intro e e' h h' r r' hw
    rw [wsB_eq, wsB_eq, List.cons_append, List.cons_append, List.cons.injEq] at hw
    obtain ⟨hk, hn, ha⟩ := word_inj h h' hw.1
    have f1 := form_inv h
    have f2 := form_inv h'
    have hl : e.kids.length = e'.kids.length := by
      have := f1.1; have := f2.1; rw [hk] at *; omega
    have mem : ∀ (l : List Ex), (∀ i, i < l.length → formD d (l.getD i default) = true) → ∀ x ∈ l, formD d x = true := by
      intro l hl x hx
      obtain ⟨i, hi, rfl⟩ := List.getElem_of_mem hx
      have := hl i hi
      simpa [List.getD, hi] using this
    obtain ⟨e1, e2⟩ := wsBL_inj ih e.kids e'.kids hl (mem _ f1.2.2) (mem _ f2.2.2) r r' hw.2
    exact ⟨by rw [ex_eta e, ex_eta e', hk, hn, ha, e1], e2⟩
theorem let_free (c : UInt8) (hc : c.toNat < 45) (k : Int) : Free c (letB k) := by
  unfold letB Free
  split
  · intro b hb e; simp at hb; subst hb; subst e; exact absurd hc (by decide)
  · split
    · intro b hb e; simp at hb; subst hb; subst e; exact absurd hc (by decide)
    · intro b hb e; simp at hb; subst hb; subst e; exact absurd hc (by decide)
theorem free_app {c : UInt8} {x y : List UInt8} (h : Free c x) (k : Free c y) : Free c (x ++ y) := fun b hb => (List.mem_append.1 hb).elim (h b) (k b)
theorem adr_free (c : UInt8) (hc : c.toNat < 45) (a : AD) : Free c (adrB a) := free_app (let_free c hc _) (itoa_free c (.inl hc) _)
theorem word_free (c : UInt8) (hc : c.toNat < 45) (e : Ex) : Free c (wordB e) := by
  unfold wordB
  split
  · exact itoa_free c (.inl hc) _
  · split
    · exact adr_free c hc _
    · split
      · unfold twoB Free
        have hc' : ∀ l : List UInt8, l.all (fun b => decide (97 ≤ b.toNat)) = true → ∀ b ∈ l, b ≠ c := fun l hl b hb e => by
          have := of_decide_eq_true ((List.all_eq_true.1 hl) b hb)
          subst e; omega
        repeat' split
        all_goals exact hc' _ (by decide)
      · intro b hb e
        have hl : notB.all (fun b => decide (97 ≤ b.toNat)) = true := by decide
        have := of_decide_eq_true ((List.all_eq_true.1 hl) b hb)
        subst e; omega
mutual
theorem wsB_free (c : UInt8) (hc : c.toNat < 45) : (e : Ex) → ∀ w ∈ wsB e, Free c w
  | .mk k n a l, w, hw => by
    simp only [wsB, List.mem_cons] at hw
    rcases hw with rfl | hw
    · exact word_free c hc _
    · exact wsBL_free c hc l w hw
theorem wsBL_free (c : UInt8) (hc : c.toNat < 45) : (l : List Ex) → ∀ w ∈ wsBL l, Free c w
  | [], w, hw => by simp [wsBL] at hw
  | e :: l, w, hw => by
    simp only [wsBL, List.mem_append] at hw
    rcases hw with hw | hw
    · exact wsB_free c hc e w hw
    · exact wsBL_free c hc l w hw
end
end Go.Proofs.YtnmfmeehmieifaaDoor
namespace Go.Proofs.YtnmfmeehmieifaaDoor
open Go Sg Go.Lib
set_option maxRecDepth 100000
set_option linter.unusedSimpArgs false
set_option linter.unusedVariables false
set_option linter.unusedSectionVars false
variable [Glob]
def plB (l : List Int) : List UInt8 := join (l.map itoa) [44]
def stB (n : Int) : List (List UInt8) := [[115, 116, 101, 112, 115], itoa n]
def trB (t : Trn) : List (List UInt8) := [plB t.fr, [62], plB t.to', [119, 104, 101, 110]] ++ wsB t.w
def actB (k : Int) : List UInt8 := if k = 1 then [119, 105, 116, 104] else if k = 2 then [115, 101, 116] else if k = 3 then [111, 102, 102] else [98, 101, 103, 105, 110]
def acB (a : GAct) : List (List UInt8) := [actB a.kind, itoa a.step, adrB a.to']
def chItems (c : Cht) : List (List (List UInt8)) := c.ts.map trB ++ c.as'.map acB
def chB (c : Cht) : List (List UInt8) := stB c.steps ++ ((chItems c).map fun w => [59] :: w).flatten
def chTx (c : Cht) : List UInt8 := join ((stB c.steps :: chItems c).map fun w => join w [32]) [32, 59, 32]
theorem chTx_eq (c : Cht) : chTx c = join (chB c) [32] := by
  refine join_items 32 59 (chItems c) (stB c.steps) (by simp [stB]) fun w hw => ?_
  simp only [chItems, List.mem_append, List.mem_map] at hw
  rcases hw with ⟨t, _, rfl⟩ | ⟨a, _, rfl⟩
  · simp [trB]
  · simp [acB]
theorem pl_inj {l l' : List Int} (hl : l ≠ []) (hl' : l' ≠ []) (h : plB l = plB l') : l = l' := by
  match l, l', hl, hl' with
  | a :: l, b :: l', _, _ =>
    have h1 := join_inj (c := 44) (l.map itoa) (l'.map itoa) (itoa a) (itoa b) (fun w hw => by
        rw [← List.map_cons (f := itoa), List.mem_map] at hw
        obtain ⟨n, _, rfl⟩ := hw
        exact itoa_free 44 (by decide) n) (fun w hw => by
        rw [← List.map_cons (f := itoa), List.mem_map] at hw
        obtain ⟨n, _, rfl⟩ := hw
        exact itoa_free 44 (by decide) n) h
    rw [← List.map_cons (f := itoa), ← List.map_cons (f := itoa)] at h1
    exact (List.map_inj_right (fun x y => itoa_inj)).1 h1
theorem pl_low {l : List Int} (hl : l ≠ []) : ∃ b r, plB l = b :: r ∧ b.toNat ≤ 57 := by
  match l, hl with
  | a :: l, _ =>
    obtain ⟨b, r, hb, h⟩ := itoa_low a
    refine ⟨b, r ++ joinTail [44] (l.map itoa), ?_, h⟩
    rw [plB, List.map_cons, join_cons, hb, List.cons_append]
theorem act_inj {k k' : Int} (h : 1 ≤ k ∧ k ≤ 4) (h' : 1 ≤ k' ∧ k' ≤ 4) (he : actB k = actB k') : k = k' := by
  have e1 : k = 1 ∨ k = 2 ∨ k = 3 ∨ k = 4 := by omega
  have e2 : k' = 1 ∨ k' = 2 ∨ k' = 3 ∨ k' = 4 := by omega
  rcases e1 with rfl | rfl | rfl | rfl <;> rcases e2 with rfl | rfl | rfl | rfl <;> first | rfl | (simp [actB] at he)
theorem act_high (k : Int) : ∃ b r, actB k = b :: r ∧ 57 < b.toNat := by
  unfold actB
  split
  · exact ⟨_, _, rfl, by decide⟩
  · split
    · exact ⟨_, _, rfl, by decide⟩
    · split
      · exact ⟨_, _, rfl, by decide⟩
      · exact ⟨_, _, rfl, by decide⟩
structure TrOk (t : Trn) : Prop where
  fr : t.fr ≠ []
  to' : t.to' ≠ []
  w : formD 6 t.w = true
structure AcOk (a : GAct) : Prop where
  k : 1 ≤ a.kind ∧ a.kind ≤ 4
  to' : a.to'.ok = true
theorem tr_inj {t t' : Trn} (h : TrOk t) (h' : TrOk t') (r r' : List (List UInt8)) (he : trB t ++ r = trB t' ++ r') : t = t' ∧ r = r' := by
  simp only [trB, List.cons_append, List.nil_append, List.cons.injEq] at he
  obtain ⟨h1, -, h2, -, h3⟩ := he
  obtain ⟨h4, h5⟩ := ws_inj 6 _ _ h.w h'.w _ _ h3
  have h6 := pl_inj h.fr h'.fr h1
  have h7 := pl_inj h.to' h'.to' h2
  obtain ⟨a, b, c⟩ := t
  obtain ⟨a', b', c'⟩ := t'
  simp only at h4 h6 h7
  exact ⟨by rw [h4, h6, h7], h5⟩
theorem ac_inj {a a' : GAct} (h : AcOk a) (h' : AcOk a') (r r' : List (List UInt8)) (he : acB a ++ r = acB a' ++ r') : a = a' ∧ r = r' := by
  simp only [acB, List.cons_append, List.nil_append, List.cons.injEq] at he
  obtain ⟨h1, h2, h3, h4⟩ := he
  have h5 := act_inj h.k h'.k h1
  have h6 := itoa_inj h2
  have h7 := let_inj h.to' h'.to' h3
  obtain ⟨x, y, z⟩ := a
  obtain ⟨x', y', z'⟩ := a'
  simp only at h5 h6 h7
  exact ⟨by rw [h5, h6, h7], h4⟩
def fl (l : List (List (List UInt8))) : List (List UInt8) := (l.map fun w => [59] :: w).flatten
theorem fl_cons (x : List (List UInt8)) (l : List (List (List UInt8))) : fl (x :: l) = [59] :: (x ++ fl l) := by simp [fl]
theorem acs_inj : ∀ (l l' : List GAct), (∀ a ∈ l, AcOk a) → (∀ a ∈ l', AcOk a) → fl (l.map acB) = fl (l'.map acB) → l = l'
  | [], [], _, _, _ => rfl
  | [], _ :: _, _, _, h => by rw [List.map_cons, fl_cons] at h; simp [fl] at h
  | _ :: _, [], _, _, h => by rw [List.map_cons, fl_cons] at h; simp [fl] at h
  | a :: l, b :: l', h1, h2, h => by
    rw [List.map_cons, List.map_cons, fl_cons, fl_cons, List.cons.injEq] at h
    obtain ⟨e1, e2⟩ := ac_inj (h1 a (by simp)) (h2 b (by simp)) _ _ h.2
    rw [e1, acs_inj l l' (fun x hx => h1 x (by simp [hx])) (fun x hx => h2 x (by simp [hx])) e2]
theorem tr_ac {t : Trn} {a : GAct} (h : TrOk t) (r r' : List (List UInt8)) (he : trB t ++ r = acB a ++ r') : False := by
  simp only [trB, acB, List.cons_append, List.nil_append, List.cons.injEq] at he
  obtain ⟨b, s, h1, h2⟩ := pl_low h.fr
  obtain ⟨b', s', h3, h4⟩ := act_high a.kind
  rw [h1, h3] at he
  have := (List.cons.inj he.1).1
  subst this
  omega
theorem fl_app (a b : List (List (List UInt8))) : fl (a ++ b) = fl a ++ fl b := by simp [fl]
theorem its_inj : ∀ (ts ts' : List Trn) (l l' : List GAct), (∀ t ∈ ts, TrOk t) → (∀ t ∈ ts', TrOk t) → (∀ a ∈ l, AcOk a) → (∀ a ∈ l', AcOk a) → fl (ts.map trB) ++ fl (l.map acB) = fl (ts'.map trB) ++ fl (l'.map acB) → ts = ts' ∧ l = l'
  | [], [], l, l', _, _, h3, h4, h => ⟨rfl, acs_inj l l' h3 h4 (by simpa [fl] using h)⟩
  | [], t :: ts', l, l', _, h2, _, _, h => by
    rw [List.map_cons, fl_cons] at h
    cases l with
    | nil => simp [fl] at h
    | cons a l =>
      rw [List.map_cons, fl_cons] at h
      simp only [List.map_nil, fl, List.flatten_nil, List.nil_append, List.cons_append, List.cons.injEq, true_and, List.append_assoc] at h
      exact absurd h.symm (fun h => tr_ac (h2 t (by simp)) _ _ h)
  | t :: ts, [], l, l', h1, _, _, _, h => by
    rw [List.map_cons, fl_cons] at h
    cases l' with
    | nil => simp [fl] at h
    | cons a l' =>
      rw [List.map_cons, fl_cons] at h
      simp only [List.map_nil, fl, List.flatten_nil, List.nil_append, List.cons_append, List.cons.injEq, true_and, List.append_assoc] at h
      exact absurd h (fun h => tr_ac (h1 t (by simp)) _ _ h)
  | t :: ts, t' :: ts', l, l', h1, h2, h3, h4, h => by
    rw [List.map_cons, List.map_cons, fl_cons, fl_cons, List.cons_append, List.cons_append, List.cons.injEq, List.append_assoc, List.append_assoc] at h
    obtain ⟨e1, e2⟩ := tr_inj (h1 t (by simp)) (h2 t' (by simp)) _ _ h.2
    obtain ⟨e3, e4⟩ := its_inj ts ts' l l' (fun x hx => h1 x (by simp [hx])) (fun x hx => h2 x (by simp [hx])) h3 h4 e2
    exact ⟨by rw [e1, e3], e4⟩
theorem cht_inv {c : Cht} (h : c.ok = true) : (1 ≤ c.steps ∧ c.steps ≤ 6) ∧ c.ts.length ≤ 6 ∧ c.as'.length ≤ 6 ∧ (∀ t ∈ c.ts, plOk t.fr c.steps = true ∧ plOk t.to' c.steps = true ∧ t.w.ok = true) ∧ ∀ a ∈ c.as', 1 ≤ a.kind ∧ a.kind ≤ 4 ∧ 0 ≤ a.step ∧ a.step < c.steps ∧ a.to'.ok = true := by
  unfold Cht.ok at h
  split at h
  · cases h
  · rename_i h1
    simp only [Bool.or_eq_true, decide_eq_true_eq, not_or] at h1
    simp only [Bool.and_eq_true, List.all_eq_true] at h
    refine ⟨by omega, by omega, by omega, fun t ht => ?_, fun a ha => ?_⟩
    · have := h.1 t ht
      simp only [Trn.bad, Bool.not_eq_true', Bool.or_eq_false_iff, Bool.not_eq_false'] at this
      exact ⟨this.1.1, this.1.2, this.2⟩
    · have := h.2 a ha
      simp only [GAct.bad, Bool.not_eq_true', Bool.or_eq_false_iff, Bool.not_eq_false', decide_eq_false_iff_not] at this
      refine ⟨by omega, by omega, by omega, by omega, this.1.2⟩
theorem plOk_ne {l : List Int} {b : Int} (h : plOk l b = true) : l ≠ [] := by
  rintro rfl
  simp [plOk] at h
theorem cht_tr {c : Cht} (h : c.ok = true) : ∀ t ∈ c.ts, TrOk t := fun t ht => by
  obtain ⟨a, b, d⟩ := (cht_inv h).2.2.2.1 t ht
  refine ⟨plOk_ne a, plOk_ne b, ?_⟩
  simp only [Ex.ok, Bool.and_eq_true] at d
  exact d.1
theorem cht_ac {c : Cht} (h : c.ok = true) : ∀ a ∈ c.as', AcOk a := fun a ha => by
  obtain ⟨k1, k2, _, _, k3⟩ := (cht_inv h).2.2.2.2 a ha
  exact ⟨⟨k1, k2⟩, k3⟩
theorem chB_inj {c c' : Cht} (h : c.ok = true) (h' : c'.ok = true) (he : chB c = chB c') : c = c' := by
  simp only [chB, stB, List.cons_append, List.nil_append, List.cons.injEq, true_and, chItems] at he
  obtain ⟨h1, h2⟩ := he
  have h3 := itoa_inj h1
  have h4 : fl (c.ts.map trB) ++ fl (c.as'.map acB) = fl (c'.ts.map trB) ++ fl (c'.as'.map acB) := by
    rw [← fl_app, ← fl_app]; exact h2
  obtain ⟨h5, h6⟩ := its_inj _ _ _ _ (cht_tr h) (cht_tr h') (cht_ac h) (cht_ac h') h4
  obtain ⟨x, y, z⟩ := c
  obtain ⟨x', y', z'⟩ := c'
  simp only at h3 h5 h6
  rw [h3, h5, h6]
theorem lit_free (w : List UInt8) (h : w.all (fun b => b != 32) = true) : Free 32 w := fun b hb e => by
  have := (List.all_eq_true.1 h) b hb
  subst e
  simp at this
theorem pl_free (l : List Int) : Free 32 (plB l) := by
  cases l with
  | nil => intro b hb; simp [plB, join_nil] at hb
  | cons a l =>
    rw [plB, List.map_cons, join_cons]
    refine free_app (itoa_free 32 (.inl (by decide)) a) ?_
    intro b hb
    simp only [joinTail, List.mem_flatten, List.mem_map] at hb
    obtain ⟨x, ⟨y, ⟨n, _, rfl⟩, rfl⟩, hb⟩ := hb
    rcases List.mem_append.1 hb with hb | hb
    · simp at hb; subst hb; decide
    · exact itoa_free 32 (.inl (by decide)) n b hb
theorem chB_free (c : Cht) : ∀ w ∈ chB c, Free 32 w := by
  intro w hw
  simp only [chB, stB, List.mem_append, List.mem_cons, List.not_mem_nil, or_false, List.mem_flatten, List.mem_map] at hw
  rcases hw with (rfl | rfl) | ⟨x, ⟨y, hy, rfl⟩, hw⟩
  · exact lit_free _ (by decide)
  · exact itoa_free 32 (.inl (by decide)) _
  · rcases List.mem_cons.1 hw with rfl | hw
    · exact lit_free _ (by decide)
    · simp only [chItems, List.mem_append, List.mem_map] at hy
      rcases hy with ⟨t, _, rfl⟩ | ⟨a, _, rfl⟩
      · simp only [trB, List.cons_append, List.nil_append, List.mem_cons] at hw
        rcases hw with rfl | rfl | rfl | rfl | hw
        · exact pl_free _
        · exact lit_free _ (by decide)
        · exact pl_free _
        · exact lit_free _ (by decide)
        · exact wsB_free 32 (by decide) _ w hw
      · simp only [acB, List.mem_cons, List.not_mem_nil, or_false] at hw
        rcases hw with rfl | rfl | rfl
        · unfold actB
          split
          · exact lit_free _ (by decide)
          · split
            · exact lit_free _ (by decide)
            · split
              · exact lit_free _ (by decide)
              · exact lit_free _ (by decide)
        · exact itoa_free 32 (.inl (by decide)) _
        · exact adr_free 32 (by decide) _
theorem chTx_inj {c c' : Cht} (h : c.ok = true) (h' : c'.ok = true) (he : chTx c = chTx c') : c = c' := by
  rw [chTx_eq, chTx_eq] at he
  refine chB_inj h h' ?_
  exact join_inj _ _ _ _ (chB_free c) (chB_free c') he
end Go.Proofs.YtnmfmeehmieifaaDoor
namespace Go.Proofs.YtnmfmeehmieifaaDoor
open Go Sg
set_option maxRecDepth 100000
set_option linter.unusedSimpArgs false
set_option linter.unusedVariables false
set_option linter.unusedSectionVars false
set_option maxHeartbeats 4000000
variable [TabK]
abbrev bt (s : ByteArray) : List UInt8 := s.data.toList
theorem bt_fmt (n : Int) : bt (fmtS n) = Lib.itoa n := by simp [bt, fmtS]
theorem bt_app (a b : ByteArray) : bt (a ++ b) = bt a ++ bt b := by simp [bt]
theorem bt_let {k : Int} (h : 1 ≤ k ∧ k ≤ 3) : bt (letS k) = letB k := by
  have : k = 1 ∨ k = 2 ∨ k = 3 := by omega
  rcases this with rfl | rfl | rfl <;> decide
theorem bt_adr {a : AD} (h : a.ok = true) : bt (adrS a) = adrB a := by
  simp only [AD.ok, Bool.and_eq_true, decide_eq_true_eq] at h
  rw [adrS, bt_app, bt_fmt, bt_let (by omega), adrB]
theorem bt_word {d : Nat} {e : Ex} (h : formD (d + 1) e = true) : bt (wordS e) = wordB e := by
  obtain ⟨hk, -, -, ha⟩ := form_kinds h
  unfold wordS wordB
  split
  · exact bt_fmt _
  · split
    · rename_i h2
      exact bt_adr (ha (by simpa using h2))
    · split
      · rename_i h3
        simp only [isTwo, Bool.and_eq_true, decide_eq_true_eq] at h3
        have : e.kind = 3 ∨ e.kind = 4 ∨ e.kind = 5 ∨ e.kind = 6 ∨ e.kind = 7 ∨ e.kind = 8 ∨ e.kind = 9 := by omega
        rcases this with h1 | h1 | h1 | h1 | h1 | h1 | h1 <;> rw [h1] <;> decide
      · rfl
theorem bt_ws (d : Nat) : ∀ e : Ex, formD d e = true → (wsE e).map bt = wsB e := by
  induction d with
  | zero => intro e h; cases h
  | succ d ih =>
    intro e h
    have hi := (form_inv h).2.2
    rw [wsE_eq, wsB_eq, List.map_cons, bt_word h]
    congr 1
    have key : ∀ l : List Ex, (∀ i, i < l.length → formD d (l.getD i default) = true) → (wsL l).map bt = wsBL l := by
      intro l
      induction l with
      | nil => intro _; rfl
      | cons a l ihl =>
        intro hl
        simp only [wsL, wsBL, List.map_append]
        rw [ih a (hl 0 (by simp)), ihl (fun i hi => hl (i + 1) (by simpa using hi))]
    exact key _ hi
end Go.Proofs.YtnmfmeehmieifaaDoor
namespace Go.Proofs.YtnmfmeehmieifaaDoor
open Go Sg
set_option linter.unusedSectionVars false
variable [Glob]
set_option maxRecDepth 100000
set_option linter.unusedSimpArgs false
set_option linter.unusedVariables false
set_option maxHeartbeats 4000000
def idxOf {α : Type} (p : α → Bool) (l : List α) : Int := if l.any p then (l.findIdx p : Int) else -1
theorem idxOf_at {α : Type} {p : α → Bool} {l : List α} {z : α} {i : Nat} (h : i < l.length) (ha : (l.take i).all (fun x => !p x) = true) (hp : p (l.getD i z) = true) : idxOf p l = (i : Int) := by
  have hg : l.getD i z = l[i] := by simp [List.getD, h]
  rw [hg] at hp
  have hany : l.any p = true := List.any_eq_true.2 ⟨l[i], List.getElem_mem h, hp⟩
  rw [idxOf, if_pos hany]
  have : l.findIdx p = i := by
    rw [List.findIdx_eq h]
    refine ⟨hp, fun j hj => ?_⟩
    rw [List.all_eq_true] at ha
    have hm : l[j] ∈ l.take i := by
      rw [List.mem_take_iff_getElem]
      exact ⟨j, by omega, rfl⟩
    have := ha _ hm
    simpa using this
  rw [this]
theorem idxOf_no {α : Type} {p : α → Bool} {l : List α} (ha : l.all (fun x => !p x) = true) : idxOf p l = -1 := by
  have : l.any p = false := by
    rw [List.all_eq_not_any_not] at ha
    simpa using ha
  rw [idxOf, if_neg (by rw [this]; simp)]
theorem idxOf_ge {α : Type} (p : α → Bool) (l : List α) : decide (idxOf p l ≥ 0) = l.any p := by
  unfold idxOf
  cases h : l.any p <;> simp
def eqI (a b : List Int) : Bool := if (a.length : Int) != (b.length : Int) then false else (List.range a.length).all (fun i => !(a.getD i 0 != b.getD i 0))
theorem eqI_ok (a b : List Int) (ha : a.length ≤ 1099511627776) : PureF Tryd.prog 13 [.rows 3 (rowsI a), .rows 3 (rowsI b)] [.bool (eqI a b)] := by
  refine pureF_of Tryd.func13 rfl Tryd.ntmps13 (by simp) T_ ?_
  intro f0 B Q hQ
  refine g_ [0,1] ?_
  refine g_ [0,1,10] ?_
  refine c_ (fun hc0 => ?_) fun hc0 => ?_
  ·
    refine g_ [4] ?_
    refine e_ Tryd.results13 ?_
    first
    | exact True.intro
    | unfold eqI
      first
      | rw [if_pos hc0]
      | (rw [if_neg (by rw [hc0]; simp), range_no hl0 (by simp only [hc2]; rfl)])
      | (have : i0 = a.length := by omega
         rw [if_neg (by rw [hc0]; simp), ← this, hv0])
  refine g_ [0,1,12,13] ?_
  refine n_ ?_
  refine wpM_loopS (fun s n s' => ∃ (i0 M0 : Nat) , i0 + n = a.length ∧ s.M ≤ M0 ∧ ((List.range i0).all (fun i => !(a.getD i 0 != b.getD i 0)) = true) ∧ s' = { s with env := setE 13 (.int .i64 (i0 : Nat)) s.env, M := M0 }) (a.length) ?_ ?_
  ·
    refine .of' _ _ ⟨0, _, by omega, Nat.le_refl _, by simp, rfl⟩ ?_ ?_ ?_ <;> exact L_
  rintro n0 s' ⟨i0, M0, hi0, hM0, hv0, rfl⟩
  try dsimp only at hM0
  try refine S_ ?_
  refine g_ [0,1,12,13,14] ?_
  refine c_ (fun hc1 => ?_) fun hc1 => ?_
  ·
    have hl0 : i0 < a.length := by omega
    have hlb : i0 < b.length := by simp at hc0; omega
    refine g_ [0,1,5,12,13] ?_
    refine n_ ?_
    refine dr_ mixed [0,1,12,13,24] 0 0 [] [⟨[0],[],[],[],false⟩,⟨[5],[],[],[],false⟩,⟨[16,17],[],[],[],false⟩,⟨[18],[],[],[],false⟩,⟨[1],[],[],[],false⟩,⟨[5],[],[],[],false⟩,⟨[20,21],[],[],[],false⟩,⟨[22],[],[],[],false⟩,⟨[19,23],[],[],[],false⟩] [0,1,2,3,4,5,6,7,8] [[],[],[0,1],[0,1,2],[],[],[4,5],[4,5,6],[0,1,2,3,4,5,6,7]] 0 ?_
    intro O A K hO hA hK;simp only [atL_cons,atL_nil,Nat.reduceAdd,Nat.zero_add] at hO hA
    refine SO_ ?_
    refine hK _ (S_ ?_);clear hK K hO hA O A
    refine c_ (fun hc2 => ?_) fun hc2 => ?_
    ·
      refine g_ [4] ?_
      refine e_ Tryd.results13 ?_
      first
      | exact True.intro
      | unfold eqI
        first
        | rw [if_pos hc0]
        | (rw [if_neg (by rw [hc0]; simp), range_no hl0 (by simp only [hc2]; rfl)])
        | (have : i0 = a.length := by omega
           rw [if_neg (by rw [hc0]; simp), ← this, hv0])
    refine g_ [0,1,12,13] ?_
    refine .of' _ _ ⟨n0 - 1, by omega, i0 + 1, _, by omega, M_, ?_, rfl⟩ L_ L_ L_
    rw [range_all, hv0]
    simp only [hc2]; rfl
  refine g_ [4] ?_
  refine e_ Tryd.results13 ?_
  first
  | exact True.intro
  | unfold eqI
    first
    | rw [if_pos hc0]
    | (rw [if_neg (by rw [hc0]; simp), range_no hl0 (by simp only [hc2]; rfl)])
    | (have : i0 = a.length := by omega
       rw [if_neg (by rw [hc0]; simp), ← this, hv0])
end Go.Proofs.YtnmfmeehmieifaaDoor
namespace Go.Proofs.YtnmfmeehmieifaaDoor
open Go Sg
set_option linter.unusedSectionVars false
variable [Glob]
set_option maxRecDepth 100000
set_option linter.unusedSimpArgs false
set_option linter.unusedVariables false
set_option maxHeartbeats 4000000
def MM.flat (m : MM) : List Int := m.i ++ (m.o ++ m.v)
def MM.nth (m : MM) (i : Nat) : List Int := [m.i, m.o, m.v].getD i []
def MM.bk (m : MM) : Nat → List Int
  | 0 => List.replicate 18 0
  | n + 1 => (m.bk n).take (n * 6) ++ m.nth n ++ (m.bk n).drop (n * 6 + (m.nth n).length)
end Go.Proofs.YtnmfmeehmieifaaDoor
namespace Go.Proofs.YtnmfmeehmieifaaDoor
open Go Sg
set_option linter.unusedSectionVars false
variable [Glob]
set_option maxRecDepth 100000
set_option linter.unusedSimpArgs false
set_option linter.unusedVariables false
set_option maxHeartbeats 4000000
end Go.Proofs.YtnmfmeehmieifaaDoor
namespace Go.Proofs.YtnmfmeehmieifaaDoor
open Go Sg
set_option linter.unusedSectionVars false
variable [Glob]
set_option maxRecDepth 100000
set_option linter.unusedSimpArgs false
set_option linter.unusedVariables false
set_option maxHeartbeats 4000000
def mobj (id : Nat) (m : MM) : List (Nat × AObj) := [(id, .cells 146 (ints m.flat))]
@[go_sem] theorem mobj_eq (id : Nat) (m : MM) : mobj id m = [(id, .cells 146 (ints m.flat))] := rfl
end Go.Proofs.YtnmfmeehmieifaaDoor
namespace Go.Proofs.YtnmfmeehmieifaaDoor
open Go Sg
set_option linter.unusedSectionVars false
variable [Glob]
set_option maxRecDepth 100000
set_option linter.unusedSimpArgs false
set_option linter.unusedVariables false
set_option maxHeartbeats 4000000
theorem loc_eq (e : Ex) : (recNil e.kind || (e.kids.length : Int) != kidsR e.kind || !shapeR e) =
    (kidsN e.kind != (e.kids.length : Int) || ((e.kind == 1 && cut e.n != e.n) || (e.kind != 1 && e.n != 0)) || ((e.kind == 2 && !e.a.ok) || (e.kind != 2 && !(e.a.kind == 0 && e.a.at' == 0)))) := by
  unfold recNil kidsR shapeR kidsN noAddr isTwo
  simp only [isNum_cut]
  have hL : 0 ≤ (e.kids.length : Int) := by omega
  generalize (e.kids.length : Int) = L at *
  generalize cut e.n = cn
  generalize e.n = n
  generalize e.a.ok = ok
  generalize e.a.kind = ak
  generalize e.a.at' = aa
  generalize e.kind = k
  by_cases h1 : k = 1
  · subst h1
    rw [Bool.eq_iff_iff]
    cases ok <;> simp <;> omega
  by_cases h2 : k = 2
  · subst h2
    rw [Bool.eq_iff_iff]
    cases ok <;> simp <;> omega
  by_cases h10 : k = 10
  · subst h10
    rw [Bool.eq_iff_iff]
    cases ok <;> simp <;> omega
  have e1 : (k == 1) = false := by simpa using h1
  have e2 : (k == 2) = false := by simpa using h2
  have e3 : (k == 10) = false := by simpa using h10
  rw [e1, e2, e3]
  by_cases h3 : 3 ≤ k ∧ k ≤ 9
  · have f1 : decide (k ≥ 3) = true := by simp; omega
    have f2 : decide (k ≤ 9) = true := by simp; omega
    rw [f1, f2, Bool.eq_iff_iff]
    cases ok <;> simp <;> omega
  · have f : (decide (k ≥ 3) && decide (k ≤ 9)) = false := by
      rw [Bool.and_eq_false_iff]; simp; omega
    have fk : ((k ≥ 3) ∧ (k ≤ 9)) = False := by simp; omega
    rw [f, Bool.eq_iff_iff]
    cases ok <;> simp [bne, h1, h2] <;> omega
theorem form_eq (d : Nat) (e : Ex) : formD (d + 1) e = (!(recNil e.kind || (e.kids.length : Int) != kidsR e.kind || !shapeR e) && e.kids.all (formD d)) := by
  rw [loc_eq, formD]
  cases (kidsN e.kind != (e.kids.length : Int)) <;> simp only [Bool.false_eq_true, if_false, if_true, Bool.true_or, Bool.false_or, Bool.not_true, Bool.false_and]
  cases ((e.kind == 1 && cut e.n != e.n) || (e.kind != 1 && e.n != 0)) <;> simp only [Bool.false_eq_true, if_false, if_true, Bool.true_or, Bool.false_or, Bool.not_true, Bool.false_and]
  cases ((e.kind == 2 && !e.a.ok) || (e.kind != 2 && !(e.a.kind == 0 && e.a.at' == 0))) <;> simp
theorem bad_eq (c deep : Nat) (e : Ex) : badE ((c : Int) + 1) (deep : Int) e = (decide (14 ≤ c) || decide (6 ≤ deep) || (recNil e.kind || (e.kids.length : Int) != kidsR e.kind || !shapeR e)) := by
  unfold badE
  have h1 : decide ((c : Int) + 1 > 14) = decide (14 ≤ c) := by simp; omega
  have h2 : decide ((deep : Int) ≥ 6) = decide (6 ≤ deep) := by simp; omega
  rw [h1, h2]
  simp only [Bool.or_assoc]
theorem vis_sound (d : Nat) : d ≤ 6 → ∀ (e : Ex) (c c' : Nat), vis e (6 - d) c = some c' → formD d e = true ∧ c' = c + manyD d e ∧ c' ≤ 14 := by
  induction d with
  | zero =>
    intro _ e c c' h
    rw [vis_eq, bad_eq] at h
    simp at h
  | succ d ih =>
    intro hd e c c' h
    have hL : ∀ (l : List Ex) (c c' : Nat), c ≤ 14 → visL l (6 - d) c = some c' → l.all (formD d) = true ∧ c' = c + (l.map (manyD d)).sum ∧ c' ≤ 14 := by
      intro l
      induction l with
      | nil => intro c c' hc h; simp [visL] at h; subst h; simp [hc]
      | cons x l ihl =>
        intro c c' hc h
        simp only [visL] at h
        split at h
        · cases h
        · rename_i c1 h1
          obtain ⟨a1, a2, a3⟩ := ih (by omega) x c c1 h1
          obtain ⟨b1, b2, b3⟩ := ihl c1 c' a3 h
          refine ⟨by simp [a1, b1], ?_, b3⟩
          simp only [List.map_cons, List.sum_cons]; omega
    rw [vis_eq, bad_eq] at h
    split at h
    · cases h
    · rename_i hb
      simp only [Bool.or_eq_true, decide_eq_true_eq, not_or] at hb
      obtain ⟨⟨hb1, hb2⟩, hb3⟩ := hb
      have hdeep : 6 - (d + 1) + 1 = 6 - d := by omega
      rw [hdeep] at h
      obtain ⟨a1, a2, a3⟩ := hL e.kids (c + 1) c' (by omega) h
      refine ⟨?_, ?_, a3⟩
      · rw [form_eq, a1]
        simp only [Bool.and_true, Bool.not_eq_true', Bool.or_eq_false_iff]
        simp only [Bool.not_eq_true] at hb3
        exact ⟨⟨hb3.1.1, hb3.1.2⟩, hb3.2⟩
      · simp only [manyD]; omega
theorem vis_complete (d : Nat) : d ≤ 6 → ∀ (e : Ex) (c : Nat), formD d e = true → c + manyD d e ≤ 14 → vis e (6 - d) c = some (c + manyD d e) := by
  induction d with
  | zero => intro _ e c h; cases h
  | succ d ih =>
    intro hd e c hf hm
    have hL : ∀ (l : List Ex) (c : Nat), l.all (formD d) = true → c + (l.map (manyD d)).sum ≤ 14 → visL l (6 - d) c = some (c + (l.map (manyD d)).sum) := by
      intro l
      induction l with
      | nil => intro c _ _; simp [visL]
      | cons x l ihl =>
        intro c hl hs
        simp only [List.all_cons, Bool.and_eq_true] at hl
        simp only [List.map_cons, List.sum_cons] at hs ⊢
        simp only [visL, ih (by omega) x c hl.1 (by omega)]
        rw [ihl _ hl.2 (by omega)]
        congr 1; omega
    rw [form_eq] at hf
    simp only [Bool.and_eq_true, Bool.not_eq_true'] at hf
    simp only [manyD] at hm ⊢
    rw [vis_eq, bad_eq, hf.1]
    have h1 : decide (14 ≤ c) = false := by simp; omega
    have h2 : decide (6 ≤ 6 - (d + 1)) = false := by simp; omega
    rw [h1, h2]
    have hdeep : 6 - (d + 1) + 1 = 6 - d := by omega
    simp only [Bool.or_self, Bool.false_eq_true, if_false, hdeep]
    rw [hL e.kids (c + 1) hf.2 (by omega)]
    congr 1; omega
theorem vis_ok (e : Ex) : (vis e 0 0).isSome = e.ok := by
  rw [Bool.eq_iff_iff, Ex.ok, Bool.and_eq_true, decide_eq_true_eq]
  constructor
  · intro h
    obtain ⟨c', hc⟩ := Option.isSome_iff_exists.1 h
    obtain ⟨a1, a2, a3⟩ := vis_sound 6 (by omega) e 0 c' hc
    exact ⟨a1, by omega⟩
  · rintro ⟨h1, h2⟩
    have := vis_complete 6 (by omega) e 0 h1 (by omega)
    simp at this
    rw [this]; rfl
end Go.Proofs.YtnmfmeehmieifaaDoor
namespace Go.Proofs.YtnmfmeehmieifaaDoor
open Go Sg
set_option linter.unusedSectionVars false
variable [Glob]
set_option maxRecDepth 100000
set_option linter.unusedSimpArgs false
set_option linter.unusedVariables false
set_option maxHeartbeats 4000000
def clr (b : Bool) (f : List Bool) (l : List Int) : List Bool := l.foldl (fun f x => f.set x.toNat b) f
@[go_sem] theorem clr_nil (b : Bool) (f : List Bool) : clr b f [] = f := rfl
def fstep (m : MM) (st : List Bool × List Int) (i : Nat) (t : Trn) : List Bool × List Int :=
  if !allOn st.1 t.fr || !(t.w.of m != 0) then st else (clr false st.1 t.fr, st.2 ++ [(i : Int)])
def fpre (m : MM) (c : Cht) (on : List Bool) (n : Nat) : List Bool × List Int := (List.range n).foldl (fun st i => fstep m st i (c.ts.getD i default)) (on, [])
@[go_sem] theorem fpre_zero (m : MM) (c : Cht) (on : List Bool) : fpre m c on 0 = (on, []) := rfl
structure Trn.Go (n : Nat) (t : Trn) : Prop where
  fr : ∀ i, i < t.fr.length → 0 ≤ t.fr.getD i 0 ∧ t.fr.getD i 0 < (n : Int)
  to' : ∀ i, i < t.to'.length → 0 ≤ t.to'.getD i 0 ∧ t.to'.getD i 0 < (n : Int)
  w : formD 6 t.w = true
end Go.Proofs.YtnmfmeehmieifaaDoor
namespace Go.Proofs.YtnmfmeehmieifaaDoor
open Go Sg
set_option linter.unusedSectionVars false
variable [Glob]
set_option maxRecDepth 100000
set_option linter.unusedSimpArgs false
set_option linter.unusedVariables false
set_option maxHeartbeats 4000000
attribute [go_sem] List.length_replicate
def spread (b : Bool) (pl : Trn → List Int) (c : Cht) (f : List Bool) (fs : List Int) : List Bool := fs.foldl (fun f i => clr b f (pl (c.ts.getD i.toNat default))) f
@[go_sem] theorem spread_nil (b : Bool) (pl : Trn → List Int) (c : Cht) (f : List Bool) : spread b pl c f [] = f := rfl
end Go.Proofs.YtnmfmeehmieifaaDoor
namespace Go.Proofs.YtnmfmeehmieifaaDoor
open Go Sg
set_option linter.unusedSectionVars false
variable [Glob]
set_option maxRecDepth 100000
set_option linter.unusedSimpArgs false
set_option linter.unusedVariables false
set_option maxHeartbeats 4000000
def kset (v : Bool) (kk : Int) (on : List Bool) (f : List Bool) (l : List GAct) : List Bool := l.foldl (fun f a => if a.kind == kk && on.getD a.step.toNat false then f.set a.to'.at'.toNat v else f) f
@[go_sem] theorem kset_nil (v : Bool) (kk : Int) (on : List Bool) (f : List Bool) : kset v kk on f [] = f := rfl
def GAct.In (n : Nat) (a : GAct) : Prop := 0 ≤ a.step ∧ a.step < (n : Int) ∧ 0 ≤ a.to'.at' ∧ a.to'.at' < 6
def litA (at' : Int) (on bg : List Bool) (a : GAct) : Bool := a.to'.at' == at' && ((a.kind == 1 && on.getD a.step.toNat false) || (a.kind == 4 && bg.getD a.step.toNat false))
def lit (c : Cht) (at' : Int) (on bg : List Bool) : Bool := c.as'.any (litA at' on bg)
end Go.Proofs.YtnmfmeehmieifaaDoor
namespace Go.Proofs.YtnmfmeehmieifaaDoor
open Go Sg
set_option linter.unusedSectionVars false
variable [Glob]
set_option maxRecDepth 100000
set_option linter.unusedSimpArgs false
set_option linter.unusedVariables false
set_option maxHeartbeats 4000000
end Go.Proofs.YtnmfmeehmieifaaDoor
namespace Go.Proofs.YtnmfmeehmieifaaDoor
open Go Sg
set_option linter.unusedSectionVars false
variable [Glob]
set_option maxRecDepth 100000
set_option linter.unusedSimpArgs false
set_option linter.unusedVariables false
set_option maxHeartbeats 4000000
def mstep (c : Cht) (kp on bg : List Bool) (m : MM) (a : GAct) : MM := m.put a.to' (numIs (kp.getD a.to'.at'.toNat false || lit c a.to'.at' on bg))
def mfold (c : Cht) (kp on bg : List Bool) (m : MM) (l : List GAct) : MM := l.foldl (mstep c kp on bg) m
@[go_sem] theorem mfold_nil (c : Cht) (kp on bg : List Bool) (m : MM) : mfold c kp on bg m [] = m := rfl
structure Cht.Go (c : Cht) (n : Nat) : Prop where
  steps : c.steps.toNat = n
  st : 0 ≤ c.steps
  n6 : n ≤ 6
  t : ∀ i, i < c.ts.length → (c.ts.getD i default).Go n
  a : ∀ i, i < c.as'.length → (c.as'.getD i default).In n
end Go.Proofs.YtnmfmeehmieifaaDoor
namespace Go.Proofs.YtnmfmeehmieifaaDoor
open Go Sg
set_option linter.unusedSectionVars false
variable [Glob]
set_option maxRecDepth 100000
set_option linter.unusedSimpArgs false
set_option linter.unusedVariables false
set_option maxHeartbeats 4000000
theorem idxA_ok (l : List GAct) (fid : Nat) (cap : List PV) (p : GAct → Bool) (lst : List (Nat × AObj)) (hl : l.length ≤ 1099511627776) (henter : ∀ args w, (callFunc fid args).run Tryd.prog w = .ok (.enter fid args) w)
    (hf : ∀ i, i < l.length → CallF Tryd.prog fid ([.agg (l.getD i default).cs] ++ cap) lst 0 (fun _ o => o = { rs := [.bool (p (l.getD i default))] })) :
    CallF Tryd.prog 57 [.rows 51 (rowsA l), .fn (.func fid) [] cap] lst 0 (fun _ o => o = { rs := [.int .i64 (idxOf p l)] }) := by
  refine callF_ofR Tryd.func57 rfl Tryd.ntmps57 (by simp) T_ ?_
  intro f0 B Q hhid hQ
  refine g_ [0,1] ?_
  refine g_ [0,1,7,8] ?_
  refine n_ ?_
  refine wpM_loopS (fun s n s' => ∃ (i0 M0 : Nat) , i0 + n = l.length ∧ s.M ≤ M0 ∧ ((l.take i0).all (fun x => !p x) = true) ∧ s' = { s with env := setE 8 (.int .i64 (i0 : Nat)) s.env, M := M0 }) (l.length) ?_ ?_
  ·
    refine .of' _ _ ⟨0, _, by omega, Nat.le_refl _, by simp, rfl⟩ ?_ ?_ ?_ <;> exact L_
  rintro n0 s' ⟨i0, M0, hi0, hM0, hv0, rfl⟩
  try dsimp only at hM0
  try refine S_ ?_
  refine g_ [0,1,7,8,9] ?_
  refine c_ (fun hc0 => ?_) fun hc0 => ?_
  ·
    have hl0 : i0 < l.length := by omega
    refine g_ [0,1,5,7,8] ?_
    refine n_ ?_
    refine wpM_regionK [0,1,5,7,8,16] rfl fun Q1 hQ1 => ?_
    refine S_ ?_
    refine call_cap (args := [.agg (l.getD i0 default).cs]) (hf i0 hl0) (hidden_f hhid (by simp -implicitDefEqProofs (disch := omega) only [go_sem, true_or])) henter rfl rfl T_ T_ ?_
    refine S_ ?_
    refine hQ1 _ _ (S_ ?_);clear hQ1 Q1
    refine c_ (fun hc1 => ?_) fun hc1 => ?_
    ·
      refine g_ [4] ?_
      refine e_ Tryd.results57 ?_
      first
      | exact True.intro
      | first | rw [idxOf_at hl0 hv0 hc1] | rw [idxOf_no (all_yes hi0 hc0 hv0)]
    refine g_ [0,1,7,8] ?_
    refine .of' _ _ ⟨n0 - 1, by omega, i0 + 1, _, by omega, M_, ?_, rfl⟩ L_ L_ L_
    rw [take_all _ _ _ hl0, hv0, hc1]; rfl
  refine g_ [4] ?_
  refine e_ Tryd.results57 ?_
  first
  | exact True.intro
  | first | rw [idxOf_at hl0 hv0 hc1] | rw [idxOf_no (all_yes hi0 hc0 hv0)]
theorem hasA_ok (l : List GAct) (fid : Nat) (cap : List PV) (p : GAct → Bool) (lst : List (Nat × AObj)) (hl : l.length ≤ 1099511627776) (henter : ∀ args w, (callFunc fid args).run Tryd.prog w = .ok (.enter fid args) w)
    (hf : ∀ i, i < l.length → CallF Tryd.prog fid ([.agg (l.getD i default).cs] ++ cap) lst 0 (fun _ o => o = { rs := [.bool (p (l.getD i default))] })) :
    CallF Tryd.prog 40 [.rows 51 (rowsA l), .fn (.func fid) [] cap] lst 0 (fun _ o => o = { rs := [.bool (l.any p)] }) := by
  refine callF_ofR Tryd.func40 rfl Tryd.ntmps40 (by simp) T_ ?_
  intro f0 B Q hhid hQ
  refine g_ [0,1] ?_
  refine n_ ?_
  refine wpM_regionK [4] rfl fun Q1 hQ1 => ?_
  refine S_ ?_
  refine call_r (idxA_ok l fid cap p lst hl henter hf) (hidden_f hhid (by simp -implicitDefEqProofs (disch := omega) only [go_sem, true_or])) Tryd.call57 rfl rfl rfl F_ ?_
  refine S_ ?_
  refine hQ1 _ _ (S_ ?_);clear hQ1 Q1
  refine e_ Tryd.results40 ?_
  first
  | exact True.intro
  | rw [idxOf_ge]
theorem stepsOk_ok (l : List Int) (b : Int) (hl : l.length ≤ 1099511627776) : PureF Tryd.prog 38 [.rows 3 (rowsI l), .int .i64 b] [.bool (plOk l b)] := by
  refine pureF_of Tryd.func38 rfl Tryd.ntmps38 (by simp) T_ ?_
  intro f0 B Q hQ
  refine g_ [0,1] ?_
  refine g_ [0,1,7,8,9] ?_
  refine n_ ?_
  refine wpM_loopS (fun s n s' => ∃ (i0 M0 : Nat) , i0 + n = l.length ∧ s.M ≤ M0 ∧ ((List.range i0).all (fun i => !plBad l b i) = true) ∧ s' = { s with env := setE 9 (.int .i64 (i0 : Nat)) s.env, M := M0 }) (l.length) ?_ ?_
  ·
    refine .of' _ _ ⟨0, _, by omega, Nat.le_refl _, by simp, rfl⟩ ?_ ?_ ?_ <;> exact L_
  rintro n0 s' ⟨i0, M0, hi0, hM0, hv0, rfl⟩
  try dsimp only at hM0
  try refine S_ ?_
  refine g_ [0,1,7,8,9,10] ?_
  refine c_ (fun hc0 => ?_) fun hc0 => ?_
  ·
    have hl0 : i0 < l.length := by omega
    refine g_ [0,1,5,6,7,8,9] ?_
    refine gD_ [0,1,7,8,9,33] ?_
    refine c_ (fun hc1 => ?_) fun hc1 => ?_
    ·
      refine g_ [4] ?_
      refine e_ Tryd.results38 ?_
      first
      | exact True.intro
      | first | (have h1 : plBad l b i0 = true := hc1
                 rw [plOk, range_no hl0 (by rw [h1]; rfl)]; rfl) | (have : i0 = l.length := by omega
                                                                    rw [plOk, ← this, hv0]; rfl)
    refine g_ [0,1,7,8,9] ?_
    refine .of' _ _ ⟨n0 - 1, by omega, i0 + 1, _, by omega, M_, ?_, rfl⟩ L_ L_ L_
    rw [range_all, hv0]
    have : plBad l b i0 = false := hc1
    rw [this]; rfl
  refine g_ [4] ?_
  refine e_ Tryd.results38 ?_
  first
  | exact True.intro
  | first | (have h1 : plBad l b i0 = true := hc1
             rw [plOk, range_no hl0 (by rw [h1]; rfl)]; rfl) | (have : i0 = l.length := by omega
                                                                rw [plOk, ← this, hv0]; rfl)
theorem cbad_ok (c : Cht) (a : GAct) (id : Nat) : CallF Tryd.prog 41 [.agg a.cs, .ptr id 0] [(id, .cells 26 c.cs)] 0 (fun _ o => o = { rs := [.bool (a.bad c.steps)] }) := by
  refine callF_of' Tryd.func41 rfl Tryd.ntmps41 (by simp) ?_
  intro f0 B ns Q hB hns hQ
  have hid : id < B := hB id (by simp [hasKey, lk])
  obtain rfl : ns = [] := List.eq_nil_of_length_eq_zero hns
  refine g_ [1,2] ?_
  refine n_ ?_
  refine wpM_regionK [3] rfl fun Q1 hQ1 => ?_
  refine SD_ ?_
  first | refine cg_ (fun hb => iaddrOk_ok a.to') Tryd.call42 ?_ | refine cpD_ (iaddrOk_ok a.to') Tryd.call42 ?_
  refine hQ1 _ _ (S_ ?_);clear hQ1 Q1
  refine wpM_ret ?_
  try refine S_ ?_
  refine hQ _ _ (ret0 [] rfl rfl rfl (by rw [Tryd.results41] <;> simp (maxSteps := 1000000) -implicitDefEqProofs (disch := omega) only [go_sem] <;> rfl) rfl ?_ ?_ ?_ ?_)
  all_goals simp -implicitDefEqProofs (disch := omega) only [go_sem, true_or, or_true]
def Cht.iok (c : Cht) : Bool := if decide (c.steps < 1) || decide (c.steps > 6) || decide ((c.ts.length : Int) > 6) || decide ((c.as'.length : Int) > 6) then false
  else c.ts.all (fun t => !(!plOk t.fr c.steps || !plOk t.to' c.steps || !(vis t.w 0 0).isSome)) && !(c.as'.any (fun a => a.bad c.steps))
theorem ichartOk_ok (c : Cht) (hc : c.Sm) : PureF Tryd.prog 22 [.agg c.cs] [.bool c.iok] := by
  have hts := hc.ts
  have has := hc.as'
  refine pureF_of Tryd.func22 rfl Tryd.ntmps22 (by simp) T_ ?_
  intro f0 B Q hQ
  refine g_ [1] ?_
  refine gD_ [1,24] ?_
  refine c_ (fun hc0 => ?_) fun hc0 => ?_
  ·
    refine g_ [2] ?_
    refine e_ Tryd.results22 ?_
    first
    | exact True.intro
    | unfold Cht.iok
      first
      | rw [if_pos hc0]
      | (rw [if_neg (by rw [hc0]; simp), all_no (p := fun t => !(!plOk t.fr c.steps || !plOk t.to' c.steps || !(vis t.w 0 0).isSome)) hl0 (by simp only [hc2]; rfl)]; rfl)
      | rw [if_neg (by rw [hc0]; simp), all_yes hi0 hc1 hv0, Bool.true_and]
  refine g_ [1,26,27,28] ?_
  refine n_ ?_
  refine wpM_loopS (fun s n s' => ∃ (i0 M0 : Nat) , i0 + n = c.ts.length ∧ s.M ≤ M0 ∧ ((c.ts.take i0).all (fun t => !(!plOk t.fr c.steps || !plOk t.to' c.steps || !(vis t.w 0 0).isSome)) = true) ∧ s' = { s with env := setE 28 (.int .i64 (i0 : Nat)) s.env, M := M0 }) (c.ts.length) ?_ ?_
  ·
    refine .of' _ _ ⟨0, _, by omega, Nat.le_refl _, by simp, rfl⟩ ?_ ?_ ?_ <;> exact L_
  rintro n0 s' ⟨i0, M0, hi0, hM0, hv0, rfl⟩
  try dsimp only at hM0
  try refine S_ ?_
  refine g_ [1,26,27,28,29] ?_
  refine c_ (fun hc1 => ?_) fun hc1 => ?_
  ·
    have hl0 : i0 < c.ts.length := by omega
    have ht := hc.t i0 hl0
    refine g_ [1,4,26,27,28] ?_
    refine n_ ?_
    refine wpM_regionK [1,26,27,28,51] rfl fun Q1 hQ1 => ?_
    refine SD_ ?_
    refine cpD_ (stepsOk_ok (c.ts.getD i0 default).fr c.steps ht.fr) Tryd.call38 ?_
    first | refine cg_ (fun hb => stepsOk_ok (c.ts.getD i0 default).to' c.steps ht.to') Tryd.call38 ?_ | refine cpD_ (stepsOk_ok (c.ts.getD i0 default).to' c.steps ht.to') Tryd.call38 ?_
    first | refine cg_ (fun hb => iexprOk_ok (c.ts.getD i0 default).w ht.w) Tryd.call39 ?_ | refine cpD_ (iexprOk_ok (c.ts.getD i0 default).w ht.w) Tryd.call39 ?_
    refine hQ1 _ _ (S_ ?_);clear hQ1 Q1
    refine c_ (fun hc2 => ?_) fun hc2 => ?_
    ·
      refine g_ [2] ?_
      refine e_ Tryd.results22 ?_
      first
      | exact True.intro
      | unfold Cht.iok
        first
        | rw [if_pos hc0]
        | (rw [if_neg (by rw [hc0]; simp), all_no (p := fun t => !(!plOk t.fr c.steps || !plOk t.to' c.steps || !(vis t.w 0 0).isSome)) hl0 (by simp only [hc2]; rfl)]; rfl)
        | rw [if_neg (by rw [hc0]; simp), all_yes hi0 hc1 hv0, Bool.true_and]
    refine g_ [1,26,27,28] ?_
    refine .of' _ _ ⟨n0 - 1, by omega, i0 + 1, _, by omega, M_, ?_, rfl⟩ L_ L_ L_
    rw [take_all _ _ _ hl0, hv0]
    simp only [hc2]; rfl
  refine n_ ?_
  refine wpM_regionK [2] rfl fun Q1 hQ1 => ?_
  refine S_ ?_
  refine call_rs (hasA_ok c.as' 41 [.ptr B 0] (fun a => a.bad c.steps) [(B, .cells 26 c.cs)] has Tryd.call41 (fun i hi => cbad_ok c _ B)) T_ Tryd.call40 rfl rfl rfl F_ ?_
  refine S_ ?_
  refine hQ1 _ _ (S_ ?_);clear hQ1 Q1
  refine e_ Tryd.results22 ?_
  first
  | exact True.intro
  | unfold Cht.iok
    first
    | rw [if_pos hc0]
    | (rw [if_neg (by rw [hc0]; simp), all_no (p := fun t => !(!plOk t.fr c.steps || !plOk t.to' c.steps || !(vis t.w 0 0).isSome)) hl0 (by simp only [hc2]; rfl)]; rfl)
    | rw [if_neg (by rw [hc0]; simp), all_yes hi0 hc1 hv0, Bool.true_and]
end Go.Proofs.YtnmfmeehmieifaaDoor
namespace Go.Proofs.YtnmfmeehmieifaaDoor
open Go Sg
set_option linter.unusedSectionVars false
variable [Glob]
set_option maxRecDepth 100000
set_option linter.unusedSimpArgs false
set_option linter.unusedVariables false
set_option maxHeartbeats 4000000
@[go_sem] theorem repd2 (z : List PV) : rep 2 z = z ++ z := by simp [rep, List.replicate_succ]
@[go_sem] theorem repd3 (z : List PV) : rep 3 z = z ++ (z ++ (z)) := by simp [rep, List.replicate_succ]
@[go_sem] theorem repd4 (z : List PV) : rep 4 z = z ++ (z ++ (z ++ (z))) := by simp [rep, List.replicate_succ]
@[go_sem] theorem repd7 (z : List PV) : rep 7 z = z ++ (z ++ (z ++ (z ++ (z ++ (z ++ (z)))))) := by simp [rep, List.replicate_succ]
@[go_sem] theorem repd10 (z : List PV) : rep 10 z = z ++ (z ++ (z ++ (z ++ (z ++ (z ++ (z ++ (z ++ (z ++ (z))))))))) := by simp [rep, List.replicate_succ]
def RdF (f : Nat) (args : List PV) (id : Nat) (bs : List Nat) (q K : Int) (R : PV → Prop) : Prop :=
  CallF Tryd.prog f (.ptr id 0 :: args) [(id, rdObj bs q)] 0 (fun _ o => ∃ v q', R v ∧ q ≤ q' ∧ q' ≤ q + K ∧ o = { rs := [v], u := [(id, some (rdObj bs q'))] })
theorem l2Addr_ok (id : Nat) (bs : List Nat) (q : Int) (hbs : Bs bs) (hq0 : 0 ≤ q) (hq : q + 2 ≤ 1000000000000) : RdF 50 [] id bs q 2 (fun v => ∃ a : AD, a.ok = true ∧ v = .agg a.cs) := by
  refine callF_of' Tryd.func50 rfl Tryd.ntmps50 (by simp) ?_
  intro f0 B ns Q hB hns hQ
  have hid : id < B := hB id (by simp [hasKey, lk])
  obtain rfl : ns = [] := List.eq_nil_of_length_eq_zero hns
  refine g_ [0,2] ?_
  refine n_ ?_
  refine wpM_regionK [2] rfl fun Q1 hQ1 => ?_
  refine S_ ?_
  refine call_fn (l := [(id, rdObj bs q)]) (first := []) (cap := []) (ps := [.ptr id 0, .int .i64 3]) (pick_ok id bs q 3 hbs (by omega) (by omega) (by omega)) Tryd.call30 rfl rfl rfl G_ T_ ?_
  rintro out ⟨k1, rfl, h1, h2, h3⟩
  refine S_ ?_
  refine call_fn (l := [(id, rdObj bs (q + 1))]) (first := []) (cap := []) (ps := [.ptr id 0, .int .i64 3]) (pick_ok id bs (q + 1) 3 hbs (by omega) (by omega) (by omega)) Tryd.call30 rfl rfl rfl G_ T_ ?_
  rintro out ⟨k2, rfl, h4, h5, h6⟩
  refine S_ ?_
  refine hQ1 _ _ (S_ ?_);clear hQ1 Q1
  refine wpM_ret ?_
  try refine S_ ?_
  refine hQ _ _ (ret0 [(id, some (rdObj bs (q + 1 + 1)))] rfl rfl rfl (by rw [Tryd.results50] <;> simp (maxSteps := 1000000) -implicitDefEqProofs (disch := omega) only [go_sem] <;> rfl) ⟨_, q + 1 + 1, ⟨⟨1 + k1, k2⟩, by (have := h2 (by omega)); (have := h5 (by omega)); simp only [AD.ok, Bool.and_eq_true, decide_eq_true_eq]; omega, rfl⟩, by omega, by omega, rfl⟩ ?_ ?_ ?_ ?_)
  all_goals simp -implicitDefEqProofs (disch := omega) only [go_sem, rdObj, true_or, or_true]
theorem l2AddrBent_ok (id : Nat) (bs : List Nat) (q : Int) (hbs : Bs bs) (hq0 : 0 ≤ q) (hq : q + 4 ≤ 1000000000000) : RdF 33 [] id bs q 4 (fun v => ∃ a : AD, v = .agg a.cs) := by
  refine callF_of' Tryd.func33 rfl Tryd.ntmps33 (by simp) ?_
  intro f0 B ns Q hB hns hQ
  have hid : id < B := hB id (by simp [hasKey, lk])
  obtain rfl : ns = [] := List.eq_nil_of_length_eq_zero hns
  refine g_ [0,2] ?_
  refine n_ ?_
  refine wpM_regionK [0,2,3] rfl fun Q1 hQ1 => ?_
  refine S_ ?_
  refine call_fn (l := [(id, rdObj bs q)]) (first := []) (cap := []) (ps := [.ptr id 0]) (l2Addr_ok id bs q hbs hq0 (by omega)) Tryd.call50 rfl rfl rfl G_ T_ ?_
  rintro out ⟨_, q', ⟨a, hao, rfl⟩, hqa, hqb, rfl⟩
  refine S_ ?_
  refine hQ1 _ _ (S_ ?_);clear hQ1 Q1
  refine n_ ?_
  refine wpM_regionK [0,2,3,7] rfl fun Q1 hQ1 => ?_
  refine S_ ?_
  refine call_fn (l := [(id, rdObj bs q')]) (first := []) (cap := []) (ps := [.ptr id 0, .int .i64 16]) (pick_ok id bs q' 16 hbs (by omega) (by omega) (by omega)) Tryd.call30 rfl rfl rfl G_ T_ ?_
  rintro out ⟨k1, rfl, h1, h2, h3⟩
  refine S_ ?_
  refine hQ1 _ _ (S_ ?_);clear hQ1 Q1
  refine g_ [0,2,3,7,8] ?_
  refine c_ (fun hc0 => ?_) fun hc0 => ?_
  ·
    refine wpM_regionK [2,3] rfl fun Q1 hQ1 => ?_
    refine S_ ?_
    refine call_fn (l := [(id, rdObj bs (q' + 1)), (B + 2, .cells 3 (ints [0, 4, -1]))]) (first := []) (cap := []) (ps := [.ptr id 0, .sl 3 (B + 2) 0 3]) (num_ok id (B + 2) bs (q' + 1) [0, 4, -1] 3 rfl (by omega) (by omega) (by omega) hbs (by omega) (by omega)) Tryd.call31 rfl rfl rfl G_ (by simp -implicitDefEqProofs (disch := omega) only [go_sem, ints, List.map_cons, List.map_nil]) ?_
    rintro out ⟨k2, rfl, h4⟩
    refine S_ ?_
    refine hQ1 _ _ (S_ ?_);clear hQ1 Q1
    refine g_ [2] ?_
    refine wpM_ret ?_
    try refine S_ ?_
    first
    | refine hQ _ _ (ret0 [(id, some (rdObj bs (q' + 1 + 1)))] rfl rfl rfl (by rw [Tryd.results33] <;> simp (maxSteps := 1000000) -implicitDefEqProofs (disch := omega) only [go_sem] <;> rfl) ⟨_, q' + 1 + 1, ⟨⟨_, _⟩, rfl⟩, by omega, by omega, rfl⟩ ?_ ?_ ?_ ?_) <;> (simp -implicitDefEqProofs (disch := omega) only [go_sem, rdObj, true_or, or_true]; done)
    | refine hQ _ _ (ret0 [(id, some (rdObj bs (q' + 1)))] rfl rfl rfl (by rw [Tryd.results33] <;> simp (maxSteps := 1000000) -implicitDefEqProofs (disch := omega) only [go_sem] <;> rfl) ⟨_, q' + 1, ⟨⟨_, _⟩, rfl⟩, by omega, by omega, rfl⟩ ?_ ?_ ?_ ?_) <;> (simp -implicitDefEqProofs (disch := omega) only [go_sem, rdObj, true_or, or_true]; done)
  refine g_ [0,2,3,14] ?_
  refine c_ (fun hc1 => ?_) fun hc1 => ?_
  ·
    refine wpM_regionK [2,3] rfl fun Q1 hQ1 => ?_
    refine S_ ?_
    refine call_fn (l := [(id, rdObj bs (q' + 1)), (B + 2, .cells 3 (ints [-1, 6, 5]))]) (first := []) (cap := []) (ps := [.ptr id 0, .sl 3 (B + 2) 0 3]) (num_ok id (B + 2) bs (q' + 1) [-1, 6, 5] 3 rfl (by omega) (by omega) (by omega) hbs (by omega) (by omega)) Tryd.call31 rfl rfl rfl G_ (by simp -implicitDefEqProofs (disch := omega) only [go_sem, ints, List.map_cons, List.map_nil]) ?_
    rintro out ⟨k2, rfl, h4⟩
    refine S_ ?_
    refine hQ1 _ _ (S_ ?_);clear hQ1 Q1
    refine g_ [2] ?_
    refine wpM_ret ?_
    try refine S_ ?_
    first
    | refine hQ _ _ (ret0 [(id, some (rdObj bs (q' + 1 + 1)))] rfl rfl rfl (by rw [Tryd.results33] <;> simp (maxSteps := 1000000) -implicitDefEqProofs (disch := omega) only [go_sem] <;> rfl) ⟨_, q' + 1 + 1, ⟨⟨_, _⟩, rfl⟩, by omega, by omega, rfl⟩ ?_ ?_ ?_ ?_) <;> (simp -implicitDefEqProofs (disch := omega) only [go_sem, rdObj, true_or, or_true]; done)
    | refine hQ _ _ (ret0 [(id, some (rdObj bs (q' + 1)))] rfl rfl rfl (by rw [Tryd.results33] <;> simp (maxSteps := 1000000) -implicitDefEqProofs (disch := omega) only [go_sem] <;> rfl) ⟨_, q' + 1, ⟨⟨_, _⟩, rfl⟩, by omega, by omega, rfl⟩ ?_ ?_ ?_ ?_) <;> (simp -implicitDefEqProofs (disch := omega) only [go_sem, rdObj, true_or, or_true]; done)
  refine g_ [2] ?_
  refine wpM_ret ?_
  try refine S_ ?_
  first
  | refine hQ _ _ (ret0 [(id, some (rdObj bs (q' + 1 + 1)))] rfl rfl rfl (by rw [Tryd.results33] <;> simp (maxSteps := 1000000) -implicitDefEqProofs (disch := omega) only [go_sem] <;> rfl) ⟨_, q' + 1 + 1, ⟨⟨_, _⟩, rfl⟩, by omega, by omega, rfl⟩ ?_ ?_ ?_ ?_) <;> (simp -implicitDefEqProofs (disch := omega) only [go_sem, rdObj, true_or, or_true]; done)
  | refine hQ _ _ (ret0 [(id, some (rdObj bs (q' + 1)))] rfl rfl rfl (by rw [Tryd.results33] <;> simp (maxSteps := 1000000) -implicitDefEqProofs (disch := omega) only [go_sem] <;> rfl) ⟨_, q' + 1, ⟨⟨_, _⟩, rfl⟩, by omega, by omega, rfl⟩ ?_ ?_ ?_ ?_) <;> (simp -implicitDefEqProofs (disch := omega) only [go_sem, rdObj, true_or, or_true]; done)
end Go.Proofs.YtnmfmeehmieifaaDoor
