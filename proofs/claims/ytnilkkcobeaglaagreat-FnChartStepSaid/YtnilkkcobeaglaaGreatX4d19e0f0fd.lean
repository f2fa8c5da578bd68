/- A part of a proof: lemmas and contracts of functions; the last text of the claim says what is proved. -/
import Derived.Test.YtnilkkcobeaglaaGreatX16fc493945
set_option linter.unusedSectionVars false
set_option linter.unusedSimpArgs false
set_option linter.unusedVariables false
namespace Go.Proofs.YtnilkkcobeaglaaGreat
open Go Sg
set_option maxRecDepth 100000
set_option linter.unusedSimpArgs false
set_option maxHeartbeats 4000000
theorem mixed : Tryz.prog.follows .mixedOrders = true := by kernel_rfl
def u8s (l : List Nat) : List (List PV) := l.map fun (x : Nat) => [.int .u8 (x : Int)]
@[go_sem] theorem u8s_len (l : List Nat) : (u8s l).length = l.length := by simp [u8s]
@[go_sem] theorem u8s_getD (l : List Nat) (k : Nat) (h : k < l.length) : (u8s l).getD k [] = [.int .u8 ((l.getD k 0 : Nat) : Int)] := by simp [u8s, List.getD, h]
def ints (l : List Int) : List PV := l.map (PV.int .i64)
@[go_sem] theorem ints_len (l : List Int) : (ints l).length = l.length := by simp [ints]
@[go_sem] theorem ints_drop (l : List Int) (k : Nat) (h : k < l.length) : ((ints l).drop k)[0]? = some (.int .i64 (l.getD k 0)) := by
  simp [ints, List.getD, h]
structure Bs (bs : List Nat) : Prop where
  lt : ∀ x ∈ bs, x < 256
  len : bs.length ≤ 2000
theorem Bs.get {bs : List Nat} (h : Bs bs) (k : Nat) : bs.getD k 0 < 256 := by
  by_cases hk : k < bs.length
  · rw [List.getD_eq_getElem?_getD, List.getElem?_eq_getElem hk]; exact h.lt _ (List.getElem_mem hk)
  · rw [List.getD_eq_getElem?_getD, List.getElem?_eq_none (by omega)]; simp
def rdObj (bs : List Nat) (q : Int) : AObj := .cells 123 [.rows 5 (u8s bs), .int .i64 q]
theorem xor64 (a b : Int) (ha : 0 ≤ a) (ha' : a < 4611686018427387904) (hb : 0 ≤ b) (hb' : b < 4611686018427387904) :
    0 ≤ IntKind.i64.wrap (BitVec.ofInt 64 a ^^^ BitVec.ofInt 64 b).toNat ∧ IntKind.i64.wrap (BitVec.ofInt 64 a ^^^ BitVec.ofInt 64 b).toNat < 4611686018427387904 := by
  obtain ⟨x, rfl⟩ := Int.eq_ofNat_of_zero_le ha
  obtain ⟨y, rfl⟩ := Int.eq_ofNat_of_zero_le hb
  have e : (BitVec.ofInt 64 (x : Int) ^^^ BitVec.ofInt 64 (y : Int)).toNat = x ^^^ y := by
    rw [BitVec.toNat_xor, BitVec.toNat_ofInt, BitVec.toNat_ofInt]
    have h1 : ((x : Int) % ((2 ^ 64 : Nat) : Int)).toNat = x := by omega
    have h2 : ((y : Int) % ((2 ^ 64 : Nat) : Int)).toNat = y := by omega
    rw [h1, h2]
  have hlt : x ^^^ y < 2 ^ 62 := Nat.xor_lt_two_pow (by omega) (by omega)
  rw [e, wrap64 (by omega)]
  omega
def pickO (id : Nat) (bs : List Nat) (q n : Int) (_ : List Nat) (o : COut) : Prop :=
  ∃ k : Int, o = { rs := [.int .i64 k], u := [(id, some (rdObj bs (q + 1)))] } ∧ 0 ≤ k ∧ (1 ≤ n → k < n) ∧ (n < 1 → k = 0)
theorem pick_ok (id : Nat) (bs : List Nat) (q n : Int) (hbs : Bs bs) (hq0 : 0 ≤ q) (hq : q ≤ 1099511627776) (hn : n ≤ 1099511627776) :
    CallF Tryz.prog 33 [.ptr id 0, .int .i64 n] [(id, rdObj bs q)] 0 (pickO id bs q n) := by
  have hl := hbs.len
  refine callF_of Tryz.func33 rfl Tryz.ntmps33 (by simp) ?_
  intro f0 B ns hB hns
  have hid : id < B := hB id (by simp [hasKey, lk])
  obtain rfl : ns = [] := List.eq_nil_of_length_eq_zero hns
  have fin : ∀ (k : Int) (s : MS), s.f0 = f0 → s.B = B → s.df = [] → s.l = [(id, .cells 123 [.rows 5 (u8s bs), .int .i64 (q + 1)])] → Sg.get s.env 4 = some (.int .i64 k) → 0 ≤ k → (1 ≤ n → k < n) → (n < 1 → k = 0) →
      retQ Tryz.prog Tryz.f33.results.toList [(id, rdObj bs q)] f0 B [] (pickO id bs q n) .ret s := by
    intro k s h1 h2 h3 h4 h5 k1 k2 k3
    refine ⟨h1, h2, h3, [], [.int .i64 k], _, ⟨k, rfl, k1, k2, k3⟩, rfl, by rw [Tryz.results33]; simp [resA, h5], ?_⟩
    constructor <;> simp [h4, rdObj, keysIn, hasKey, lk, PV.renL, PV.ren, PV.idsL, PV.ids, updOk, oldOk, goodObj, MS.f, AObj.ren, AObj.ids, newOk]
  revert fin
  generalize retQ Tryz.prog Tryz.f33.results.toList [(id, rdObj bs q)] f0 B [] (pickO id bs q n) = Q
  intro fin
  unfold rdObj
  refine wpM_seq ?_
  refine wpM_regionK [0, 1] rfl ?_; intro Q1 hQ1
  simp -implicitDefEqProofs (disch := omega) only [go_sem]
  refine hQ1 _ _ ?_
  simp -implicitDefEqProofs (disch := omega) only [go_sem]
  refine wpM_seq ?_
  refine wpM_regionK [0, 1] rfl ?_; intro Q1 hQ1
  simp -implicitDefEqProofs (disch := omega) only [go_sem]
  refine hQ1 _ _ ?_
  simp -implicitDefEqProofs (disch := omega) only [go_sem]
  refine wpM_seq ?_
  refine wpM_cut (fun s => s = ⟨[(0, .ptr id 0), (1, .int .i64 n), (24, .bool (decide (n < 1) || bs.length == 0))], [(id, AObj.cells 123 [.rows 5 (u8s bs), .int .i64 (q + 1)])], f0, B, B, []⟩) ?_ ?_
  · by_cases h : n < 1
    · skip
      refine wpM_regionK [0, 1, 24] rfl ?_; intro Q1 hQ1
      simp -implicitDefEqProofs (disch := omega) only [go_sem, h, decide_true]
      refine hQ1 _ _ ?_
      simp -implicitDefEqProofs (disch := omega) only [go_sem]
      refine .here ?_
      simp [h]
    · skip
      refine wpM_regionK [0, 1, 24] rfl ?_; intro Q1 hQ1
      simp -implicitDefEqProofs (disch := omega) only [go_sem, h, decide_false]
      refine hQ1 _ _ ?_
      simp -implicitDefEqProofs (disch := omega) only [go_sem]
      refine .here ?_
      simp [h]
      rw [Bool.eq_iff_iff]; simp
  rintro s' rfl
  refine wpM_condK ?_
  simp -implicitDefEqProofs (disch := omega) only [go_sem]
  refine ⟨fun h => ?_, fun h => ?_⟩
  · refine wpM_seq ?_
    refine wpM_regionK [4] rfl ?_; intro Q1 hQ1
    simp -implicitDefEqProofs (disch := omega) only [go_sem]
    refine hQ1 _ _ ?_
    simp -implicitDefEqProofs (disch := omega) only [go_sem]
    refine wpM_ret ?_
    exact fin 0 _ rfl rfl rfl rfl rfl (by omega) (by omega) (fun _ => rfl)
  refine wpM_skip ?_
  simp -implicitDefEqProofs (disch := omega) only [go_sem]
  have hn1 : 1 ≤ n := by
    simp only [Bool.or_eq_false_iff, decide_eq_false_iff_not] at h; omega
  have hb0 : 0 < bs.length := by
    rcases Nat.eq_zero_or_pos bs.length with h0 | h0
    · simp [h0] at h
    · exact h0
  refine wpM_seq ?_
  refine wpM_regionK [0, 1, 5] rfl ?_; intro Q1 hQ1
  simp -implicitDefEqProofs (disch := omega) only [go_sem]
  refine hQ1 _ _ ?_
  simp -implicitDefEqProofs (disch := omega) only [go_sem]
  refine wpM_seq ?_
  refine wpM_seq ?_
  refine wpM_regionK [0, 1, 5, 36] rfl ?_; intro Q1 hQ1
  simp -implicitDefEqProofs (disch := omega) only [go_sem]
  refine hQ1 _ _ ?_
  simp -implicitDefEqProofs (disch := omega) only [go_sem]
  refine wpM_condK ?_
  simp -implicitDefEqProofs (disch := omega) only [go_sem]
  refine ⟨fun h2 => ?_, fun h2 => ?_⟩
  · have b0 := hbs.get q.toNat
    refine wpM_seq ?_
    refine wpM_regionK [4] rfl ?_; intro Q1 hQ1
    simp -implicitDefEqProofs (disch := omega) only [go_sem]
    refine hQ1 _ _ ?_
    simp -implicitDefEqProofs (disch := omega) only [go_sem]
    refine wpM_ret ?_
    exact fin _ _ rfl rfl rfl rfl rfl (Int.tmod_nonneg _ (by omega)) (fun _ => Int.tmod_lt_of_pos _ (by omega)) (by omega)
  refine wpM_skip ?_
  simp -implicitDefEqProofs (disch := omega) only [go_sem]
  have tm := fun (a : Int) (ha : 0 ≤ a) => (⟨Int.tmod_nonneg _ ha, Int.tmod_lt_of_pos a (show (0 : Int) < bs.length by omega)⟩ : 0 ≤ a.tmod bs.length ∧ a.tmod bs.length < bs.length)
  have tm1 := tm q hq0
  have tm2 := tm (q * 7 + 3) (by omega)
  have b1 := hbs.get (q.tmod bs.length).toNat
  have b2 := hbs.get ((q * 7 + 3).tmod bs.length).toNat
  have d1 : 0 ≤ q.tdiv bs.length := Int.tdiv_nonneg hq0 (by omega)
  have d2 : q.tdiv bs.length ≤ q := Int.tdiv_le_self _ hq0
  refine wpM_seq ?_
  refine wpM_keep [1, 6] (wpM_drawn mixed 0 1 [id] #[⟨[0], [], [], [], false⟩, ⟨[47], [], [], [], false⟩, ⟨[48], [], [], [], false⟩, ⟨[49], [0], [], [], false⟩, ⟨[5], [], [], [], false⟩, ⟨[0], [], [], [], false⟩, ⟨[52], [], [], [], false⟩, ⟨[53], [], [], [], false⟩, ⟨[54], [0], [], [], false⟩, ⟨[55], [], [], [], false⟩, ⟨[51, 56], [], [], [], false⟩, ⟨[50, 57], [], [], [], false⟩, ⟨[58], [], [], [], false⟩, ⟨[59], [], [], [], false⟩, ⟨[60], [], [], [], false⟩, ⟨[0], [], [], [], false⟩, ⟨[62], [], [], [], false⟩, ⟨[63], [], [], [], false⟩, ⟨[64], [0], [], [], false⟩, ⟨[5], [], [], [], false⟩, ⟨[66], [], [], [], false⟩, ⟨[67], [], [], [], false⟩, ⟨[0], [], [], [], false⟩, ⟨[69], [], [], [], false⟩, ⟨[70], [], [], [], false⟩, ⟨[71], [0], [], [], false⟩, ⟨[72], [], [], [], false⟩, ⟨[68, 73], [], [], [], false⟩, ⟨[65, 74], [], [], [], false⟩, ⟨[75], [], [], [], false⟩, ⟨[76], [], [], [], false⟩, ⟨[77], [], [], [], false⟩, ⟨[61, 78], [], [], [], false⟩, ⟨[5], [], [], [], false⟩, ⟨[80], [], [], [], false⟩, ⟨[79, 81], [], [], [], false⟩, ⟨[5], [], [], [], false⟩, ⟨[0], [], [], [], false⟩, ⟨[84], [], [], [], false⟩, ⟨[85], [], [], [], false⟩, ⟨[86], [0], [], [], false⟩, ⟨[87], [], [], [], false⟩, ⟨[83, 88], [], [], [], false⟩, ⟨[89], [], [], [], false⟩, ⟨[82, 90], [], [], [], false⟩, ⟨[91], [], [], [], false⟩] [0, 1, 2, 3, 4, 5, 6, 7, 8, 9, 10, 11, 12, 13, 14, 15, 16, 17, 18, 19, 20, 21, 22, 23, 24, 25, 26, 27, 28, 29, 30, 31, 32, 33, 34, 35, 36, 37, 38, 39, 40, 41, 42, 43, 44, 45] [[], [0], [0, 1], [0, 1, 2], [], [], [5], [5, 6], [5, 6, 7], [5, 6, 7, 8], [4, 5, 6, 7, 8, 9], [0, 1, 2, 3, 4, 5, 6, 7, 8, 9, 10], [0, 1, 2, 3, 4, 5, 6, 7, 8, 9, 10, 11], [0, 1, 2, 3, 4, 5, 6, 7, 8, 9, 10, 11, 12], [0, 1, 2, 3, 4, 5, 6, 7, 8, 9, 10, 11, 12, 13], [], [15], [15, 16], [15, 16, 17], [], [19], [19, 20], [], [22], [22, 23], [22, 23, 24], [22, 23, 24, 25], [19, 20, 21, 22, 23, 24, 25, 26], [15, 16, 17, 18, 19, 20, 21, 22, 23, 24, 25, 26, 27], [15, 16, 17, 18, 19, 20, 21, 22, 23, 24, 25, 26, 27, 28], [15, 16, 17, 18, 19, 20, 21, 22, 23, 24, 25, 26, 27, 28, 29], [15, 16, 17, 18, 19, 20, 21, 22, 23, 24, 25, 26, 27, 28, 29, 30], [0, 1, 2, 3, 4, 5, 6, 7, 8, 9, 10, 11, 12, 13, 14, 15, 16, 17, 18, 19, 20, 21, 22, 23, 24, 25, 26, 27, 28, 29, 30, 31], [], [33], [0, 1, 2, 3, 4, 5, 6, 7, 8, 9, 10, 11, 12, 13, 14, 15, 16, 17, 18, 19, 20, 21, 22, 23, 24, 25, 26, 27, 28, 29, 30, 31, 32, 33, 34], [], [], [37], [37, 38], [37, 38, 39], [37, 38, 39, 40], [36, 37, 38, 39, 40, 41], [36, 37, 38, 39, 40, 41, 42], [0, 1, 2, 3, 4, 5, 6, 7, 8, 9, 10, 11, 12, 13, 14, 15, 16, 17, 18, 19, 20, 21, 22, 23, 24, 25, 26, 27, 28, 29, 30, 31, 32, 33, 34, 35, 36, 37, 38, 39, 40, 41, 42, 43], [0, 1, 2, 3, 4, 5, 6, 7, 8, 9, 10, 11, 12, 13, 14, 15, 16, 17, 18, 19, 20, 21, 22, 23, 24, 25, 26, 27, 28, 29, 30, 31, 32, 33, 34, 35, 36, 37, 38, 39, 40, 41, 42, 43, 44]] 1 rfl (by simp) (by decide +kernel) (by simp) ?_)
  intro O A K hO hA hK
  have o0 := opGet hO 0 _ rfl
  have o1 := opGet hO 1 _ rfl
  have o2 := opGet hO 2 _ rfl
  have o3 := opGet hO 3 _ rfl
  have o4 := opGet hO 4 _ rfl
  have o5 := opGet hO 5 _ rfl
  have o6 := opGet hO 6 _ rfl
  have o7 := opGet hO 7 _ rfl
  have o8 := opGet hO 8 _ rfl
  have o9 := opGet hO 9 _ rfl
  have o10 := opGet hO 10 _ rfl
  have o11 := opGet hO 11 _ rfl
  have o12 := opGet hO 12 _ rfl
  have o13 := opGet hO 13 _ rfl
  have o14 := opGet hO 14 _ rfl
  have o15 := opGet hO 15 _ rfl
  have o16 := opGet hO 16 _ rfl
  have o17 := opGet hO 17 _ rfl
  have o18 := opGet hO 18 _ rfl
  have o19 := opGet hO 19 _ rfl
  have o20 := opGet hO 20 _ rfl
  have o21 := opGet hO 21 _ rfl
  have o22 := opGet hO 22 _ rfl
  have o23 := opGet hO 23 _ rfl
  have o24 := opGet hO 24 _ rfl
  have o25 := opGet hO 25 _ rfl
  have o26 := opGet hO 26 _ rfl
  have o27 := opGet hO 27 _ rfl
  have o28 := opGet hO 28 _ rfl
  have o29 := opGet hO 29 _ rfl
  have o30 := opGet hO 30 _ rfl
  have o31 := opGet hO 31 _ rfl
  have o32 := opGet hO 32 _ rfl
  have o33 := opGet hO 33 _ rfl
  have o34 := opGet hO 34 _ rfl
  have o35 := opGet hO 35 _ rfl
  have o36 := opGet hO 36 _ rfl
  have o37 := opGet hO 37 _ rfl
  have o38 := opGet hO 38 _ rfl
  have o39 := opGet hO 39 _ rfl
  have o40 := opGet hO 40 _ rfl
  have o41 := opGet hO 41 _ rfl
  have o42 := opGet hO 42 _ rfl
  have o43 := opGet hO 43 _ rfl
  have o44 := opGet hO 44 _ rfl
  have o45 := opGet hO 45 _ rfl
  have a0 := opGet hA 0 _ rfl
  have a1 := opGet hA 1 _ rfl
  have a2 := opGet hA 2 _ rfl
  have a3 := opGet hA 3 _ rfl
  have a4 := opGet hA 4 _ rfl
  have a5 := opGet hA 5 _ rfl
  have a6 := opGet hA 6 _ rfl
  have a7 := opGet hA 7 _ rfl
  have a8 := opGet hA 8 _ rfl
  have a9 := opGet hA 9 _ rfl
  have a10 := opGet hA 10 _ rfl
  have a11 := opGet hA 11 _ rfl
  have a12 := opGet hA 12 _ rfl
  have a13 := opGet hA 13 _ rfl
  have a14 := opGet hA 14 _ rfl
  have a15 := opGet hA 15 _ rfl
  have a16 := opGet hA 16 _ rfl
  have a17 := opGet hA 17 _ rfl
  have a18 := opGet hA 18 _ rfl
  have a19 := opGet hA 19 _ rfl
  have a20 := opGet hA 20 _ rfl
  have a21 := opGet hA 21 _ rfl
  have a22 := opGet hA 22 _ rfl
  have a23 := opGet hA 23 _ rfl
  have a24 := opGet hA 24 _ rfl
  have a25 := opGet hA 25 _ rfl
  have a26 := opGet hA 26 _ rfl
  have a27 := opGet hA 27 _ rfl
  have a28 := opGet hA 28 _ rfl
  have a29 := opGet hA 29 _ rfl
  have a30 := opGet hA 30 _ rfl
  have a31 := opGet hA 31 _ rfl
  have a32 := opGet hA 32 _ rfl
  have a33 := opGet hA 33 _ rfl
  have a34 := opGet hA 34 _ rfl
  have a35 := opGet hA 35 _ rfl
  have a36 := opGet hA 36 _ rfl
  have a37 := opGet hA 37 _ rfl
  have a38 := opGet hA 38 _ rfl
  have a39 := opGet hA 39 _ rfl
  have a40 := opGet hA 40 _ rfl
  have a41 := opGet hA 41 _ rfl
  have a42 := opGet hA 42 _ rfl
  have a43 := opGet hA 43 _ rfl
  have a44 := opGet hA 44 _ rfl
  have a45 := opGet hA 45 _ rfl
  clear hO hA
  simp -implicitDefEqProofs (disch := omega) only [go_sem, o0, a0, o1, a1, o2, a2, o3, a3, o4, a4, o5, a5, o6, a6, o7, a7, o8, a8, o9, a9, o10, a10, o11, a11, o12, a12, o13, a13, o14, a14, o15, a15, o16, a16, o17, a17, o18, a18, o19, a19, o20, a20, o21, a21, o22, a22, o23, a23, o24, a24, o25, a25, o26, a26, o27, a27, o28, a28, o29, a29, o30, a30, o31, a31, o32, a32, o33, a33, o34, a34, o35, a35, o36, a36, o37, a37, o38, a38, o39, a39, o40, a40, o41, a41, o42, a42, o43, a43, o44, a44, o45, a45]
  refine hK _ ?_
  simp -implicitDefEqProofs (disch := omega) only [go_sem]
  generalize hx : (↑(bs.getD (q.tmod ↑bs.length).toNat 0) * 131 + ↑(bs.getD ((q * 7 + 3).tmod ↑bs.length).toNat 0) * 1117 + q * 29 + q.tdiv ↑bs.length * 53 : Int) = x
  have hx0 : 0 ≤ x ∧ x ≤ 1099511627776 * 100 := by omega
  have hx1 : 0 ≤ x.tdiv 64 := Int.tdiv_nonneg hx0.1 (by omega)
  have hx2 : x.tdiv 64 ≤ x := Int.tdiv_le_self _ hx0.1
  have hx3 := xor64 x (x.tdiv 64) (by omega) (by omega) (by omega) (by omega)
  refine wpM_seq ?_
  refine wpM_regionK [1, 6] rfl ?_; intro Q1 hQ1
  simp -implicitDefEqProofs (disch := omega) only [go_sem]
  refine hQ1 _ _ ?_
  simp -implicitDefEqProofs (disch := omega) only [go_sem]
  refine wpM_seq ?_
  refine wpM_regionK [4] rfl ?_; intro Q1 hQ1
  simp -implicitDefEqProofs (disch := omega) only [go_sem]
  refine hQ1 _ _ ?_
  simp -implicitDefEqProofs (disch := omega) only [go_sem]
  refine wpM_ret ?_
  exact fin _ _ rfl rfl rfl rfl rfl (Int.tmod_nonneg _ hx3.1) (fun _ => Int.tmod_lt_of_pos _ (by omega)) (fun h => by omega)
def numO (id : Nat) (bs : List Nat) (q : Int) (l : List Int) (_ : List Nat) (o : COut) : Prop :=
  ∃ k : Int, o = { rs := [.int .i64 k], u := [(id, some (rdObj bs (q + 1)))] } ∧ k ∈ l
theorem num_ok (id lid : Nat) (bs : List Nat) (q : Int) (l : List Int) (n : Nat) (hn : l.length = n) (hn0 : 0 < n) (hn1 : n ≤ 1000) (hne : id ≠ lid) (hbs : Bs bs) (hq0 : 0 ≤ q) (hq : q ≤ 1099511627776) :
    CallF Tryz.prog 74 [.ptr id 0, .sl 3 lid 0 n] [(id, rdObj bs q), (lid, .cells 3 (ints l))] 0 (numO id bs q l) := by
  refine callF_of' Tryz.func74 rfl Tryz.ntmps74 (by simp) ?_
  intro f0 B ns Q hB hns hQ
  have hid : id < B := hB id (by simp [hasKey, lk])
  have hlid : lid < B := hB lid (by simp [hasKey, lk, hne])
  obtain rfl : ns = [] := List.eq_nil_of_length_eq_zero hns
  refine wpM_seq ?_
  refine wpM_regionK [0, 1] rfl ?_; intro Q1 hQ1
  simp -implicitDefEqProofs (disch := omega) only [go_sem]
  refine hQ1 _ _ ?_
  simp -implicitDefEqProofs (disch := omega) only [go_sem]
  refine wpM_seq ?_
  refine wpM_regionK [4] rfl ?_; intro Q1 hQ1
  simp -implicitDefEqProofs (disch := omega) only [go_sem]
  refine call_fn (pick_ok id bs q n hbs hq0 hq (by omega)) Tryz.call33 rfl rfl rfl rfl T_ ?_
  rintro out ⟨k, rfl, k1, k2, k3⟩
  simp -implicitDefEqProofs (disch := omega) only [go_sem, hne, Nat.mul_one]
  refine hQ1 _ _ ?_
  simp -implicitDefEqProofs (disch := omega) only [go_sem]
  refine wpM_ret (hQ _ _ (ret0 [(id, some (rdObj bs (q + 1)))] rfl rfl rfl (by rw [Tryz.results74]; rfl) ⟨_, rfl, ?_⟩ ?_ ?_ ?_ ?_))
  · rw [List.getD_eq_getElem?_getD, List.getElem?_eq_getElem (by omega)]; exact List.getElem_mem _
  all_goals simp -implicitDefEqProofs (disch := omega) only [go_sem, hne, rdObj]
theorem u8s_take (l : List Nat) (k : Nat) : (u8s l).take k = u8s (l.take k) := by simp [u8s]
def openO (code : List Nat) (ns : List Nat) (o : COut) : Prop :=
  ∃ j bs, ns = [j] ∧ Bs bs ∧ o = { rs := [.ptr j 0], nw := [(j, rdObj bs 0)] } ∧ bs = code.take 2000
theorem open_ok (code : List Nat) (hc : ∀ x ∈ code, x < 256) (hl : code.length ≤ 1099511627776) :
    CallF Tryz.prog 30 [.rows 5 (u8s code)] [] 1 (openO code) := by
  refine callF_of' Tryz.func30 rfl Tryz.ntmps30 (by simp) ?_
  intro f0 B ns Q hB hns hQ
  obtain ⟨j, rfl⟩ : ∃ j, ns = [j] := by
    match ns, hns with
    | [j], _ => exact ⟨j, rfl⟩
  have hbs : Bs (code.take 2000) := ⟨fun x hx => hc x (List.mem_of_mem_take hx), by simp; omega⟩
  refine wpM_seq ?_
  refine wpM_regionK [0] rfl ?_; intro Q1 hQ1
  simp -implicitDefEqProofs (disch := omega) only [go_sem]
  refine hQ1 _ _ ?_
  simp -implicitDefEqProofs (disch := omega) only [go_sem]
  refine wpM_cut (fun s => s = ⟨[(0, .rows 5 (u8s (code.take 2000)))], [], f0, B, B, []⟩) ?_ ?_
  · refine wpM_seq ?_
    refine wpM_regionK [0, 5] rfl ?_; intro Q1 hQ1
    simp -implicitDefEqProofs (disch := omega) only [go_sem]
    refine hQ1 _ _ ?_
    simp -implicitDefEqProofs (disch := omega) only [go_sem]
    refine wpM_condK ?_
    simp -implicitDefEqProofs (disch := omega) only [go_sem]
    refine ⟨fun h => ?_, fun h => ?_⟩
    · refine wpM_regionK [0] rfl ?_; intro Q1 hQ1
      simp -implicitDefEqProofs (disch := omega) only [go_sem, u8s_take]
      refine hQ1 _ _ ?_
      simp -implicitDefEqProofs (disch := omega) only [go_sem]
      refine .of rfl ?_ ?_ ?_ rfl rfl (Nat.le_refl _) rfl <;> simp -implicitDefEqProofs (disch := omega) only [go_sem, u8s_take, Int.reduceToNat]
    · refine wpM_skip ?_
      simp -implicitDefEqProofs (disch := omega) only [go_sem]
      have e : code.take 2000 = code := List.take_of_length_le (by omega)
      rw [e]
      refine .of rfl ?_ ?_ ?_ rfl rfl (Nat.le_refl _) rfl <;> simp -implicitDefEqProofs (disch := omega) only [go_sem]
  rintro s' rfl
  refine wpM_seq ?_
  refine wpM_regionK [2] rfl ?_; intro Q1 hQ1
  simp -implicitDefEqProofs (disch := omega) only [go_sem]
  refine hQ1 _ _ ?_
  simp -implicitDefEqProofs (disch := omega) only [go_sem]
  refine wpM_ret (hQ _ _ (retK [B] [] [(j, rdObj (code.take 2000) 0)] rfl rfl rfl (by rw [Tryz.results30]; rfl) ?_ ⟨j, _, rfl, hbs, rfl, rfl⟩ ?_ ?_ ?_ ?_ ?_ ?_))
  all_goals simp -implicitDefEqProofs (disch := omega) only [go_sem, rdObj, List.nodup_cons, List.nodup_nil]
end Go.Proofs.YtnilkkcobeaglaaGreat
namespace Go.Proofs.YtnilkkcobeaglaaGreat
open Go Sg
set_option maxRecDepth 100000
set_option linter.unusedSimpArgs false
set_option linter.unusedVariables false
set_option maxHeartbeats 4000000
def cut (n : Int) : Int := max (-1000000) (min 1000000 n)
theorem l1Max_ok (a b : Int) : PureF Tryz.prog 145 [.int .i64 a, .int .i64 b] [.int .i64 (max a b)] := by
  refine pureF_of Tryz.func145 rfl Tryz.ntmps145 (by simp) T_ ?_
  intro f0 B Q hQ
  refine wpM_seq ?_
  refine wpM_regionK [0, 1] rfl ?_; intro Q1 hQ1
  refine S_ ?_
  refine hQ1 _ _ ?_; clear hQ1 Q1
  refine S_ ?_
  refine wpM_seq ?_
  refine wpM_seq ?_
  refine wpM_regionK [0, 1, 7] rfl ?_; intro Q1 hQ1
  refine S_ ?_
  refine hQ1 _ _ ?_; clear hQ1 Q1
  refine S_ ?_
  refine wpM_condK ?_
  refine S_ ?_
  refine ⟨fun hc0 => ?_, fun hc0 => ?_⟩
  ·
    refine wpM_seq ?_
    refine wpM_regionK [4] rfl ?_; intro Q1 hQ1
    refine S_ ?_
    refine hQ1 _ _ ?_; clear hQ1 Q1
    refine S_ ?_
    refine wpM_ret ?_
    try refine S_ ?_
    refine hQ _ _ rfl rfl rfl (by simp -implicitDefEqProofs (disch := omega) only [go_sem, le_yes, true_or]) ?_ (.inl rfl)
    rw [Tryz.results145]
    try simp -implicitDefEqProofs (disch := omega) only [go_sem, List.cons.injEq, PV.bool.injEq, PV.int.injEq, PV.agg.injEq]
    all_goals
      omega
  refine wpM_skip ?_
  refine S_ ?_
  refine wpM_seq ?_
  refine wpM_regionK [4] rfl ?_; intro Q1 hQ1
  refine S_ ?_
  refine hQ1 _ _ ?_; clear hQ1 Q1
  refine S_ ?_
  refine wpM_ret ?_
  try refine S_ ?_
  refine hQ _ _ rfl rfl rfl (by simp -implicitDefEqProofs (disch := omega) only [go_sem, le_yes, true_or]) ?_ (.inl rfl)
  rw [Tryz.results145]
  try simp -implicitDefEqProofs (disch := omega) only [go_sem, List.cons.injEq, PV.bool.injEq, PV.int.injEq, PV.agg.injEq]
  all_goals
    omega
theorem l1Min_ok (a b : Int) : PureF Tryz.prog 146 [.int .i64 a, .int .i64 b] [.int .i64 (min a b)] := by
  refine pureF_of Tryz.func146 rfl Tryz.ntmps146 (by simp) T_ ?_
  intro f0 B Q hQ
  refine wpM_seq ?_
  refine wpM_regionK [0, 1] rfl ?_; intro Q1 hQ1
  refine S_ ?_
  refine hQ1 _ _ ?_; clear hQ1 Q1
  refine S_ ?_
  refine wpM_seq ?_
  refine wpM_seq ?_
  refine wpM_regionK [0, 1, 7] rfl ?_; intro Q1 hQ1
  refine S_ ?_
  refine hQ1 _ _ ?_; clear hQ1 Q1
  refine S_ ?_
  refine wpM_condK ?_
  refine S_ ?_
  refine ⟨fun hc0 => ?_, fun hc0 => ?_⟩
  ·
    refine wpM_seq ?_
    refine wpM_regionK [4] rfl ?_; intro Q1 hQ1
    refine S_ ?_
    refine hQ1 _ _ ?_; clear hQ1 Q1
    refine S_ ?_
    refine wpM_ret ?_
    try refine S_ ?_
    refine hQ _ _ rfl rfl rfl (by simp -implicitDefEqProofs (disch := omega) only [go_sem, le_yes, true_or]) ?_ (.inl rfl)
    rw [Tryz.results146]
    try simp -implicitDefEqProofs (disch := omega) only [go_sem, List.cons.injEq, PV.bool.injEq, PV.int.injEq, PV.agg.injEq]
    all_goals
      omega
  refine wpM_skip ?_
  refine S_ ?_
  refine wpM_seq ?_
  refine wpM_regionK [4] rfl ?_; intro Q1 hQ1
  refine S_ ?_
  refine hQ1 _ _ ?_; clear hQ1 Q1
  refine S_ ?_
  refine wpM_ret ?_
  try refine S_ ?_
  refine hQ _ _ rfl rfl rfl (by simp -implicitDefEqProofs (disch := omega) only [go_sem, le_yes, true_or]) ?_ (.inl rfl)
  rw [Tryz.results146]
  try simp -implicitDefEqProofs (disch := omega) only [go_sem, List.cons.injEq, PV.bool.injEq, PV.int.injEq, PV.agg.injEq]
  all_goals
    omega
theorem cut_ok (n : Int) : PureF Tryz.prog 109 [.int .i64 n] [.int .i64 (cut n)] := by
  refine pureF_of Tryz.func109 rfl Tryz.ntmps109 (by simp) T_ ?_
  intro f0 B Q hQ
  refine wpM_seq ?_
  refine wpM_regionK [0] rfl ?_; intro Q1 hQ1
  refine S_ ?_
  refine hQ1 _ _ ?_; clear hQ1 Q1
  refine S_ ?_
  refine wpM_seq ?_
  refine wpM_regionK [2] rfl ?_; intro Q1 hQ1
  refine S_ ?_
  refine call_p (l1Min_ok 1000000 n) Tryz.call146 rfl rfl rfl (by first | rfl | (simp -implicitDefEqProofs (disch := omega) only [go_sem] <;> rfl)) ?_
  refine S_ ?_
  refine call_p (l1Max_ok (-1000000) (min 1000000 n)) Tryz.call145 rfl rfl rfl (by first | rfl | (simp -implicitDefEqProofs (disch := omega) only [go_sem] <;> rfl)) ?_
  refine S_ ?_
  refine hQ1 _ _ ?_; clear hQ1 Q1
  refine S_ ?_
  refine wpM_ret ?_
  try refine S_ ?_
  refine hQ _ _ rfl rfl rfl (by simp -implicitDefEqProofs (disch := omega) only [go_sem, le_yes, true_or]) ?_ (.inl rfl)
  rw [Tryz.results109]
  try simp -implicitDefEqProofs (disch := omega) only [go_sem, List.cons.injEq, PV.bool.injEq, PV.int.injEq, PV.agg.injEq]
  all_goals
    rfl
structure AD where
  kind : Int
  at' : Int
  deriving DecidableEq, Inhabited
def AD.cs (a : AD) : List PV := [.int .i64 a.kind, .int .i64 a.at']
@[go_sem] theorem AD.cs_eq (a : AD) : a.cs = [.int .i64 a.kind, .int .i64 a.at'] := rfl
theorem eqAD (d : Nat) (a b c e : Int) : eqA Tryz.prog (d + 2) 39 (.agg [.int .i64 a, .int .i64 b]) (.agg [.int .i64 c, .int .i64 e]) = some (a == c && b == e) := by
  unfold eqA
  simp only [Tryz.underlying39, Tryz.stoodInHeld39, Bool.false_eq_true, if_false, eqFs]
  simp -implicitDefEqProofs (disch := omega) only [go_sem, eqA, eqFs, ne_eq, String.reduceEq]
  cases h1 : a == c <;> cases h2 : b == e <;> simp [eqA, Tryz.underlying3, h1, h2]
@[go_sem] theorem neqAD (x y : Operand) (a b c e : Int) : binOpA Tryz.prog .neq 39 x y (.agg [.int .i64 a, .int .i64 b]) (.agg [.int .i64 c, .int .i64 e]) = some (.bool (!(a == c && b == e))) := by
  simp only [binOpA, Tryz.eqGuardType39]
  rw [eqAD 9998]; rfl
@[go_sem] theorem eqlAD (x y : Operand) (a b c e : Int) : binOpA Tryz.prog .eql 39 x y (.agg [.int .i64 a, .int .i64 b]) (.agg [.int .i64 c, .int .i64 e]) = some (.bool (a == c && b == e)) := by
  simp only [binOpA, Tryz.eqGuardType39]
  rw [eqAD 9998]; rfl
def AD.ok (a : AD) : Bool := decide (a.kind ≥ 1) && decide (a.kind ≤ 3) && decide (a.at' ≥ 0) && decide (a.at' < 6)
theorem addrOk_ok (a : AD) : PureF Tryz.prog 79 [.agg a.cs] [.bool a.ok] := by
  refine pureF_of Tryz.func79 rfl Tryz.ntmps79 (by simp) T_ ?_
  intro f0 B Q hQ
  refine wpM_seq ?_
  refine wpM_regionK [1] rfl ?_; intro Q1 hQ1
  refine S_ ?_
  refine hQ1 _ _ ?_; clear hQ1 Q1
  refine S_ ?_
  refine wpM_seq ?_
  refine wpM_regionK [2] rfl ?_; intro Q1 hQ1
  refine SD_ ?_
  refine hQ1 _ _ ?_; clear hQ1 Q1
  refine S_ ?_
  refine wpM_ret ?_
  try refine S_ ?_
  refine hQ _ _ rfl rfl rfl (by simp -implicitDefEqProofs (disch := omega) only [go_sem, le_yes, true_or]) ?_ (.inl rfl)
  rw [Tryz.results79]
  try simp -implicitDefEqProofs (disch := omega) only [go_sem, List.cons.injEq, PV.bool.injEq, PV.int.injEq, PV.agg.injEq]
  all_goals
    rfl
inductive Ex where
  | mk (kind n : Int) (a : AD) (kids : List Ex)
  deriving Inhabited
def Ex.kind : Ex → Int | .mk k _ _ _ => k
def Ex.n : Ex → Int | .mk _ n _ _ => n
def Ex.a : Ex → AD | .mk _ _ a _ => a
def Ex.kids : Ex → List Ex | .mk _ _ _ l => l
mutual
def Ex.cs : Ex → List PV
  | .mk k n a l => [.int .i64 k, .int .i64 n, .int .i64 a.kind, .int .i64 a.at', .rows 46 (Ex.csL l)]
def Ex.csL : List Ex → List (List PV)
  | [] => []
  | e :: l => e.cs :: Ex.csL l
end
@[go_sem] theorem Ex.cs_eq (e : Ex) : e.cs = [.int .i64 e.kind, .int .i64 e.n, .int .i64 e.a.kind, .int .i64 e.a.at', .rows 46 (Ex.csL e.kids)] := by cases e; simp only [Ex.cs, Ex.kind, Ex.n, Ex.a, Ex.kids]
theorem Ex.csL_map (l : List Ex) : Ex.csL l = l.map Ex.cs := by
  induction l with
  | nil => rfl
  | cons e l ih => simp [Ex.csL, ih]
@[go_sem] theorem Ex.csL_len (l : List Ex) : (Ex.csL l).length = l.length := by simp [Ex.csL_map]
@[go_sem] theorem Ex.csL_get (l : List Ex) (k : Nat) (h : k < l.length) : (Ex.csL l).getD k [] = (l.getD k default).cs := by simp [Ex.csL_map, List.getD, h]
def kidsN (k : Int) : Int := if k == 1 || k == 2 then 0 else if k == 10 then 1 else if decide (k ≥ 3) && decide (k ≤ 9) then 2 else -1
theorem l3Kids_ok (k : Int) : PureF Tryz.prog 108 [.int .i64 k] [.int .i64 (kidsN k)] := by
  refine pureF_of Tryz.func108 rfl Tryz.ntmps108 (by simp) T_ ?_
  intro f0 B Q hQ
  refine wpM_seq ?_
  refine wpM_regionK [0] rfl ?_; intro Q1 hQ1
  refine S_ ?_
  refine hQ1 _ _ ?_; clear hQ1 Q1
  refine S_ ?_
  refine wpM_seq ?_
  refine wpM_block ?_
  refine wpM_seq ?_
  refine wpM_regionK [0, 3] rfl ?_; intro Q1 hQ1
  refine SD_ ?_
  refine hQ1 _ _ ?_; clear hQ1 Q1
  refine S_ ?_
  refine wpM_condK ?_
  refine S_ ?_
  refine ⟨fun hc0 => ?_, fun hc0 => ?_⟩
  ·
    refine wpM_seq ?_
    refine wpM_regionK [2] rfl ?_; intro Q1 hQ1
    refine S_ ?_
    refine hQ1 _ _ ?_; clear hQ1 Q1
    refine S_ ?_
    refine wpM_ret ?_
    try refine S_ ?_
    refine hQ _ _ rfl rfl rfl (by simp -implicitDefEqProofs (disch := omega) only [go_sem, le_yes, true_or]) ?_ (.inl rfl)
    rw [Tryz.results108]
    try simp -implicitDefEqProofs (disch := omega) only [go_sem, List.cons.injEq, PV.bool.injEq, PV.int.injEq, PV.agg.injEq]
    all_goals
      simp [kidsN, *]
  refine wpM_seq ?_
  refine wpM_regionK [0, 10] rfl ?_; intro Q1 hQ1
  refine S_ ?_
  refine hQ1 _ _ ?_; clear hQ1 Q1
  refine S_ ?_
  refine wpM_condK ?_
  refine S_ ?_
  refine ⟨fun hc1 => ?_, fun hc1 => ?_⟩
  ·
    refine wpM_seq ?_
    refine wpM_regionK [2] rfl ?_; intro Q1 hQ1
    refine S_ ?_
    refine hQ1 _ _ ?_; clear hQ1 Q1
    refine S_ ?_
    refine wpM_ret ?_
    try refine S_ ?_
    refine hQ _ _ rfl rfl rfl (by simp -implicitDefEqProofs (disch := omega) only [go_sem, le_yes, true_or]) ?_ (.inl rfl)
    rw [Tryz.results108]
    try simp -implicitDefEqProofs (disch := omega) only [go_sem, List.cons.injEq, PV.bool.injEq, PV.int.injEq, PV.agg.injEq]
    all_goals
      simp [kidsN, *]
  refine wpM_seq ?_
  refine wpM_regionK [13] rfl ?_; intro Q1 hQ1
  refine SD_ ?_
  refine hQ1 _ _ ?_; clear hQ1 Q1
  refine S_ ?_
  refine wpM_condK ?_
  refine S_ ?_
  refine ⟨fun hc2 => ?_, fun hc2 => ?_⟩
  ·
    refine wpM_seq ?_
    refine wpM_regionK [2] rfl ?_; intro Q1 hQ1
    refine S_ ?_
    refine hQ1 _ _ ?_; clear hQ1 Q1
    refine S_ ?_
    refine wpM_ret ?_
    try refine S_ ?_
    refine hQ _ _ rfl rfl rfl (by simp -implicitDefEqProofs (disch := omega) only [go_sem, le_yes, true_or]) ?_ (.inl rfl)
    rw [Tryz.results108]
    try simp -implicitDefEqProofs (disch := omega) only [go_sem, List.cons.injEq, PV.bool.injEq, PV.int.injEq, PV.agg.injEq]
    all_goals
      simp [kidsN, *]
  refine wpM_skip ?_
  refine S_ ?_
  refine wpM_seq ?_
  refine wpM_regionK [2] rfl ?_; intro Q1 hQ1
  refine S_ ?_
  refine hQ1 _ _ ?_; clear hQ1 Q1
  refine S_ ?_
  refine wpM_ret ?_
  try refine S_ ?_
  refine hQ _ _ rfl rfl rfl (by simp -implicitDefEqProofs (disch := omega) only [go_sem, le_yes, true_or]) ?_ (.inl rfl)
  rw [Tryz.results108]
  try simp -implicitDefEqProofs (disch := omega) only [go_sem, List.cons.injEq, PV.bool.injEq, PV.int.injEq, PV.agg.injEq]
  all_goals
    simp [kidsN, *]
end Go.Proofs.YtnilkkcobeaglaaGreat
namespace Go.Proofs.YtnilkkcobeaglaaGreat
open Go Sg
set_option maxRecDepth 100000
set_option linter.unusedSimpArgs false
set_option linter.unusedVariables false
set_option maxHeartbeats 4000000
mutual
def Ex.sz : Ex → Nat | .mk _ _ _ l => 1 + Ex.szL l
def Ex.szL : List Ex → Nat | [] => 0 | e :: l => e.sz + Ex.szL l
end
theorem Ex.sz_eq (e : Ex) : e.sz = 1 + Ex.szL e.kids := by cases e; simp only [Ex.sz, Ex.kids]
theorem Ex.sz_pos (e : Ex) : 0 < e.sz := by rw [Ex.sz_eq]; omega
theorem Ex.len_szL (l : List Ex) : l.length ≤ Ex.szL l := by
  induction l with
  | nil => simp
  | cons e l ih => simp only [List.length_cons, Ex.szL]; have := e.sz_pos; omega
theorem Ex.get_szL (l : List Ex) (k : Nat) (h : k < l.length) : (l.getD k default).sz ≤ Ex.szL l := by
  induction l generalizing k with
  | nil => simp at h
  | cons e l ih =>
    simp only [Ex.szL]
    cases k with
    | zero => simp
    | succ k =>
      have := ih k (by simpa using h)
      simp only [List.getD_cons_succ]; omega
theorem Ex.kid_sz {e : Ex} {k : Nat} (h : k < e.kids.length) : (e.kids.getD k default).sz < e.sz := by
  have := Ex.get_szL e.kids k h
  rw [Ex.sz_eq e]; omega
theorem Ex.kids_len (e : Ex) : e.kids.length < e.sz := by
  have := Ex.len_szL e.kids
  rw [Ex.sz_eq e]; omega
def formD : Nat → Ex → Bool
  | 0, _ => false
  | d + 1, e => if kidsN e.kind != (e.kids.length : Int) then false
    else if (e.kind == 1 && cut e.n != e.n) || (e.kind != 1 && e.n != 0) then false
    else if (e.kind == 2 && !e.a.ok) || (e.kind != 2 && !(e.a.kind == 0 && e.a.at' == 0)) then false
    else e.kids.all (formD d)
theorem take_all {α : Type} [Inhabited α] (p : α → Bool) (l : List α) (i : Nat) (h : i < l.length) : (l.take (i + 1)).all p = ((l.take i).all p && p (l.getD i default)) := by
  rw [List.take_succ_eq_append_getElem h, List.all_append]
  simp [List.getD, h]
theorem all_no {α : Type} [Inhabited α] {p : α → Bool} {l : List α} {i : Nat} (h : i < l.length) (hp : (!p (l.getD i default)) = true) : l.all p = false := by
  rw [List.all_eq_false]
  refine ⟨l.getD i default, ?_, by simpa using hp⟩
  rw [List.getD_eq_getElem?_getD, List.getElem?_eq_getElem h]; exact List.getElem_mem h
theorem all_yes {α : Type} [Inhabited α] {p : α → Bool} {l : List α} {i n : Nat} (hi : i + n = l.length) (h : ¬ (i : Int) < (l.length : Int)) (hp : (l.take i).all p = true) : l.all p = true := by
  have : i = l.length := by omega
  rwa [List.take_of_length_le (by omega)] at hp
theorem l3Form_ok (d : Nat) : ∀ (e : Ex) (deep : Int), deep.toNat = d → deep ≤ 1000000 → e.sz ≤ 1099511627776 → PureF Tryz.prog 56 [.agg e.cs, .int .i64 deep] [.bool (formD d e)] := by
  induction d with
  | zero =>
    intro e deep hd hdl hs
    have hlen := e.kids_len
    refine pureF_of Tryz.func56 rfl Tryz.ntmps56 (by simp) T_ ?_
    intro f0 B Q hQ
    have hlt : deep < 1 := by omega
    refine wpM_seq ?_
    refine wpM_regionK [1, 2] rfl ?_; intro Q1 hQ1
    refine S_ ?_
    refine hQ1 _ _ ?_; clear hQ1 Q1
    refine S_ ?_
    refine wpM_seq ?_
    refine wpM_seq ?_
    refine wpM_keep [1, 2, 16] (wpM_dr mixed 0 1 [B] [⟨[1], [], [], [], false⟩, ⟨[6], [], [], [], false⟩, ⟨[7], [], [], [], false⟩, ⟨[2, 8], [], [], [], false⟩, ⟨[8, 9], [0], [], [], false⟩, ⟨[8, 10], [], [], [], true⟩, ⟨[2, 8], [], [], [], false⟩, ⟨[8, 12], [0], [], [], false⟩, ⟨[8, 13], [], [], [], false⟩, ⟨[8, 11, 14], [], [], [], false⟩, ⟨[8, 15], [], [], [], false⟩] [0, 1, 2, 3, 4, 6, 7, 8, 5, 9, 10] [[], [0], [0, 1], [0, 1, 2], [0, 1, 2, 3], [0, 1, 2, 3, 4], [0, 1, 2], [0, 1, 2, 6], [0, 1, 2, 6, 7], [0, 1, 2, 3, 4, 5, 6, 7, 8], [0, 1, 2, 3, 4, 5, 6, 7, 8, 9]] 1 rfl (by simp) (by decide +kernel) (by simp) ?_)
    intro O A K hO hA hK; simp only [atL_cons, atL_nil, Nat.reduceAdd, Nat.zero_add] at hO hA
    refine SE_ ?_
    first | refine loudG_p (fun hb => l3Kids_ok e.kind) Tryz.call108 rfl (fun hb => by simp -implicitDefEqProofs (disch := omega) only [go_sem]) (fun hb => by first | rfl | (simp -implicitDefEqProofs (disch := omega) only [go_sem, hb, gd_of hb] <;> rfl)) rfl ?_ | refine loud_p (l3Kids_ok e.kind) Tryz.call108 rfl rfl (by first | rfl | (simp -implicitDefEqProofs (disch := omega) only [go_sem] <;> rfl)) rfl ?_
    refine SE_ ?_
    refine hK _ ?_; clear hK K hO hA O A
    refine S_ ?_
    refine wpM_condK ?_
    refine S_ ?_
    refine ⟨fun hc0 => ?_, fun hc0 => ?_⟩
    ·
      refine wpM_seq ?_
      refine wpM_regionK [4] rfl ?_; intro Q1 hQ1
      refine S_ ?_
      refine hQ1 _ _ ?_; clear hQ1 Q1
      refine S_ ?_
      refine wpM_ret ?_
      try refine S_ ?_
      refine hQ _ _ rfl rfl rfl (by simp -implicitDefEqProofs (disch := omega) only [go_sem, le_yes, true_or]) ?_ (.inl rfl)
      rw [Tryz.results56]
      try simp -implicitDefEqProofs (disch := omega) only [go_sem, List.cons.injEq, PV.bool.injEq, PV.int.injEq, PV.agg.injEq]
      all_goals
        rfl
    simp [hlt] at hc0
  | succ d ih =>
    intro e deep hd hdl hs
    have hlen := e.kids_len
    refine pureF_of Tryz.func56 rfl Tryz.ntmps56 (by simp) T_ ?_
    intro f0 B Q hQ
    have hlt : decide (deep < 1) = false := by simp; omega
    refine wpM_seq ?_
    refine wpM_regionK [1, 2] rfl ?_; intro Q1 hQ1
    refine S_ ?_
    refine hQ1 _ _ ?_; clear hQ1 Q1
    refine S_ ?_
    refine wpM_seq ?_
    refine wpM_seq ?_
    refine wpM_keep [1, 2, 16] (wpM_dr mixed 0 1 [B] [⟨[1], [], [], [], false⟩, ⟨[6], [], [], [], false⟩, ⟨[7], [], [], [], false⟩, ⟨[2, 8], [], [], [], false⟩, ⟨[8, 9], [0], [], [], false⟩, ⟨[8, 10], [], [], [], true⟩, ⟨[2, 8], [], [], [], false⟩, ⟨[8, 12], [0], [], [], false⟩, ⟨[8, 13], [], [], [], false⟩, ⟨[8, 11, 14], [], [], [], false⟩, ⟨[8, 15], [], [], [], false⟩] [0, 1, 2, 3, 4, 6, 7, 8, 5, 9, 10] [[], [0], [0, 1], [0, 1, 2], [0, 1, 2, 3], [0, 1, 2, 3, 4], [0, 1, 2], [0, 1, 2, 6], [0, 1, 2, 6, 7], [0, 1, 2, 3, 4, 5, 6, 7, 8], [0, 1, 2, 3, 4, 5, 6, 7, 8, 9]] 1 rfl (by simp) (by decide +kernel) (by simp) ?_)
    intro O A K hO hA hK; simp only [atL_cons, atL_nil, Nat.reduceAdd, Nat.zero_add] at hO hA
    refine SE_ ?_
    first | refine loudG_p (fun hb => l3Kids_ok e.kind) Tryz.call108 rfl (fun hb => by simp -implicitDefEqProofs (disch := omega) only [go_sem]) (fun hb => by first | rfl | (simp -implicitDefEqProofs (disch := omega) only [go_sem, hb, gd_of hb] <;> rfl)) rfl ?_ | refine loud_p (l3Kids_ok e.kind) Tryz.call108 rfl rfl (by first | rfl | (simp -implicitDefEqProofs (disch := omega) only [go_sem] <;> rfl)) rfl ?_
    refine SE_ ?_
    refine hK _ ?_; clear hK K hO hA O A
    refine S_ ?_
    refine wpM_condK ?_
    refine S_ ?_
    refine ⟨fun hc0 => ?_, fun hc0 => ?_⟩
    ·
      rw [hlt, Bool.false_or] at hc0
      refine wpM_seq ?_
      refine wpM_regionK [4] rfl ?_; intro Q1 hQ1
      refine S_ ?_
      refine hQ1 _ _ ?_; clear hQ1 Q1
      refine S_ ?_
      refine wpM_ret ?_
      try refine S_ ?_
      refine hQ _ _ rfl rfl rfl (by simp -implicitDefEqProofs (disch := omega) only [go_sem, le_yes, true_or]) ?_ (.inl rfl)
      rw [Tryz.results56]
      try simp -implicitDefEqProofs (disch := omega) only [go_sem, List.cons.injEq, PV.bool.injEq, PV.int.injEq, PV.agg.injEq]
      all_goals
        clear ih hQ
        simp only [formD, *, ↓reduceIte, Bool.false_eq_true] <;> first | exact (all_no hi2 hc4).symm | exact (all_yes hi hc3 hall).symm
    rw [hlt, Bool.false_or] at hc0
    refine wpM_skip ?_
    refine S_ ?_
    refine wpM_seq ?_
    refine wpM_seq ?_
    refine wpM_keep [1, 2, 37] (wpM_dr mixed 0 1 [B] [⟨[2], [], [], [], false⟩, ⟨[17], [0], [], [], false⟩, ⟨[18], [], [], [], false⟩, ⟨[19], [], [], [], false⟩, ⟨[2, 20], [], [], [], false⟩, ⟨[20, 21], [0], [], [], false⟩, ⟨[20, 22], [], [], [], true⟩, ⟨[2, 20], [], [], [], false⟩, ⟨[20, 24], [0], [], [], false⟩, ⟨[20, 23, 25], [], [], [], false⟩, ⟨[20, 26], [], [], [], false⟩, ⟨[27], [], [], [], false⟩, ⟨[2, 28], [], [], [], false⟩, ⟨[28, 29], [0], [], [], false⟩, ⟨[28, 30], [], [], [], false⟩, ⟨[28, 31], [], [], [], false⟩, ⟨[2, 32], [], [], [], false⟩, ⟨[32, 33], [0], [], [], false⟩, ⟨[32, 34], [], [], [], false⟩, ⟨[28, 32, 35], [], [], [], false⟩, ⟨[28, 36], [], [], [], false⟩] [0, 1, 2, 3, 4, 5, 7, 8, 6, 9, 10, 11, 12, 13, 14, 15, 16, 17, 18, 19, 20] [[], [0], [0, 1], [0, 1, 2], [0, 1, 2, 3], [0, 1, 2, 3, 4], [0, 1, 2, 3, 4, 5], [0, 1, 2, 3], [0, 1, 2, 3, 7], [0, 1, 2, 3, 4, 5, 6, 7, 8], [0, 1, 2, 3, 4, 5, 6, 7, 8, 9], [0, 1, 2, 3, 4, 5, 6, 7, 8, 9, 10], [0, 1, 2, 3, 4, 5, 6, 7, 8, 9, 10, 11], [0, 1, 2, 3, 4, 5, 6, 7, 8, 9, 10, 11, 12], [0, 1, 2, 3, 4, 5, 6, 7, 8, 9, 10, 11, 12, 13], [0, 1, 2, 3, 4, 5, 6, 7, 8, 9, 10, 11, 12, 13, 14], [0, 1, 2, 3, 4, 5, 6, 7, 8, 9, 10, 11, 12, 13, 14, 15], [0, 1, 2, 3, 4, 5, 6, 7, 8, 9, 10, 11, 12, 13, 14, 15, 16], [0, 1, 2, 3, 4, 5, 6, 7, 8, 9, 10, 11, 12, 13, 14, 15, 16, 17], [0, 1, 2, 3, 4, 5, 6, 7, 8, 9, 10, 11, 12, 13, 14, 15, 16, 17, 18], [0, 1, 2, 3, 4, 5, 6, 7, 8, 9, 10, 11, 12, 13, 14, 15, 16, 17, 18, 19]] 1 rfl (by simp) (by decide +kernel) (by simp) ?_)
    intro O A K hO hA hK; simp only [atL_cons, atL_nil, Nat.reduceAdd, Nat.zero_add] at hO hA
    refine SE_ ?_
    first | refine loudG_p (fun hb => cut_ok e.n) Tryz.call109 rfl (fun hb => by simp -implicitDefEqProofs (disch := omega) only [go_sem]) (fun hb => by first | rfl | (simp -implicitDefEqProofs (disch := omega) only [go_sem, hb, gd_of hb] <;> rfl)) rfl ?_ | refine loud_p (cut_ok e.n) Tryz.call109 rfl rfl (by first | rfl | (simp -implicitDefEqProofs (disch := omega) only [go_sem] <;> rfl)) rfl ?_
    refine SE_ ?_
    refine hK _ ?_; clear hK K hO hA O A
    refine S_ ?_
    refine wpM_condK ?_
    refine S_ ?_
    refine ⟨fun hc1 => ?_, fun hc1 => ?_⟩
    ·
      refine wpM_seq ?_
      refine wpM_regionK [4] rfl ?_; intro Q1 hQ1
      refine S_ ?_
      refine hQ1 _ _ ?_; clear hQ1 Q1
      refine S_ ?_
      refine wpM_ret ?_
      try refine S_ ?_
      refine hQ _ _ rfl rfl rfl (by simp -implicitDefEqProofs (disch := omega) only [go_sem, le_yes, true_or]) ?_ (.inl rfl)
      rw [Tryz.results56]
      try simp -implicitDefEqProofs (disch := omega) only [go_sem, List.cons.injEq, PV.bool.injEq, PV.int.injEq, PV.agg.injEq]
      all_goals
        clear ih hQ
        simp only [formD, *, ↓reduceIte, Bool.false_eq_true] <;> first | exact (all_no hi2 hc4).symm | exact (all_yes hi hc3 hall).symm
    refine wpM_skip ?_
    refine S_ ?_
    refine wpM_seq ?_
    refine wpM_seq ?_
    refine wpM_regionK [1, 2, 57] rfl ?_; intro Q1 hQ1
    refine SD_ ?_
    first | refine callG_p (fun hb => addrOk_ok e.a) Tryz.call79 rfl rfl (fun hb => by simp -implicitDefEqProofs (disch := omega) only [go_sem]) (fun hb => by first | rfl | (simp -implicitDefEqProofs (disch := omega) only [go_sem, hb, gd_of hb] <;> rfl)) ?_ | refine call_p (addrOk_ok e.a) Tryz.call79 rfl rfl rfl (by first | rfl | (simp -implicitDefEqProofs (disch := omega) only [go_sem] <;> rfl)) ?_
    refine SD_ ?_
    refine hQ1 _ _ ?_; clear hQ1 Q1
    refine S_ ?_
    refine wpM_condK ?_
    refine S_ ?_
    refine ⟨fun hc2 => ?_, fun hc2 => ?_⟩
    ·
      refine wpM_seq ?_
      refine wpM_regionK [4] rfl ?_; intro Q1 hQ1
      refine S_ ?_
      refine hQ1 _ _ ?_; clear hQ1 Q1
      refine S_ ?_
      refine wpM_ret ?_
      try refine S_ ?_
      refine hQ _ _ rfl rfl rfl (by simp -implicitDefEqProofs (disch := omega) only [go_sem, le_yes, true_or]) ?_ (.inl rfl)
      rw [Tryz.results56]
      try simp -implicitDefEqProofs (disch := omega) only [go_sem, List.cons.injEq, PV.bool.injEq, PV.int.injEq, PV.agg.injEq]
      all_goals
        clear ih hQ
        simp only [formD, *, ↓reduceIte, Bool.false_eq_true] <;> first | exact (all_no hi2 hc4).symm | exact (all_yes hi hc3 hall).symm
    refine wpM_skip ?_
    refine S_ ?_
    refine wpM_seq ?_
    refine wpM_seq ?_
    refine wpM_regionK [1, 2, 5] rfl ?_; intro Q1 hQ1
    refine S_ ?_
    refine hQ1 _ _ ?_; clear hQ1 Q1
    refine S_ ?_
    refine wpM_block ?_
    refine wpM_loopS (fun s n s' => ∃ i M : Nat, i + n = e.kids.length ∧ s.M ≤ M ∧ (e.kids.take i).all (formD d) = true ∧ s' = { s with env := setE 5 (.int .i64 i) s.env, M := M }) (e.kids.length) ?_ ?_
    ·
      refine .of ⟨0, _, by omega, Nat.le_refl _, by simp, rfl⟩ ?_ ?_ ?_ rfl rfl (Nat.le_refl _) rfl <;> (first | (simp -implicitDefEqProofs (disch := omega) only [go_sem, PV.int.injEq, Int.natCast_add, Int.natCast_one, Int.natCast_zero, true_or, le_yes]; done) | rfl | trivial | (simp -implicitDefEqProofs (disch := omega) only [go_sem, PV.int.injEq, Int.natCast_add, Int.natCast_one, Int.natCast_zero, true_or]; simp; done) | (simp; done))
    rintro n s' ⟨i, M, hi, hM, hall, rfl⟩
    try refine S_ ?_
    refine wpM_seq ?_
    refine wpM_seq ?_
    refine wpM_regionK [1, 2, 5, 62] rfl ?_; intro Q1 hQ1
    refine S_ ?_
    refine hQ1 _ _ ?_; clear hQ1 Q1
    refine S_ ?_
    refine wpM_condK ?_
    refine S_ ?_
    refine ⟨fun hc3 => ?_, fun hc3 => ?_⟩
    ·
      have hi2 : i < e.kids.length := by omega
      refine wpM_skip ?_
      refine S_ ?_
      refine wpM_seq ?_
      refine wpM_block ?_
      refine wpM_seq ?_
      refine wpM_regionK [1, 2, 5, 73] rfl ?_; intro Q1 hQ1
      refine S_ ?_
      refine call_p (ih (e.kids.getD i default) (deep - 1) (by omega) (by omega) (by have := Ex.kid_sz hi2; omega)) Tryz.call56 rfl rfl rfl (by first | rfl | (simp -implicitDefEqProofs (disch := omega) only [go_sem] <;> rfl)) ?_
      refine S_ ?_
      refine hQ1 _ _ ?_; clear hQ1 Q1
      refine S_ ?_
      refine wpM_condK ?_
      refine S_ ?_
      refine ⟨fun hc4 => ?_, fun hc4 => ?_⟩
      ·
        refine wpM_seq ?_
        refine wpM_regionK [4] rfl ?_; intro Q1 hQ1
        refine S_ ?_
        refine hQ1 _ _ ?_; clear hQ1 Q1
        refine S_ ?_
        refine wpM_ret ?_
        try refine S_ ?_
        refine hQ _ _ rfl rfl rfl (by simp -implicitDefEqProofs (disch := omega) only [go_sem, le_yes, true_or]) ?_ (.inl rfl)
        rw [Tryz.results56]
        try simp -implicitDefEqProofs (disch := omega) only [go_sem, List.cons.injEq, PV.bool.injEq, PV.int.injEq, PV.agg.injEq]
        all_goals
          clear ih hQ
          simp only [formD, *, ↓reduceIte, Bool.false_eq_true] <;> first | exact (all_no hi2 hc4).symm | exact (all_yes hi hc3 hall).symm
      refine wpM_skip ?_
      refine S_ ?_
      refine wpM_regionK [1, 2, 5] rfl ?_; intro Q1 hQ1
      refine S_ ?_
      refine hQ1 _ _ ?_; clear hQ1 Q1
      refine S_ ?_
      refine .of ⟨n - 1, by omega, i + 1, M, by omega, hM, ?_, rfl⟩ ?_ ?_ ?_ rfl rfl (Nat.le_refl _) rfl
      · rw [take_all _ _ _ hi2, hall]; simp at hc4; simp [hc4]
      all_goals (first | (simp -implicitDefEqProofs (disch := omega) only [go_sem, PV.int.injEq, Int.natCast_add, Int.natCast_one, Int.natCast_zero, true_or, le_yes]; done) | rfl | trivial | (simp -implicitDefEqProofs (disch := omega) only [go_sem, PV.int.injEq, Int.natCast_add, Int.natCast_one, Int.natCast_zero, true_or]; simp; done) | (simp; done))
    refine wpM_exit ?_
    refine S_ ?_
    refine wpM_seq ?_
    refine wpM_regionK [4] rfl ?_; intro Q1 hQ1
    refine S_ ?_
    refine hQ1 _ _ ?_; clear hQ1 Q1
    refine S_ ?_
    refine wpM_ret ?_
    try refine S_ ?_
    refine hQ _ _ rfl rfl rfl (by simp -implicitDefEqProofs (disch := omega) only [go_sem, le_yes, true_or]) ?_ (.inl rfl)
    rw [Tryz.results56]
    try simp -implicitDefEqProofs (disch := omega) only [go_sem, List.cons.injEq, PV.bool.injEq, PV.int.injEq, PV.agg.injEq]
    all_goals
      clear ih hQ
      simp only [formD, *, ↓reduceIte, Bool.false_eq_true] <;> first | exact (all_no hi2 hc4).symm | exact (all_yes hi hc3 hall).symm
def manyD : Nat → Ex → Nat
  | 0, _ => 1
  | d + 1, e => 1 + (e.kids.map (manyD d)).sum
theorem manyD_le (d : Nat) : ∀ e : Ex, manyD d e ≤ e.sz := by
  induction d with
  | zero => intro e; exact e.sz_pos
  | succ d ih =>
    intro e
    have h : ∀ l : List Ex, (l.map (manyD d)).sum ≤ Ex.szL l := by
      intro l
      induction l with
      | nil => simp [Ex.szL]
      | cons x l ihl => simp only [List.map_cons, List.sum_cons, Ex.szL]; have := ih x; omega
    have := h e.kids
    rw [Ex.sz_eq]; simp only [manyD]; omega
theorem take_sum {α : Type} [Inhabited α] (f : α → Nat) (l : List α) (i : Nat) (h : i < l.length) : ((l.take (i + 1)).map f).sum = ((l.take i).map f).sum + f (l.getD i default) := by
  rw [List.take_succ_eq_append_getElem h, List.map_append, List.sum_append]
  simp [List.getD, h]
theorem take_sum_le {α : Type} (f : α → Nat) (l : List α) (i : Nat) : ((l.take i).map f).sum ≤ (l.map f).sum := by
  have : (l.map f).sum = ((l.take i).map f).sum + ((l.drop i).map f).sum := by rw [← List.sum_append, ← List.map_append, List.take_append_drop]
  omega
theorem l3Many_ok (d : Nat) : ∀ (e : Ex) (deep : Int), deep.toNat = d → deep ≤ 1000000 → e.sz ≤ 1099511627776 → PureF Tryz.prog 57 [.agg e.cs, .int .i64 deep] [.int .i64 (manyD d e : Nat)] := by
  induction d with
  | zero =>
    intro e deep hd hdl hs
    have hlen := e.kids_len
    refine pureF_of Tryz.func57 rfl Tryz.ntmps57 (by simp) T_ ?_
    intro f0 B Q hQ
    have hlt : decide (deep > 0) = false := by simp; omega
    refine wpM_seq ?_
    refine wpM_regionK [1, 2] rfl ?_; intro Q1 hQ1
    refine S_ ?_
    refine hQ1 _ _ ?_; clear hQ1 Q1
    refine S_ ?_
    refine wpM_seq ?_
    refine wpM_regionK [1, 2, 5] rfl ?_; intro Q1 hQ1
    refine S_ ?_
    refine hQ1 _ _ ?_; clear hQ1 Q1
    refine S_ ?_
    refine wpM_seq ?_
    refine wpM_seq ?_
    refine wpM_regionK [1, 2, 5, 6] rfl ?_; intro Q1 hQ1
    refine S_ ?_
    refine hQ1 _ _ ?_; clear hQ1 Q1
    refine S_ ?_
    refine wpM_block ?_
    refine wpM_loopS (fun s n s' => s' = s) (0) ?_ ?_
    ·
      exact .here rfl
    rintro n s' rfl
    try refine S_ ?_
    refine wpM_seq ?_
    refine wpM_seq ?_
    refine wpM_regionK [1, 2, 5, 6, 15] rfl ?_; intro Q1 hQ1
    refine SD_ ?_
    refine hQ1 _ _ ?_; clear hQ1 Q1
    refine S_ ?_
    refine wpM_condK ?_
    refine S_ ?_
    refine ⟨fun hc0 => ?_, fun hc0 => ?_⟩
    · simp [hlt] at hc0
    refine wpM_exit ?_
    refine S_ ?_
    refine wpM_seq ?_
    refine wpM_regionK [4] rfl ?_; intro Q1 hQ1
    refine S_ ?_
    refine hQ1 _ _ ?_; clear hQ1 Q1
    refine S_ ?_
    refine wpM_ret ?_
    try refine S_ ?_
    refine hQ _ _ rfl rfl rfl (by simp -implicitDefEqProofs (disch := omega) only [go_sem, le_yes, true_or]) ?_ (.inl rfl)
    rw [Tryz.results57]
    try simp -implicitDefEqProofs (disch := omega) only [go_sem, List.cons.injEq, PV.bool.injEq, PV.int.injEq, PV.agg.injEq]
    all_goals
      rfl
  | succ d ih =>
    intro e deep hd hdl hs
    have hlen := e.kids_len
    refine pureF_of Tryz.func57 rfl Tryz.ntmps57 (by simp) T_ ?_
    intro f0 B Q hQ
    have hlt : decide (deep > 0) = true := by simp; omega
    have hmx := manyD_le (d + 1) e
    refine wpM_seq ?_
    refine wpM_regionK [1, 2] rfl ?_; intro Q1 hQ1
    refine S_ ?_
    refine hQ1 _ _ ?_; clear hQ1 Q1
    refine S_ ?_
    refine wpM_seq ?_
    refine wpM_regionK [1, 2, 5] rfl ?_; intro Q1 hQ1
    refine S_ ?_
    refine hQ1 _ _ ?_; clear hQ1 Q1
    refine S_ ?_
    refine wpM_seq ?_
    refine wpM_seq ?_
    refine wpM_regionK [1, 2, 5, 6] rfl ?_; intro Q1 hQ1
    refine S_ ?_
    refine hQ1 _ _ ?_; clear hQ1 Q1
    refine S_ ?_
    refine wpM_block ?_
    refine wpM_loopS (fun s n s' => ∃ i M : Nat, i + n = e.kids.length ∧ s.M ≤ M ∧ s' = { s with env := setE 6 (.int .i64 (i : Nat)) (setE 5 (.int .i64 ((1 + ((e.kids.take i).map (manyD d)).sum : Nat) : Int)) s.env), M := M }) (e.kids.length) ?_ ?_
    ·
      refine .of ⟨0, _, by omega, Nat.le_refl _, rfl⟩ ?_ ?_ ?_ rfl rfl (Nat.le_refl _) rfl <;> (first | (simp -implicitDefEqProofs (disch := omega) only [go_sem, PV.int.injEq, Int.natCast_add, Int.natCast_one, Int.natCast_zero, true_or, le_yes]; done) | rfl | trivial | (simp -implicitDefEqProofs (disch := omega) only [go_sem, PV.int.injEq, Int.natCast_add, Int.natCast_one, Int.natCast_zero, true_or]; simp; done) | (simp; done))
    rintro n s' ⟨i, M, hi, hM, rfl⟩
    try refine S_ ?_
    refine wpM_seq ?_
    refine wpM_seq ?_
    refine wpM_regionK [1, 2, 5, 6, 15] rfl ?_; intro Q1 hQ1
    simp (contextual := true) (maxSteps := 1000000) (implicitDefEqProofs := false) (disch := first | omega | (simp only [decide_eq_true_eq, decide_eq_false_iff_not, Bool.and_eq_true, Bool.or_eq_false_iff, Bool.not_eq_true'] at *; omega)) only [go_sem, hlt, Bool.and_true]
    refine hQ1 _ _ ?_; clear hQ1 Q1
    refine S_ ?_
    refine wpM_condK ?_
    refine S_ ?_
    refine ⟨fun hc0 => ?_, fun hc0 => ?_⟩
    ·
      have hi2 : i < e.kids.length := by omega
      have hsum := take_sum (manyD d) e.kids i hi2
      have hle := take_sum_le (manyD d) e.kids (i + 1)
      simp only [manyD] at hmx
      rw [hsum] at hle
      refine wpM_skip ?_
      refine S_ ?_
      refine wpM_seq ?_
      refine wpM_block ?_
      refine wpM_regionK [1, 2, 5, 6] rfl ?_; intro Q1 hQ1
      refine S_ ?_
      refine call_p (ih (e.kids.getD i default) (deep - 1) (by omega) (by omega) (by have := Ex.kid_sz hi2; omega)) Tryz.call57 rfl rfl rfl (by first | rfl | (simp -implicitDefEqProofs (disch := omega) only [go_sem] <;> rfl)) ?_
      refine S_ ?_
      refine hQ1 _ _ ?_; clear hQ1 Q1
      refine S_ ?_
      refine wpM_regionK [1, 2, 5, 6] rfl ?_; intro Q1 hQ1
      refine S_ ?_
      refine hQ1 _ _ ?_; clear hQ1 Q1
      refine S_ ?_
      refine .of ⟨n - 1, by omega, i + 1, M, by omega, hM, rfl⟩ ?_ ?_ ?_ rfl rfl (Nat.le_refl _) rfl
      · simp -implicitDefEqProofs (disch := omega) only [go_sem, PV.int.injEq]
        rw [hsum]
        constructor <;> omega
      all_goals (first | (simp -implicitDefEqProofs (disch := omega) only [go_sem, PV.int.injEq, Int.natCast_add, Int.natCast_one, Int.natCast_zero, true_or, le_yes]; done) | rfl | trivial | (simp -implicitDefEqProofs (disch := omega) only [go_sem, PV.int.injEq, Int.natCast_add, Int.natCast_one, Int.natCast_zero, true_or]; simp; done) | (simp; done))
    refine wpM_exit ?_
    refine S_ ?_
    refine wpM_seq ?_
    refine wpM_regionK [4] rfl ?_; intro Q1 hQ1
    refine S_ ?_
    refine hQ1 _ _ ?_; clear hQ1 Q1
    refine S_ ?_
    refine wpM_ret ?_
    try refine S_ ?_
    refine hQ _ _ rfl rfl rfl (by simp -implicitDefEqProofs (disch := omega) only [go_sem, le_yes, true_or]) ?_ (.inl rfl)
    rw [Tryz.results57]
    try simp -implicitDefEqProofs (disch := omega) only [go_sem, List.cons.injEq, PV.bool.injEq, PV.int.injEq, PV.agg.injEq]
    all_goals
      have hie : i = e.kids.length := by omega
      simp only [manyD]
      rw [hie, List.take_of_length_le (Nat.le_refl _)]
def Ex.ok (e : Ex) : Bool := formD 6 e && decide (manyD 6 e ≤ 14)
theorem exprOk_ok (e : Ex) (hs : e.sz ≤ 1099511627776) : PureF Tryz.prog 19 [.agg e.cs] [.bool e.ok] := by
  refine pureF_of Tryz.func19 rfl Tryz.ntmps19 (by simp) T_ ?_
  intro f0 B Q hQ
  refine wpM_seq ?_
  refine wpM_regionK [1] rfl ?_; intro Q1 hQ1
  refine S_ ?_
  refine hQ1 _ _ ?_; clear hQ1 Q1
  refine S_ ?_
  refine wpM_seq ?_
  refine wpM_regionK [2] rfl ?_; intro Q1 hQ1
  refine SD_ ?_
  refine call_p (l3Form_ok 6 e 6 rfl (by omega) hs) Tryz.call56 rfl rfl rfl (by first | rfl | (simp -implicitDefEqProofs (disch := omega) only [go_sem] <;> rfl)) ?_
  refine SD_ ?_
  first | refine callG_p (fun hb => l3Many_ok 6 e 6 rfl (by omega) hs) Tryz.call57 rfl rfl (fun hb => by simp -implicitDefEqProofs (disch := omega) only [go_sem]) (fun hb => by first | rfl | (simp -implicitDefEqProofs (disch := omega) only [go_sem, hb, gd_of hb] <;> rfl)) ?_ | refine call_p (l3Many_ok 6 e 6 rfl (by omega) hs) Tryz.call57 rfl rfl rfl (by first | rfl | (simp -implicitDefEqProofs (disch := omega) only [go_sem] <;> rfl)) ?_
  refine SD_ ?_
  refine hQ1 _ _ ?_; clear hQ1 Q1
  refine S_ ?_
  refine wpM_ret ?_
  try refine S_ ?_
  refine hQ _ _ rfl rfl rfl (by simp -implicitDefEqProofs (disch := omega) only [go_sem, le_yes, true_or]) ?_ (.inl rfl)
  rw [Tryz.results19]
  try simp -implicitDefEqProofs (disch := omega) only [go_sem, List.cons.injEq, PV.bool.injEq, PV.int.injEq, PV.agg.injEq]
  all_goals
    have : decide ((manyD 6 e : Int) ≤ 14) = decide (manyD 6 e ≤ 14) := by simp; omega
    simp only [Ex.ok, this]
end Go.Proofs.YtnilkkcobeaglaaGreat
namespace Go.Proofs.YtnilkkcobeaglaaGreat
open Go Sg
set_option maxRecDepth 100000
set_option linter.unusedSimpArgs false
set_option linter.unusedVariables false
set_option maxHeartbeats 4000000
def rowsI (l : List Int) : List (List PV) := l.map fun x => [.int .i64 x]
def rowsB (l : List Bool) : List (List PV) := l.map fun x => [.bool x]
@[go_sem] theorem rowsI_len (l : List Int) : (rowsI l).length = l.length := by simp [rowsI]
@[go_sem] theorem rowsI_getD (l : List Int) (k : Nat) (h : k < l.length) : (rowsI l).getD k [] = [.int .i64 (l.getD k 0)] := by simp [rowsI, List.getD, h]
@[go_sem] theorem rowsB_len (l : List Bool) : (rowsB l).length = l.length := by simp [rowsB]
@[go_sem] theorem rowsB_getD (l : List Bool) (k : Nat) (h : k < l.length) : (rowsB l).getD k [] = [.bool (l.getD k false)] := by simp [rowsB, List.getD, h]
structure MM where
  i : List Int
  o : List Int
  v : List Int
  deriving DecidableEq, Inhabited
def MM.cs (m : MM) : List PV := [.rows 3 (rowsI m.i), .rows 3 (rowsI m.o), .rows 3 (rowsI m.v)]
@[go_sem] theorem MM.cs_eq (m : MM) : m.cs = [.rows 3 (rowsI m.i), .rows 3 (rowsI m.o), .rows 3 (rowsI m.v)] := rfl
def listOk (l : List Int) : Bool := l.all (fun x => !(cut x != x)) && (l.length : Int) == 6
theorem take_all' {α : Type} (p : α → Bool) (l : List α) (z : α) (i : Nat) (h : i < l.length) : (l.take (i + 1)).all p = ((l.take i).all p && p (l.getD i z)) := by
  rw [List.take_succ_eq_append_getElem h, List.all_append]
  simp [List.getD, h]
theorem all_no' {α : Type} {p : α → Bool} {l : List α} {z : α} {i : Nat} (h : i < l.length) (hp : p (l.getD i z) = false) : l.all p = false := by
  rw [List.all_eq_false]
  refine ⟨l.getD i z, ?_, by simpa using hp⟩
  rw [List.getD_eq_getElem?_getD, List.getElem?_eq_getElem h]; exact List.getElem_mem h
theorem all_yes' {α : Type} {p : α → Bool} {l : List α} {i n : Nat} (hi : i + n = l.length) (h : ¬ (i : Int) < (l.length : Int)) (hp : (l.take i).all p = true) : l.all p = true := by
  have : i = l.length := by omega
  rwa [List.take_of_length_le (by omega)] at hp
theorem l2List_ok (l : List Int) (hl : l.length ≤ 1099511627776) : PureF Tryz.prog 98 [.rows 3 (rowsI l)] [.bool (listOk l)] := by
  refine pureF_of Tryz.func98 rfl Tryz.ntmps98 (by simp) T_ ?_
  intro f0 B Q hQ
  refine wpM_seq ?_
  refine wpM_regionK [0] rfl ?_; intro Q1 hQ1
  refine S_ ?_
  refine hQ1 _ _ ?_; clear hQ1 Q1
  refine S_ ?_
  refine wpM_seq ?_
  refine wpM_seq ?_
  refine wpM_regionK [0, 3] rfl ?_; intro Q1 hQ1
  refine S_ ?_
  refine hQ1 _ _ ?_; clear hQ1 Q1
  refine S_ ?_
  refine wpM_block ?_
  refine wpM_loopS (fun s n s' => ∃ (i0 M0 : Nat) , i0 + n = l.length ∧ s.M ≤ M0 ∧ ((l.take i0).all (fun x => !(cut x != x)) = true) ∧ s' = { s with env := setE 3 (.int .i64 (i0 : Nat)) s.env, M := M0 }) (l.length) ?_ ?_
  ·
    refine .of' _ _ ⟨0, _, by omega, Nat.le_refl _, by simp, rfl⟩ ?_ ?_ ?_ <;> (first | (simp -implicitDefEqProofs (disch := omega) only [go_sem, PV.int.injEq, Int.natCast_add, Int.natCast_one, Int.natCast_zero, true_or, le_yes]; done) | rfl | trivial | (simp -implicitDefEqProofs (disch := omega) only [go_sem, PV.int.injEq, Int.natCast_add, Int.natCast_one, Int.natCast_zero, true_or]; simp; done) | (simp; done))
  rintro n0 s' ⟨i0, M0, hi0, hM0, hv0, rfl⟩
  try dsimp only at hM0
  try refine S_ ?_
  refine wpM_seq ?_
  refine wpM_seq ?_
  refine wpM_regionK [0, 3, 7] rfl ?_; intro Q1 hQ1
  refine S_ ?_
  refine hQ1 _ _ ?_; clear hQ1 Q1
  refine S_ ?_
  refine wpM_condK ?_
  refine S_ ?_
  refine ⟨fun hc0 => ?_, fun hc0 => ?_⟩
  ·
    have hl0 : i0 < l.length := by omega
    refine wpM_skip ?_
    refine S_ ?_
    refine wpM_seq ?_
    refine wpM_block ?_
    refine wpM_seq ?_
    refine wpM_keep [0, 3, 19] (wpM_dr mixed 0 0 [] [⟨[0], [], [], [], false⟩, ⟨[3], [], [], [], false⟩, ⟨[10, 11], [], [], [], false⟩, ⟨[12], [], [], [], false⟩, ⟨[13], [], [], [], true⟩, ⟨[0], [], [], [], false⟩, ⟨[3], [], [], [], false⟩, ⟨[15, 16], [], [], [], false⟩, ⟨[17], [], [], [], false⟩, ⟨[14, 18], [], [], [], false⟩] [0, 1, 2, 3, 5, 6, 7, 8, 4, 9] [[], [], [0, 1], [0, 1, 2], [0, 1, 2, 3], [], [], [5, 6], [5, 6, 7], [0, 1, 2, 3, 4, 5, 6, 7, 8]] 0 rfl (by simp) (by decide +kernel) (by simp) ?_)
    intro O A K hO hA hK; simp only [atL_cons, atL_nil, Nat.reduceAdd, Nat.zero_add] at hO hA
    refine SO_ ?_
    refine loud_p (cut_ok (l.getD i0 0)) Tryz.call109 rfl rfl (by first | rfl | (simp -implicitDefEqProofs (disch := omega) only [go_sem] <;> rfl)) rfl ?_
    refine SO_ ?_
    refine hK _ ?_; clear hK K hO hA O A
    refine S_ ?_
    refine wpM_condK ?_
    refine S_ ?_
    refine ⟨fun hc1 => ?_, fun hc1 => ?_⟩
    ·
      refine wpM_seq ?_
      refine wpM_regionK [2] rfl ?_; intro Q1 hQ1
      refine S_ ?_
      refine hQ1 _ _ ?_; clear hQ1 Q1
      refine S_ ?_
      refine wpM_ret ?_
      try refine S_ ?_
      refine hQ _ _ rfl rfl rfl (by simp -implicitDefEqProofs (disch := omega) only [go_sem, le_yes, true_or]) ?_ (.inl rfl)
      rw [Tryz.results98]
      try simp -implicitDefEqProofs (disch := omega) only [go_sem, List.cons.injEq, PV.bool.injEq, PV.int.injEq, PV.agg.injEq]
      all_goals
        first | (rw [listOk, all_no' (z := 0) hl0 (by simpa using hc1)]; rfl) | (rw [listOk, all_yes' hi0 hc0 hv0]; rfl)
    refine wpM_skip ?_
    refine S_ ?_
    refine wpM_regionK [0, 3] rfl ?_; intro Q1 hQ1
    refine S_ ?_
    refine hQ1 _ _ ?_; clear hQ1 Q1
    refine S_ ?_
    refine .of' _ _ ⟨n0 - 1, by omega, i0 + 1, _, by omega, ?_, ?_, rfl⟩ ?_ ?_ ?_
    · first | omega | (simp -implicitDefEqProofs (disch := omega) only [go_sem]; done) | (simp -implicitDefEqProofs (disch := omega) only [go_sem]; omega)
    · rw [take_all' _ _ 0 _ hl0, hv0, hc1]; rfl
    all_goals (first | (simp -implicitDefEqProofs (disch := omega) only [go_sem, PV.int.injEq, Int.natCast_add, Int.natCast_one, Int.natCast_zero, true_or, le_yes]; done) | rfl | trivial | (simp -implicitDefEqProofs (disch := omega) only [go_sem, PV.int.injEq, Int.natCast_add, Int.natCast_one, Int.natCast_zero, true_or]; simp; done) | (simp; done))
  refine wpM_exit ?_
  refine S_ ?_
  refine wpM_seq ?_
  refine wpM_regionK [2] rfl ?_; intro Q1 hQ1
  refine S_ ?_
  refine hQ1 _ _ ?_; clear hQ1 Q1
  refine S_ ?_
  refine wpM_ret ?_
  try refine S_ ?_
  refine hQ _ _ rfl rfl rfl (by simp -implicitDefEqProofs (disch := omega) only [go_sem, le_yes, true_or]) ?_ (.inl rfl)
  rw [Tryz.results98]
  try simp -implicitDefEqProofs (disch := omega) only [go_sem, List.cons.injEq, PV.bool.injEq, PV.int.injEq, PV.agg.injEq]
  all_goals
    first | (rw [listOk, all_no' (z := 0) hl0 (by simpa using hc1)]; rfl) | (rw [listOk, all_yes' hi0 hc0 hv0]; rfl)
def MM.ok (m : MM) : Bool := listOk m.i && listOk m.o && listOk m.v
structure MM.Sm (m : MM) : Prop where
  i : m.i.length ≤ 1099511627776
  o : m.o.length ≤ 1099511627776
  v : m.v.length ≤ 1099511627776
theorem memOk_ok (m : MM) (hm : m.Sm) : PureF Tryz.prog 42 [.agg m.cs] [.bool m.ok] := by
  refine pureF_of Tryz.func42 rfl Tryz.ntmps42 (by simp) T_ ?_
  intro f0 B Q hQ
  refine wpM_seq ?_
  refine wpM_regionK [1] rfl ?_; intro Q1 hQ1
  refine S_ ?_
  refine hQ1 _ _ ?_; clear hQ1 Q1
  refine S_ ?_
  refine wpM_seq ?_
  refine wpM_regionK [2] rfl ?_; intro Q1 hQ1
  refine SD_ ?_
  refine call_p (l2List_ok m.i hm.i) Tryz.call98 rfl rfl rfl (by first | rfl | (simp -implicitDefEqProofs (disch := omega) only [go_sem] <;> rfl)) ?_
  refine SD_ ?_
  first | refine callG_p (fun hb => l2List_ok m.o hm.o) Tryz.call98 rfl rfl (fun hb => by simp -implicitDefEqProofs (disch := omega) only [go_sem]) (fun hb => by first | rfl | (simp -implicitDefEqProofs (disch := omega) only [go_sem, hb, gd_of hb] <;> rfl)) ?_ | refine call_p (l2List_ok m.o hm.o) Tryz.call98 rfl rfl rfl (by first | rfl | (simp -implicitDefEqProofs (disch := omega) only [go_sem] <;> rfl)) ?_
  refine SD_ ?_
  first | refine callG_p (fun hb => l2List_ok m.v hm.v) Tryz.call98 rfl rfl (fun hb => by simp -implicitDefEqProofs (disch := omega) only [go_sem]) (fun hb => by first | rfl | (simp -implicitDefEqProofs (disch := omega) only [go_sem, hb, gd_of hb] <;> rfl)) ?_ | refine call_p (l2List_ok m.v hm.v) Tryz.call98 rfl rfl rfl (by first | rfl | (simp -implicitDefEqProofs (disch := omega) only [go_sem] <;> rfl)) ?_
  refine SD_ ?_
  refine hQ1 _ _ ?_; clear hQ1 Q1
  refine S_ ?_
  refine wpM_ret ?_
  try refine S_ ?_
  refine hQ _ _ rfl rfl rfl (by simp -implicitDefEqProofs (disch := omega) only [go_sem, le_yes, true_or]) ?_ (.inl rfl)
  rw [Tryz.results42]
  try simp -implicitDefEqProofs (disch := omega) only [go_sem, List.cons.injEq, PV.bool.injEq, PV.int.injEq, PV.agg.injEq]
  all_goals
    rfl
theorem add_ok (a b : Int) : PureF Tryz.prog 155 [.int .i64 a, .int .i64 b] [.int .i64 (cut (cut a + cut b))] := by
  have ha : -1000000 ≤ cut a ∧ cut a ≤ 1000000 := by unfold cut; omega
  have hb : -1000000 ≤ cut b ∧ cut b ≤ 1000000 := by unfold cut; omega
  refine pureF_of Tryz.func155 rfl Tryz.ntmps155 (by simp) T_ ?_
  intro f0 B Q hQ
  refine wpM_seq ?_
  refine wpM_regionK [0, 1] rfl ?_; intro Q1 hQ1
  refine S_ ?_
  refine hQ1 _ _ ?_; clear hQ1 Q1
  refine S_ ?_
  refine wpM_seq ?_
  refine wpM_regionK [4] rfl ?_; intro Q1 hQ1
  refine S_ ?_
  refine call_p (cut_ok a) Tryz.call109 rfl rfl rfl (by first | rfl | (simp -implicitDefEqProofs (disch := omega) only [go_sem] <;> rfl)) ?_
  refine S_ ?_
  refine call_p (cut_ok b) Tryz.call109 rfl rfl rfl (by first | rfl | (simp -implicitDefEqProofs (disch := omega) only [go_sem] <;> rfl)) ?_
  refine S_ ?_
  refine call_p (cut_ok (cut a + cut b)) Tryz.call109 rfl rfl rfl (by first | rfl | (simp -implicitDefEqProofs (disch := omega) only [go_sem] <;> rfl)) ?_
  refine S_ ?_
  refine hQ1 _ _ ?_; clear hQ1 Q1
  refine S_ ?_
  refine wpM_ret ?_
  try refine S_ ?_
  refine hQ _ _ rfl rfl rfl (by simp -implicitDefEqProofs (disch := omega) only [go_sem, le_yes, true_or]) ?_ (.inl rfl)
  rw [Tryz.results155]
  try simp -implicitDefEqProofs (disch := omega) only [go_sem, List.cons.injEq, PV.bool.injEq, PV.int.injEq, PV.agg.injEq]
  all_goals
    rfl
end Go.Proofs.YtnilkkcobeaglaaGreat
namespace Go.Proofs.YtnilkkcobeaglaaGreat
open Go Sg
set_option maxRecDepth 100000
set_option linter.unusedSimpArgs false
set_option linter.unusedVariables false
set_option maxHeartbeats 4000000
theorem cut_bd (a : Int) : -1000000 ≤ cut a ∧ cut a ≤ 1000000 := by unfold cut; omega
theorem cut_mul (a b : Int) : -1000000000000 ≤ cut a * cut b ∧ cut a * cut b ≤ 1000000000000 := by
  have ha := cut_bd a
  have hb := cut_bd b
  have h1 : (cut a * cut b).natAbs ≤ 1000000 * 1000000 := by
    rw [Int.natAbs_mul]
    exact Nat.mul_le_mul (by omega) (by omega)
  omega
theorem sub_ok (a b : Int) : PureF Tryz.prog 156 [.int .i64 a, .int .i64 b] [.int .i64 (cut (cut a - cut b))] := by
  have ha := cut_bd a
  have hb := cut_bd b
  refine pureF_of Tryz.func156 rfl Tryz.ntmps156 (by simp) T_ ?_
  intro f0 B Q hQ
  refine wpM_seq ?_
  refine wpM_regionK [0, 1] rfl ?_; intro Q1 hQ1
  refine S_ ?_
  refine hQ1 _ _ ?_; clear hQ1 Q1
  refine S_ ?_
  refine wpM_seq ?_
  refine wpM_regionK [4] rfl ?_; intro Q1 hQ1
  refine S_ ?_
  refine call_p (cut_ok a) Tryz.call109 rfl rfl rfl (by first | rfl | (simp -implicitDefEqProofs (disch := omega) only [go_sem] <;> rfl)) ?_
  refine S_ ?_
  refine call_p (cut_ok b) Tryz.call109 rfl rfl rfl (by first | rfl | (simp -implicitDefEqProofs (disch := omega) only [go_sem] <;> rfl)) ?_
  refine S_ ?_
  refine call_p (cut_ok (cut a - cut b)) Tryz.call109 rfl rfl rfl (by first | rfl | (simp -implicitDefEqProofs (disch := omega) only [go_sem] <;> rfl)) ?_
  refine S_ ?_
  refine hQ1 _ _ ?_; clear hQ1 Q1
  refine S_ ?_
  refine wpM_ret ?_
  try refine S_ ?_
  refine hQ _ _ rfl rfl rfl (by simp -implicitDefEqProofs (disch := omega) only [go_sem, le_yes, true_or]) ?_ (.inl rfl)
  rw [Tryz.results156]
  try simp -implicitDefEqProofs (disch := omega) only [go_sem, List.cons.injEq, PV.bool.injEq, PV.int.injEq, PV.agg.injEq]
  all_goals
    rfl
theorem mul_ok (a b : Int) : PureF Tryz.prog 157 [.int .i64 a, .int .i64 b] [.int .i64 (cut (cut a * cut b))] := by
  have ha := cut_mul a b
  refine pureF_of Tryz.func157 rfl Tryz.ntmps157 (by simp) T_ ?_
  intro f0 B Q hQ
  refine wpM_seq ?_
  refine wpM_regionK [0, 1] rfl ?_; intro Q1 hQ1
  refine S_ ?_
  refine hQ1 _ _ ?_; clear hQ1 Q1
  refine S_ ?_
  refine wpM_seq ?_
  refine wpM_regionK [4] rfl ?_; intro Q1 hQ1
  refine S_ ?_
  refine call_p (cut_ok a) Tryz.call109 rfl rfl rfl (by first | rfl | (simp -implicitDefEqProofs (disch := omega) only [go_sem] <;> rfl)) ?_
  refine S_ ?_
  refine call_p (cut_ok b) Tryz.call109 rfl rfl rfl (by first | rfl | (simp -implicitDefEqProofs (disch := omega) only [go_sem] <;> rfl)) ?_
  refine S_ ?_
  refine call_p (cut_ok (cut a * cut b)) Tryz.call109 rfl rfl rfl (by first | rfl | (simp -implicitDefEqProofs (disch := omega) only [go_sem] <;> rfl)) ?_
  refine S_ ?_
  refine hQ1 _ _ ?_; clear hQ1 Q1
  refine S_ ?_
  refine wpM_ret ?_
  try refine S_ ?_
  refine hQ _ _ rfl rfl rfl (by simp -implicitDefEqProofs (disch := omega) only [go_sem, le_yes, true_or]) ?_ (.inl rfl)
  rw [Tryz.results157]
  try simp -implicitDefEqProofs (disch := omega) only [go_sem, List.cons.injEq, PV.bool.injEq, PV.int.injEq, PV.agg.injEq]
  all_goals
    rfl
def numIs (b : Bool) : Int := if b then 1 else 0
theorem is_ok (b : Bool) : PureF Tryz.prog 85 [.bool b] [.int .i64 (numIs b)] := by
  refine pureF_of Tryz.func85 rfl Tryz.ntmps85 (by simp) T_ ?_
  intro f0 B Q hQ
  refine wpM_seq ?_
  refine wpM_regionK [0] rfl ?_; intro Q1 hQ1
  refine S_ ?_
  refine hQ1 _ _ ?_; clear hQ1 Q1
  refine S_ ?_
  refine wpM_seq ?_
  refine wpM_seq ?_
  refine wpM_regionK [3] rfl ?_; intro Q1 hQ1
  refine S_ ?_
  refine hQ1 _ _ ?_; clear hQ1 Q1
  refine S_ ?_
  refine wpM_condK ?_
  refine S_ ?_
  refine ⟨fun hc0 => ?_, fun hc0 => ?_⟩
  ·
    refine wpM_seq ?_
    refine wpM_regionK [2] rfl ?_; intro Q1 hQ1
    refine S_ ?_
    refine hQ1 _ _ ?_; clear hQ1 Q1
    refine S_ ?_
    refine wpM_ret ?_
    try refine S_ ?_
    refine hQ _ _ rfl rfl rfl (by simp -implicitDefEqProofs (disch := omega) only [go_sem, le_yes, true_or]) ?_ (.inl rfl)
    rw [Tryz.results85]
    try simp -implicitDefEqProofs (disch := omega) only [go_sem, List.cons.injEq, PV.bool.injEq, PV.int.injEq, PV.agg.injEq]
    all_goals
      simp [numIs, *]
  refine wpM_skip ?_
  refine S_ ?_
  refine wpM_seq ?_
  refine wpM_regionK [2] rfl ?_; intro Q1 hQ1
  refine S_ ?_
  refine hQ1 _ _ ?_; clear hQ1 Q1
  refine S_ ?_
  refine wpM_ret ?_
  try refine S_ ?_
  refine hQ _ _ rfl rfl rfl (by simp -implicitDefEqProofs (disch := omega) only [go_sem, le_yes, true_or]) ?_ (.inl rfl)
  rw [Tryz.results85]
  try simp -implicitDefEqProofs (disch := omega) only [go_sem, List.cons.injEq, PV.bool.injEq, PV.int.injEq, PV.agg.injEq]
  all_goals
    simp [numIs, *]
theorem on_ok (a : Int) : PureF Tryz.prog 106 [.int .i64 a] [.bool (a != 0)] := by
  refine pureF_of Tryz.func106 rfl Tryz.ntmps106 (by simp) T_ ?_
  intro f0 B Q hQ
  refine wpM_seq ?_
  refine wpM_regionK [0] rfl ?_; intro Q1 hQ1
  refine S_ ?_
  refine hQ1 _ _ ?_; clear hQ1 Q1
  refine S_ ?_
  refine wpM_seq ?_
  refine wpM_regionK [2] rfl ?_; intro Q1 hQ1
  refine S_ ?_
  refine hQ1 _ _ ?_; clear hQ1 Q1
  refine S_ ?_
  refine wpM_ret ?_
  try refine S_ ?_
  refine hQ _ _ rfl rfl rfl (by simp -implicitDefEqProofs (disch := omega) only [go_sem, le_yes, true_or]) ?_ (.inl rfl)
  rw [Tryz.results106]
  try simp -implicitDefEqProofs (disch := omega) only [go_sem, List.cons.injEq, PV.bool.injEq, PV.int.injEq, PV.agg.injEq]
  all_goals
    rfl
def two (k a b : Int) : Int := if k == 3 then cut (cut a + cut b) else if k == 4 then cut (cut a - cut b) else if k == 5 then cut (cut a * cut b)
  else if k == 6 then numIs (decide (a < b)) else if k == 7 then numIs (a == b) else if k == 8 then numIs (a != 0 && b != 0) else numIs (a != 0 || b != 0)
theorem two_ok (k a b : Int) : PureF Tryz.prog 143 [.int .i64 k, .int .i64 a, .int .i64 b] [.int .i64 (two k a b)] := by
  refine pureF_of Tryz.func143 rfl Tryz.ntmps143 (by simp) T_ ?_
  intro f0 B Q hQ
  refine wpM_seq ?_
  refine wpM_regionK [0, 1, 2] rfl ?_; intro Q1 hQ1
  refine S_ ?_
  refine hQ1 _ _ ?_; clear hQ1 Q1
  refine S_ ?_
  refine wpM_seq ?_
  refine wpM_seq ?_
  refine wpM_regionK [1, 2, 7] rfl ?_; intro Q1 hQ1
  refine S_ ?_
  refine hQ1 _ _ ?_; clear hQ1 Q1
  refine S_ ?_
  refine wpM_block ?_
  refine wpM_seq ?_
  refine wpM_regionK [1, 2, 7, 8] rfl ?_; intro Q1 hQ1
  refine S_ ?_
  refine hQ1 _ _ ?_; clear hQ1 Q1
  refine S_ ?_
  refine wpM_condK ?_
  refine S_ ?_
  refine ⟨fun hc0 => ?_, fun hc0 => ?_⟩
  ·
    refine wpM_seq ?_
    refine wpM_regionK [6] rfl ?_; intro Q1 hQ1
    refine S_ ?_
    refine call_p (add_ok a b) Tryz.call155 rfl rfl rfl (by first | rfl | (simp -implicitDefEqProofs (disch := omega) only [go_sem] <;> rfl)) ?_
    refine S_ ?_
    refine hQ1 _ _ ?_; clear hQ1 Q1
    refine S_ ?_
    refine wpM_ret ?_
    try refine S_ ?_
    refine hQ _ _ rfl rfl rfl (by simp -implicitDefEqProofs (disch := omega) only [go_sem, le_yes, true_or]) ?_ (.inl rfl)
    rw [Tryz.results143]
    try simp -implicitDefEqProofs (disch := omega) only [go_sem, List.cons.injEq, PV.bool.injEq, PV.int.injEq, PV.agg.injEq]
    all_goals
      simp only [two, *, ↓reduceIte, Bool.false_eq_true]
  refine wpM_seq ?_
  refine wpM_regionK [1, 2, 7, 13] rfl ?_; intro Q1 hQ1
  refine S_ ?_
  refine hQ1 _ _ ?_; clear hQ1 Q1
  refine S_ ?_
  refine wpM_condK ?_
  refine S_ ?_
  refine ⟨fun hc1 => ?_, fun hc1 => ?_⟩
  ·
    refine wpM_seq ?_
    refine wpM_regionK [6] rfl ?_; intro Q1 hQ1
    refine S_ ?_
    refine call_p (sub_ok a b) Tryz.call156 rfl rfl rfl (by first | rfl | (simp -implicitDefEqProofs (disch := omega) only [go_sem] <;> rfl)) ?_
    refine S_ ?_
    refine hQ1 _ _ ?_; clear hQ1 Q1
    refine S_ ?_
    refine wpM_ret ?_
    try refine S_ ?_
    refine hQ _ _ rfl rfl rfl (by simp -implicitDefEqProofs (disch := omega) only [go_sem, le_yes, true_or]) ?_ (.inl rfl)
    rw [Tryz.results143]
    try simp -implicitDefEqProofs (disch := omega) only [go_sem, List.cons.injEq, PV.bool.injEq, PV.int.injEq, PV.agg.injEq]
    all_goals
      simp only [two, *, ↓reduceIte, Bool.false_eq_true]
  refine wpM_seq ?_
  refine wpM_regionK [1, 2, 7, 18] rfl ?_; intro Q1 hQ1
  refine S_ ?_
  refine hQ1 _ _ ?_; clear hQ1 Q1
  refine S_ ?_
  refine wpM_condK ?_
  refine S_ ?_
  refine ⟨fun hc2 => ?_, fun hc2 => ?_⟩
  ·
    refine wpM_seq ?_
    refine wpM_regionK [6] rfl ?_; intro Q1 hQ1
    refine S_ ?_
    refine call_p (mul_ok a b) Tryz.call157 rfl rfl rfl (by first | rfl | (simp -implicitDefEqProofs (disch := omega) only [go_sem] <;> rfl)) ?_
    refine S_ ?_
    refine hQ1 _ _ ?_; clear hQ1 Q1
    refine S_ ?_
    refine wpM_ret ?_
    try refine S_ ?_
    refine hQ _ _ rfl rfl rfl (by simp -implicitDefEqProofs (disch := omega) only [go_sem, le_yes, true_or]) ?_ (.inl rfl)
    rw [Tryz.results143]
    try simp -implicitDefEqProofs (disch := omega) only [go_sem, List.cons.injEq, PV.bool.injEq, PV.int.injEq, PV.agg.injEq]
    all_goals
      simp only [two, *, ↓reduceIte, Bool.false_eq_true]
  refine wpM_seq ?_
  refine wpM_regionK [1, 2, 7, 23] rfl ?_; intro Q1 hQ1
  refine S_ ?_
  refine hQ1 _ _ ?_; clear hQ1 Q1
  refine S_ ?_
  refine wpM_condK ?_
  refine S_ ?_
  refine ⟨fun hc3 => ?_, fun hc3 => ?_⟩
  ·
    refine wpM_seq ?_
    refine wpM_regionK [6] rfl ?_; intro Q1 hQ1
    refine S_ ?_
    refine call_p (is_ok (decide (a < b))) Tryz.call85 rfl rfl rfl (by first | rfl | (simp -implicitDefEqProofs (disch := omega) only [go_sem] <;> rfl)) ?_
    refine S_ ?_
    refine hQ1 _ _ ?_; clear hQ1 Q1
    refine S_ ?_
    refine wpM_ret ?_
    try refine S_ ?_
    refine hQ _ _ rfl rfl rfl (by simp -implicitDefEqProofs (disch := omega) only [go_sem, le_yes, true_or]) ?_ (.inl rfl)
    rw [Tryz.results143]
    try simp -implicitDefEqProofs (disch := omega) only [go_sem, List.cons.injEq, PV.bool.injEq, PV.int.injEq, PV.agg.injEq]
    all_goals
      simp only [two, *, ↓reduceIte, Bool.false_eq_true]
  refine wpM_seq ?_
  refine wpM_regionK [1, 2, 7, 29] rfl ?_; intro Q1 hQ1
  refine S_ ?_
  refine hQ1 _ _ ?_; clear hQ1 Q1
  refine S_ ?_
  refine wpM_condK ?_
  refine S_ ?_
  refine ⟨fun hc4 => ?_, fun hc4 => ?_⟩
  ·
    refine wpM_seq ?_
    refine wpM_regionK [6] rfl ?_; intro Q1 hQ1
    refine S_ ?_
    refine call_p (is_ok (a == b)) Tryz.call85 rfl rfl rfl (by first | rfl | (simp -implicitDefEqProofs (disch := omega) only [go_sem] <;> rfl)) ?_
    refine S_ ?_
    refine hQ1 _ _ ?_; clear hQ1 Q1
    refine S_ ?_
    refine wpM_ret ?_
    try refine S_ ?_
    refine hQ _ _ rfl rfl rfl (by simp -implicitDefEqProofs (disch := omega) only [go_sem, le_yes, true_or]) ?_ (.inl rfl)
    rw [Tryz.results143]
    try simp -implicitDefEqProofs (disch := omega) only [go_sem, List.cons.injEq, PV.bool.injEq, PV.int.injEq, PV.agg.injEq]
    all_goals
      simp only [two, *, ↓reduceIte, Bool.false_eq_true]
  refine wpM_seq ?_
  refine wpM_regionK [1, 2, 35] rfl ?_; intro Q1 hQ1
  refine S_ ?_
  refine hQ1 _ _ ?_; clear hQ1 Q1
  refine S_ ?_
  refine wpM_condK ?_
  refine S_ ?_
  refine ⟨fun hc5 => ?_, fun hc5 => ?_⟩
  ·
    refine wpM_seq ?_
    refine wpM_regionK [6] rfl ?_; intro Q1 hQ1
    refine SD_ ?_
    refine call_p (on_ok a) Tryz.call106 rfl rfl rfl (by first | rfl | (simp -implicitDefEqProofs (disch := omega) only [go_sem] <;> rfl)) ?_
    refine SD_ ?_
    first | refine callG_p (fun hb => on_ok b) Tryz.call106 rfl rfl (fun hb => by simp -implicitDefEqProofs (disch := omega) only [go_sem]) (fun hb => by first | rfl | (simp -implicitDefEqProofs (disch := omega) only [go_sem, hb, gd_of hb] <;> rfl)) ?_ | refine call_p (on_ok b) Tryz.call106 rfl rfl rfl (by first | rfl | (simp -implicitDefEqProofs (disch := omega) only [go_sem] <;> rfl)) ?_
    refine SD_ ?_
    refine call_p (is_ok (a != 0 && b != 0)) Tryz.call85 rfl rfl rfl (by first | rfl | (simp -implicitDefEqProofs (disch := omega) only [go_sem] <;> rfl)) ?_
    refine SD_ ?_
    refine hQ1 _ _ ?_; clear hQ1 Q1
    refine S_ ?_
    refine wpM_ret ?_
    try refine S_ ?_
    refine hQ _ _ rfl rfl rfl (by simp -implicitDefEqProofs (disch := omega) only [go_sem, le_yes, true_or]) ?_ (.inl rfl)
    rw [Tryz.results143]
    try simp -implicitDefEqProofs (disch := omega) only [go_sem, List.cons.injEq, PV.bool.injEq, PV.int.injEq, PV.agg.injEq]
    all_goals
      simp only [two, *, ↓reduceIte, Bool.false_eq_true]
  refine wpM_skip ?_
  refine S_ ?_
  refine wpM_seq ?_
  refine wpM_regionK [6] rfl ?_; intro Q1 hQ1
  refine SD_ ?_
  refine call_p (on_ok a) Tryz.call106 rfl rfl rfl (by first | rfl | (simp -implicitDefEqProofs (disch := omega) only [go_sem] <;> rfl)) ?_
  refine SD_ ?_
  first | refine callG_p (fun hb => on_ok b) Tryz.call106 rfl rfl (fun hb => by simp -implicitDefEqProofs (disch := omega) only [go_sem]) (fun hb => by first | rfl | (simp -implicitDefEqProofs (disch := omega) only [go_sem, hb, gd_of hb] <;> rfl)) ?_ | refine call_p (on_ok b) Tryz.call106 rfl rfl rfl (by first | rfl | (simp -implicitDefEqProofs (disch := omega) only [go_sem] <;> rfl)) ?_
  refine SD_ ?_
  refine call_p (is_ok (a != 0 || b != 0)) Tryz.call85 rfl rfl rfl (by first | rfl | (simp -implicitDefEqProofs (disch := omega) only [go_sem] <;> rfl)) ?_
  refine SD_ ?_
  refine hQ1 _ _ ?_; clear hQ1 Q1
  refine S_ ?_
  refine wpM_ret ?_
  try refine S_ ?_
  refine hQ _ _ rfl rfl rfl (by simp -implicitDefEqProofs (disch := omega) only [go_sem, le_yes, true_or]) ?_ (.inl rfl)
  rw [Tryz.results143]
  try simp -implicitDefEqProofs (disch := omega) only [go_sem, List.cons.injEq, PV.bool.injEq, PV.int.injEq, PV.agg.injEq]
  all_goals
    simp only [two, *, ↓reduceIte, Bool.false_eq_true]
def MM.get (m : MM) (a : AD) : Int := if a.kind == 1 then m.i.getD a.at'.toNat 0 else if a.kind == 2 then m.o.getD a.at'.toNat 0 else m.v.getD a.at'.toNat 0
theorem AD.ok_at {a : AD} (h : a.ok = true) : 0 ≤ a.at' ∧ a.at' < 6 := by
  simp only [AD.ok, Bool.and_eq_true, decide_eq_true_eq] at h; omega
structure MM.Six (m : MM) : Prop where
  i : m.i.length = 6
  o : m.o.length = 6
  v : m.v.length = 6
theorem MM.ok_six {m : MM} (h : m.ok = true) : m.Six := by
  simp only [MM.ok, listOk, Bool.and_eq_true, beq_iff_eq] at h
  exact ⟨by omega, by omega, by omega⟩
theorem MM.Six.sm {m : MM} (h : m.Six) : m.Sm := ⟨by have := h.i; omega, by have := h.o; omega, by have := h.v; omega⟩
theorem get_ok (m : MM) (a : AD) (hm : m.Six) (ha : a.ok = true) : PureF Tryz.prog 150 [.agg m.cs, .agg a.cs] [.int .i64 (m.get a)] := by
  have h1 := hm.i
  have h2 := hm.o
  have h3 := hm.v
  have h4 := AD.ok_at ha
  refine pureF_of Tryz.func150 rfl Tryz.ntmps150 (by simp) T_ ?_
  intro f0 B Q hQ
  refine wpM_seq ?_
  refine wpM_regionK [2, 3] rfl ?_; intro Q1 hQ1
  refine S_ ?_
  refine hQ1 _ _ ?_; clear hQ1 Q1
  refine S_ ?_
  refine wpM_seq ?_
  refine wpM_seq ?_
  refine wpM_regionK [2, 3, 6] rfl ?_; intro Q1 hQ1
  refine S_ ?_
  refine hQ1 _ _ ?_; clear hQ1 Q1
  refine S_ ?_
  refine wpM_block ?_
  refine wpM_seq ?_
  refine wpM_regionK [2, 3, 6, 7] rfl ?_; intro Q1 hQ1
  refine S_ ?_
  refine hQ1 _ _ ?_; clear hQ1 Q1
  refine S_ ?_
  refine wpM_condK ?_
  refine S_ ?_
  refine ⟨fun hc0 => ?_, fun hc0 => ?_⟩
  ·
    refine wpM_seq ?_
    refine wpM_regionK [4] rfl ?_; intro Q1 hQ1
    refine S_ ?_
    refine hQ1 _ _ ?_; clear hQ1 Q1
    refine S_ ?_
    refine wpM_ret ?_
    try refine S_ ?_
    refine hQ _ _ rfl rfl rfl (by simp -implicitDefEqProofs (disch := omega) only [go_sem, le_yes, true_or]) ?_ (.inl rfl)
    rw [Tryz.results150]
    try simp -implicitDefEqProofs (disch := omega) only [go_sem, List.cons.injEq, PV.bool.injEq, PV.int.injEq, PV.agg.injEq]
    all_goals
      simp only [MM.get, *, ↓reduceIte, Bool.false_eq_true]
  refine wpM_seq ?_
  refine wpM_regionK [2, 3, 15] rfl ?_; intro Q1 hQ1
  refine S_ ?_
  refine hQ1 _ _ ?_; clear hQ1 Q1
  refine S_ ?_
  refine wpM_condK ?_
  refine S_ ?_
  refine ⟨fun hc1 => ?_, fun hc1 => ?_⟩
  ·
    refine wpM_seq ?_
    refine wpM_regionK [4] rfl ?_; intro Q1 hQ1
    refine S_ ?_
    refine hQ1 _ _ ?_; clear hQ1 Q1
    refine S_ ?_
    refine wpM_ret ?_
    try refine S_ ?_
    refine hQ _ _ rfl rfl rfl (by simp -implicitDefEqProofs (disch := omega) only [go_sem, le_yes, true_or]) ?_ (.inl rfl)
    rw [Tryz.results150]
    try simp -implicitDefEqProofs (disch := omega) only [go_sem, List.cons.injEq, PV.bool.injEq, PV.int.injEq, PV.agg.injEq]
    all_goals
      simp only [MM.get, *, ↓reduceIte, Bool.false_eq_true]
  refine wpM_skip ?_
  refine S_ ?_
  refine wpM_seq ?_
  refine wpM_regionK [4] rfl ?_; intro Q1 hQ1
  refine S_ ?_
  refine hQ1 _ _ ?_; clear hQ1 Q1
  refine S_ ?_
  refine wpM_ret ?_
  try refine S_ ?_
  refine hQ _ _ rfl rfl rfl (by simp -implicitDefEqProofs (disch := omega) only [go_sem, le_yes, true_or]) ?_ (.inl rfl)
  rw [Tryz.results150]
  try simp -implicitDefEqProofs (disch := omega) only [go_sem, List.cons.injEq, PV.bool.injEq, PV.int.injEq, PV.agg.injEq]
  all_goals
    simp only [MM.get, *, ↓reduceIte, Bool.false_eq_true]
mutual
def Ex.of (m : MM) : Ex → Int
  | .mk k n a l => if k == 1 then n else if k == 2 then m.get a else if k == 10 then numIs (!((Ex.ofL m l).getD 0 0 != 0)) else two k ((Ex.ofL m l).getD 0 0) ((Ex.ofL m l).getD 1 0)
def Ex.ofL (m : MM) : List Ex → List Int
  | [] => []
  | e :: l => e.of m :: Ex.ofL m l
end
theorem Ex.ofL_map (m : MM) (l : List Ex) : Ex.ofL m l = l.map (Ex.of m) := by
  induction l with
  | nil => rfl
  | cons e l ih => simp [Ex.ofL, ih]
theorem Ex.ofL_get (m : MM) (l : List Ex) (k : Nat) (h : k < l.length) : (Ex.ofL m l).getD k 0 = (l.getD k default).of m := by simp [Ex.ofL_map, List.getD, h]
theorem Ex.of_eq (m : MM) (e : Ex) : e.of m = if e.kind == 1 then e.n else if e.kind == 2 then m.get e.a else if e.kind == 10 then numIs (!((Ex.ofL m e.kids).getD 0 0 != 0)) else two e.kind ((Ex.ofL m e.kids).getD 0 0) ((Ex.ofL m e.kids).getD 1 0) := by
  cases e; rfl
theorem form_inv {d : Nat} {e : Ex} (h : formD (d + 1) e = true) : kidsN e.kind = (e.kids.length : Int) ∧ (e.kind = 2 → e.a.ok = true) ∧ (∀ i, i < e.kids.length → formD d (e.kids.getD i default) = true) := by
  simp only [formD] at h
  split at h
  · cases h
  · rename_i h1
    split at h
    · cases h
    · split at h
      · cases h
      · rename_i h2 h3
        refine ⟨by simpa using h1, fun hk => ?_, fun i hi => ?_⟩
        · simp only [Bool.or_eq_true, Bool.and_eq_true, not_or, not_and, beq_iff_eq, bne_iff_ne] at h3
          have := h3.1 hk; simpa using this
        · rw [List.all_eq_true] at h
          refine h _ ?_
          rw [List.getD_eq_getElem?_getD, List.getElem?_eq_getElem hi]; exact List.getElem_mem hi
theorem kidsN_two {k : Int} (h1 : (k == 1) = false) (h2 : (k == 2) = false) (h3 : (k == 10) = false) (h : 0 ≤ kidsN k) : kidsN k = 2 := by
  simp only [kidsN, h1, h2, h3, Bool.or_false, Bool.false_eq_true, if_false] at h ⊢
  split
  · rfl
  · rename_i hh; rw [if_neg hh] at h; omega
theorem of_ok (m : MM) (hm : m.Six) (d : Nat) : ∀ (e : Ex), formD d e = true → PureF Tryz.prog 127 [.agg e.cs, .agg m.cs] [.int .i64 (e.of m)] := by
  induction d with
  | zero => intro e h; cases h
  | succ d ih =>
    intro e he
    obtain ⟨hk, ha, hkids⟩ := form_inv he
    refine pureF_of Tryz.func127 rfl Tryz.ntmps127 (by simp) T_ ?_
    intro f0 B Q hQ
    refine wpM_seq ?_
    refine wpM_regionK [2, 3] rfl ?_; intro Q1 hQ1
    refine S_ ?_
    refine hQ1 _ _ ?_; clear hQ1 Q1
    refine S_ ?_
    refine wpM_seq ?_
    refine wpM_seq ?_
    refine wpM_regionK [2, 3, 6] rfl ?_; intro Q1 hQ1
    refine S_ ?_
    refine hQ1 _ _ ?_; clear hQ1 Q1
    refine S_ ?_
    refine wpM_block ?_
    refine wpM_seq ?_
    refine wpM_regionK [2, 3, 6, 7] rfl ?_; intro Q1 hQ1
    refine S_ ?_
    refine hQ1 _ _ ?_; clear hQ1 Q1
    refine S_ ?_
    refine wpM_condK ?_
    refine S_ ?_
    refine ⟨fun hc0 => ?_, fun hc0 => ?_⟩
    ·
      refine wpM_seq ?_
      refine wpM_regionK [4] rfl ?_; intro Q1 hQ1
      refine S_ ?_
      refine hQ1 _ _ ?_; clear hQ1 Q1
      refine S_ ?_
      refine wpM_ret ?_
      try refine S_ ?_
      refine hQ _ _ rfl rfl rfl (by simp -implicitDefEqProofs (disch := omega) only [go_sem, le_yes, true_or]) ?_ (.inl rfl)
      rw [Tryz.results127]
      try simp -implicitDefEqProofs (disch := omega) only [go_sem, List.cons.injEq, PV.bool.injEq, PV.int.injEq, PV.agg.injEq]
      all_goals
        rw [Ex.of_eq m e]
        first | rw [Ex.ofL_get _ _ 0 hl1, Ex.ofL_get _ _ 1 hl2] | rw [Ex.ofL_get _ _ 0 hl1] | skip
        simp only [*, ↓reduceIte, Bool.false_eq_true]
    refine wpM_seq ?_
    refine wpM_regionK [2, 3, 6, 11] rfl ?_; intro Q1 hQ1
    refine S_ ?_
    refine hQ1 _ _ ?_; clear hQ1 Q1
    refine S_ ?_
    refine wpM_condK ?_
    refine S_ ?_
    refine ⟨fun hc1 => ?_, fun hc1 => ?_⟩
    ·
      refine wpM_seq ?_
      refine wpM_regionK [4] rfl ?_; intro Q1 hQ1
      refine S_ ?_
      refine call_p (get_ok m e.a hm (ha (by simpa using hc1))) Tryz.call150 rfl rfl rfl (by first | rfl | (simp -implicitDefEqProofs (disch := omega) only [go_sem] <;> rfl)) ?_
      refine S_ ?_
      refine hQ1 _ _ ?_; clear hQ1 Q1
      refine S_ ?_
      refine wpM_ret ?_
      try refine S_ ?_
      refine hQ _ _ rfl rfl rfl (by simp -implicitDefEqProofs (disch := omega) only [go_sem, le_yes, true_or]) ?_ (.inl rfl)
      rw [Tryz.results127]
      try simp -implicitDefEqProofs (disch := omega) only [go_sem, List.cons.injEq, PV.bool.injEq, PV.int.injEq, PV.agg.injEq]
      all_goals
        rw [Ex.of_eq m e]
        first | rw [Ex.ofL_get _ _ 0 hl1, Ex.ofL_get _ _ 1 hl2] | rw [Ex.ofL_get _ _ 0 hl1] | skip
        simp only [*, ↓reduceIte, Bool.false_eq_true]
    refine wpM_seq ?_
    refine wpM_regionK [2, 3, 17] rfl ?_; intro Q1 hQ1
    refine S_ ?_
    refine hQ1 _ _ ?_; clear hQ1 Q1
    refine S_ ?_
    refine wpM_condK ?_
    refine S_ ?_
    refine ⟨fun hc2 => ?_, fun hc2 => ?_⟩
    ·
      have hkn : kidsN e.kind = 1 := by have : e.kind = 10 := by simpa using hc2
                                        rw [this]; rfl
      have hl1 : 0 < e.kids.length := by omega
      refine wpM_seq ?_
      refine wpM_keep [4] (wpM_dr mixed 0 2 [B, B+1] [⟨[2], [], [], [], false⟩, ⟨[19], [0], [], [], false⟩, ⟨[20], [], [], [], false⟩, ⟨[21], [], [], [], false⟩, ⟨[3], [1], [], [], false⟩, ⟨[22, 23], [], [], [], true⟩, ⟨[24], [], [], [], true⟩, ⟨[25], [], [], [], false⟩, ⟨[26], [], [], [], true⟩, ⟨[27], [], [], [], false⟩] [0, 1, 2, 3, 4, 5, 6, 7, 8, 9] [[], [0], [0, 1], [0, 1, 2], [], [0, 1, 2, 3, 4], [0, 1, 2, 3, 4, 5], [0, 1, 2, 3, 4, 5, 6], [0, 1, 2, 3, 4, 5, 6, 7], [0, 1, 2, 3, 4, 5, 6, 7, 8]] 2 rfl (by simp) (by decide +kernel) (by simp) ?_)
      intro O A K hO hA hK; simp only [atL_cons, atL_nil, Nat.reduceAdd, Nat.zero_add] at hO hA
      refine SO_ ?_
      refine loud_p (ih (e.kids.getD 0 default) (hkids 0 hl1)) Tryz.call127 rfl rfl (by first | rfl | (simp -implicitDefEqProofs (disch := omega) only [go_sem] <;> rfl)) rfl ?_
      refine SO_ ?_
      refine loud_p (on_ok ((e.kids.getD 0 default).of m)) Tryz.call106 rfl rfl (by first | rfl | (simp -implicitDefEqProofs (disch := omega) only [go_sem] <;> rfl)) rfl ?_
      refine SO_ ?_
      refine loud_p (is_ok (!((e.kids.getD 0 default).of m != 0))) Tryz.call85 rfl rfl (by first | rfl | (simp -implicitDefEqProofs (disch := omega) only [go_sem] <;> rfl)) rfl ?_
      refine SO_ ?_
      refine hK _ ?_; clear hK K hO hA O A
      refine S_ ?_
      refine wpM_ret ?_
      try refine S_ ?_
      refine hQ _ _ rfl rfl rfl (by simp -implicitDefEqProofs (disch := omega) only [go_sem, le_yes, true_or]) ?_ (.inl rfl)
      rw [Tryz.results127]
      try simp -implicitDefEqProofs (disch := omega) only [go_sem, List.cons.injEq, PV.bool.injEq, PV.int.injEq, PV.agg.injEq]
      all_goals
        rw [Ex.of_eq m e]
        first | rw [Ex.ofL_get _ _ 0 hl1, Ex.ofL_get _ _ 1 hl2] | rw [Ex.ofL_get _ _ 0 hl1] | skip
        simp only [*, ↓reduceIte, Bool.false_eq_true]
    have hkn : kidsN e.kind = 2 := kidsN_two hc0 hc1 hc2 (by omega)
    have hl1 : 0 < e.kids.length := by omega
    have hl2 : 1 < e.kids.length := by omega
    refine wpM_skip ?_
    refine S_ ?_
    refine wpM_seq ?_
    refine wpM_keep [4] (wpM_dr mixed 0 2 [B, B+1] [⟨[2], [], [], [], false⟩, ⟨[28], [0], [], [], false⟩, ⟨[2], [], [], [], false⟩, ⟨[30], [0], [], [], false⟩, ⟨[31], [], [], [], false⟩, ⟨[32], [], [], [], false⟩, ⟨[3], [1], [], [], false⟩, ⟨[33, 34], [], [], [], true⟩, ⟨[2], [], [], [], false⟩, ⟨[36], [0], [], [], false⟩, ⟨[37], [], [], [], false⟩, ⟨[38], [], [], [], false⟩, ⟨[3], [1], [], [], false⟩, ⟨[39, 40], [], [], [], true⟩, ⟨[29, 35, 41], [], [], [], true⟩, ⟨[42], [], [], [], false⟩] [0, 1, 2, 3, 4, 5, 6, 8, 9, 10, 11, 12, 7, 13, 14, 15] [[], [0], [], [2], [2, 3], [2, 3, 4], [], [2, 3, 4, 5, 6], [], [8], [8, 9], [8, 9, 10], [], [2, 3, 4, 5, 6, 7, 8, 9, 10, 11, 12], [0, 1, 2, 3, 4, 5, 6, 7, 8, 9, 10, 11, 12, 13], [0, 1, 2, 3, 4, 5, 6, 7, 8, 9, 10, 11, 12, 13, 14]] 2 rfl (by simp) (by decide +kernel) (by simp) ?_)
    intro O A K hO hA hK; simp only [atL_cons, atL_nil, Nat.reduceAdd, Nat.zero_add] at hO hA
    refine SO_ ?_
    refine loud_p (ih (e.kids.getD 0 default) (hkids 0 hl1)) Tryz.call127 rfl rfl (by first | rfl | (simp -implicitDefEqProofs (disch := omega) only [go_sem] <;> rfl)) rfl ?_
    refine SO_ ?_
    refine loud_p (ih (e.kids.getD 1 default) (hkids 1 hl2)) Tryz.call127 rfl rfl (by first | rfl | (simp -implicitDefEqProofs (disch := omega) only [go_sem] <;> rfl)) rfl ?_
    refine SO_ ?_
    refine loud_p (two_ok e.kind ((e.kids.getD 0 default).of m) ((e.kids.getD 1 default).of m)) Tryz.call143 rfl rfl (by first | rfl | (simp -implicitDefEqProofs (disch := omega) only [go_sem] <;> rfl)) rfl ?_
    refine SO_ ?_
    refine hK _ ?_; clear hK K hO hA O A
    refine S_ ?_
    refine wpM_ret ?_
    try refine S_ ?_
    refine hQ _ _ rfl rfl rfl (by simp -implicitDefEqProofs (disch := omega) only [go_sem, le_yes, true_or]) ?_ (.inl rfl)
    rw [Tryz.results127]
    try simp -implicitDefEqProofs (disch := omega) only [go_sem, List.cons.injEq, PV.bool.injEq, PV.int.injEq, PV.agg.injEq]
    all_goals
      rw [Ex.of_eq m e]
      first | rw [Ex.ofL_get _ _ 0 hl1, Ex.ofL_get _ _ 1 hl2] | rw [Ex.ofL_get _ _ 0 hl1] | skip
      simp only [*, ↓reduceIte, Bool.false_eq_true]
end Go.Proofs.YtnilkkcobeaglaaGreat
namespace Go.Proofs.YtnilkkcobeaglaaGreat
open Go Sg
set_option maxRecDepth 100000
set_option linter.unusedSimpArgs false
set_option linter.unusedVariables false
set_option maxHeartbeats 4000000
structure Trn where
  fr : List Int
  to' : List Int
  w : Ex
  deriving Inhabited
structure GAct where
  kind : Int
  step : Int
  to' : AD
  deriving DecidableEq, Inhabited
structure Cht where
  steps : Int
  ts : List Trn
  as' : List GAct
  deriving Inhabited
structure Mrk where
  on : List Bool
  kept : List Bool
  deriving DecidableEq, Inhabited
def Trn.cs (t : Trn) : List PV := [.rows 3 (rowsI t.fr), .rows 3 (rowsI t.to'), .int .i64 t.w.kind, .int .i64 t.w.n, .int .i64 t.w.a.kind, .int .i64 t.w.a.at', .rows 46 (Ex.csL t.w.kids)]
@[go_sem] theorem Trn.cs_eq (t : Trn) : t.cs = [.rows 3 (rowsI t.fr), .rows 3 (rowsI t.to'), .int .i64 t.w.kind, .int .i64 t.w.n, .int .i64 t.w.a.kind, .int .i64 t.w.a.at', .rows 46 (Ex.csL t.w.kids)] := rfl
def GAct.cs (a : GAct) : List PV := [.int .i64 a.kind, .int .i64 a.step, .int .i64 a.to'.kind, .int .i64 a.to'.at']
@[go_sem] theorem GAct.cs_eq (a : GAct) : a.cs = [.int .i64 a.kind, .int .i64 a.step, .int .i64 a.to'.kind, .int .i64 a.to'.at'] := rfl
def rowsT (l : List Trn) : List (List PV) := l.map Trn.cs
def rowsA (l : List GAct) : List (List PV) := l.map GAct.cs
@[go_sem] theorem rowsT_len (l : List Trn) : (rowsT l).length = l.length := by simp [rowsT]
@[go_sem] theorem rowsT_getD (l : List Trn) (k : Nat) (h : k < l.length) : (rowsT l).getD k [] = (l.getD k default).cs := by simp [rowsT, List.getD, h]
@[go_sem] theorem rowsA_len (l : List GAct) : (rowsA l).length = l.length := by simp [rowsA]
@[go_sem] theorem rowsA_getD (l : List GAct) (k : Nat) (h : k < l.length) : (rowsA l).getD k [] = (l.getD k default).cs := by simp [rowsA, List.getD, h]
def Cht.cs (c : Cht) : List PV := [.int .i64 c.steps, .rows 48 (rowsT c.ts), .rows 41 (rowsA c.as')]
@[go_sem] theorem Cht.cs_eq (c : Cht) : c.cs = [.int .i64 c.steps, .rows 48 (rowsT c.ts), .rows 41 (rowsA c.as')] := rfl
def Mrk.cs (k : Mrk) : List PV := [.rows 4 (rowsB k.on), .rows 4 (rowsB k.kept)]
@[go_sem] theorem Mrk.cs_eq (k : Mrk) : k.cs = [.rows 4 (rowsB k.on), .rows 4 (rowsB k.kept)] := rfl
def plBad (l : List Int) (b : Int) (i : Nat) : Bool := decide (l.getD i 0 < 0) || decide (l.getD i 0 ≥ b) || (decide ((i : Int) > 0) && decide (l.getD i 0 ≤ l.getD ((i : Int) - 1).toNat 0))
def plOk (l : List Int) (b : Int) : Bool := (List.range l.length).all (fun i => !plBad l b i) && decide ((l.length : Int) > 0)
theorem range_all (p : Nat → Bool) (i : Nat) : (List.range (i + 1)).all p = ((List.range i).all p && p i) := by
  rw [List.range_succ, List.all_append]; simp
theorem range_no {p : Nat → Bool} {i n : Nat} (h : i < n) (hp : p i = false) : (List.range n).all p = false := by
  rw [List.all_eq_false]
  exact ⟨i, List.mem_range.2 h, by simpa using hp⟩
theorem plOk_ok (l : List Int) (b : Int) (hl : l.length ≤ 1099511627776) : PureF Tryz.prog 78 [.rows 3 (rowsI l), .int .i64 b] [.bool (plOk l b)] := by
  refine pureF_of Tryz.func78 rfl Tryz.ntmps78 (by simp) T_ ?_
  intro f0 B Q hQ
  refine wpM_seq ?_
  refine wpM_regionK [0, 1] rfl ?_; intro Q1 hQ1
  refine S_ ?_
  refine hQ1 _ _ ?_; clear hQ1 Q1
  refine S_ ?_
  refine wpM_seq ?_
  refine wpM_seq ?_
  refine wpM_regionK [0, 1, 5] rfl ?_; intro Q1 hQ1
  refine S_ ?_
  refine hQ1 _ _ ?_; clear hQ1 Q1
  refine S_ ?_
  refine wpM_block ?_
  refine wpM_loopS (fun s n s' => ∃ (i0 M0 : Nat) , i0 + n = l.length ∧ s.M ≤ M0 ∧ ((List.range i0).all (fun i => !plBad l b i) = true) ∧ s' = { s with env := setE 5 (.int .i64 (i0 : Nat)) s.env, M := M0 }) (l.length) ?_ ?_
  ·
    refine .of' _ _ ⟨0, _, by omega, Nat.le_refl _, by simp, rfl⟩ ?_ ?_ ?_ <;> (first | (simp -implicitDefEqProofs (disch := omega) only [go_sem, PV.int.injEq, Int.natCast_add, Int.natCast_one, Int.natCast_zero, true_or, le_yes]; done) | rfl | trivial | (simp -implicitDefEqProofs (disch := omega) only [go_sem, PV.int.injEq, Int.natCast_add, Int.natCast_one, Int.natCast_zero, true_or]; simp; done) | (simp; done))
  rintro n0 s' ⟨i0, M0, hi0, hM0, hv0, rfl⟩
  try dsimp only at hM0
  try refine S_ ?_
  refine wpM_seq ?_
  refine wpM_seq ?_
  refine wpM_regionK [0, 1, 5, 9] rfl ?_; intro Q1 hQ1
  refine S_ ?_
  refine hQ1 _ _ ?_; clear hQ1 Q1
  refine S_ ?_
  refine wpM_condK ?_
  refine S_ ?_
  refine ⟨fun hc0 => ?_, fun hc0 => ?_⟩
  ·
    have hl0 : i0 < l.length := by omega
    refine wpM_skip ?_
    refine S_ ?_
    refine wpM_seq ?_
    refine wpM_block ?_
    refine wpM_seq ?_
    refine wpM_keep [0, 1, 5, 40] (wpM_dr mixed 0 0 [] [⟨[0], [], [], [], false⟩, ⟨[5], [], [], [], false⟩, ⟨[12, 13], [], [], [], false⟩, ⟨[14], [], [], [], false⟩, ⟨[15], [], [], [], false⟩, ⟨[16], [], [], [], false⟩, ⟨[0, 17], [], [], [], false⟩, ⟨[5, 17], [], [], [], false⟩, ⟨[17, 18, 19], [], [], [], false⟩, ⟨[17, 20], [], [], [], false⟩, ⟨[1, 17], [], [], [], false⟩, ⟨[17, 21, 22], [], [], [], false⟩, ⟨[17, 23], [], [], [], false⟩, ⟨[24], [], [], [], false⟩, ⟨[5, 25], [], [], [], false⟩, ⟨[25, 26], [], [], [], false⟩, ⟨[25, 27], [], [], [], false⟩, ⟨[0, 28], [], [], [], false⟩, ⟨[5, 28], [], [], [], false⟩, ⟨[28, 29, 30], [], [], [], false⟩, ⟨[28, 31], [], [], [], false⟩, ⟨[0, 28], [], [], [], false⟩, ⟨[5, 28], [], [], [], false⟩, ⟨[28, 34], [], [], [], false⟩, ⟨[28, 33, 35], [], [], [], false⟩, ⟨[28, 36], [], [], [], false⟩, ⟨[28, 32, 37], [], [], [], false⟩, ⟨[25, 28, 38], [], [], [], false⟩, ⟨[25, 39], [], [], [], false⟩] [0, 1, 2, 3, 4, 5, 6, 7, 8, 9, 10, 11, 12, 13, 14, 15, 16, 17, 18, 19, 20, 21, 22, 23, 24, 25, 26, 27, 28] [[], [], [0, 1], [0, 1, 2], [0, 1, 2, 3], [0, 1, 2, 3, 4], [0, 1, 2, 3, 4, 5], [0, 1, 2, 3, 4, 5], [0, 1, 2, 3, 4, 5, 6, 7], [0, 1, 2, 3, 4, 5, 6, 7, 8], [0, 1, 2, 3, 4, 5], [0, 1, 2, 3, 4, 5, 6, 7, 8, 9, 10], [0, 1, 2, 3, 4, 5, 6, 7, 8, 9, 10, 11], [0, 1, 2, 3, 4, 5, 6, 7, 8, 9, 10, 11, 12], [0, 1, 2, 3, 4, 5, 6, 7, 8, 9, 10, 11, 12, 13], [0, 1, 2, 3, 4, 5, 6, 7, 8, 9, 10, 11, 12, 13, 14], [0, 1, 2, 3, 4, 5, 6, 7, 8, 9, 10, 11, 12, 13, 14, 15], [0, 1, 2, 3, 4, 5, 6, 7, 8, 9, 10, 11, 12, 13, 14, 15, 16], [0, 1, 2, 3, 4, 5, 6, 7, 8, 9, 10, 11, 12, 13, 14, 15, 16], [0, 1, 2, 3, 4, 5, 6, 7, 8, 9, 10, 11, 12, 13, 14, 15, 16, 17, 18], [0, 1, 2, 3, 4, 5, 6, 7, 8, 9, 10, 11, 12, 13, 14, 15, 16, 17, 18, 19], [0, 1, 2, 3, 4, 5, 6, 7, 8, 9, 10, 11, 12, 13, 14, 15, 16], [0, 1, 2, 3, 4, 5, 6, 7, 8, 9, 10, 11, 12, 13, 14, 15, 16], [0, 1, 2, 3, 4, 5, 6, 7, 8, 9, 10, 11, 12, 13, 14, 15, 16, 22], [0, 1, 2, 3, 4, 5, 6, 7, 8, 9, 10, 11, 12, 13, 14, 15, 16, 21, 22, 23], [0, 1, 2, 3, 4, 5, 6, 7, 8, 9, 10, 11, 12, 13, 14, 15, 16, 21, 22, 23, 24], [0, 1, 2, 3, 4, 5, 6, 7, 8, 9, 10, 11, 12, 13, 14, 15, 16, 17, 18, 19, 20, 21, 22, 23, 24, 25], [0, 1, 2, 3, 4, 5, 6, 7, 8, 9, 10, 11, 12, 13, 14, 15, 16, 17, 18, 19, 20, 21, 22, 23, 24, 25, 26], [0, 1, 2, 3, 4, 5, 6, 7, 8, 9, 10, 11, 12, 13, 14, 15, 16, 17, 18, 19, 20, 21, 22, 23, 24, 25, 26, 27]] 0 rfl (by simp) (by decide +kernel) (by simp) ?_)
    intro O A K hO hA hK; simp only [atL_cons, atL_nil, Nat.reduceAdd, Nat.zero_add] at hO hA
    refine SE_ ?_
    refine hK _ ?_; clear hK K hO hA O A
    refine S_ ?_
    refine wpM_condK ?_
    refine S_ ?_
    refine ⟨fun hc1 => ?_, fun hc1 => ?_⟩
    ·
      refine wpM_seq ?_
      refine wpM_regionK [4] rfl ?_; intro Q1 hQ1
      refine S_ ?_
      refine hQ1 _ _ ?_; clear hQ1 Q1
      refine S_ ?_
      refine wpM_ret ?_
      try refine S_ ?_
      refine hQ _ _ rfl rfl rfl (by simp -implicitDefEqProofs (disch := omega) only [go_sem, le_yes, true_or]) ?_ (.inl rfl)
      rw [Tryz.results78]
      try simp -implicitDefEqProofs (disch := omega) only [go_sem, List.cons.injEq, PV.bool.injEq, PV.int.injEq, PV.agg.injEq]
      all_goals
        first | (have h1 : plBad l b i0 = true := hc1
                 rw [plOk, range_no hl0 (by rw [h1]; rfl)]; rfl) | (have : i0 = l.length := by omega
                                                                    rw [plOk, ← this, hv0]; rfl)
    refine wpM_skip ?_
    refine S_ ?_
    refine wpM_regionK [0, 1, 5] rfl ?_; intro Q1 hQ1
    refine S_ ?_
    refine hQ1 _ _ ?_; clear hQ1 Q1
    refine S_ ?_
    refine .of' _ _ ⟨n0 - 1, by omega, i0 + 1, _, by omega, ?_, ?_, rfl⟩ ?_ ?_ ?_
    · first | omega | (simp -implicitDefEqProofs (disch := omega) only [go_sem]; done) | (simp -implicitDefEqProofs (disch := omega) only [go_sem]; omega)
    · rw [range_all, hv0]
      have : plBad l b i0 = false := hc1
      rw [this]; rfl
    all_goals (first | (simp -implicitDefEqProofs (disch := omega) only [go_sem, PV.int.injEq, Int.natCast_add, Int.natCast_one, Int.natCast_zero, true_or, le_yes]; done) | rfl | trivial | (simp -implicitDefEqProofs (disch := omega) only [go_sem, PV.int.injEq, Int.natCast_add, Int.natCast_one, Int.natCast_zero, true_or]; simp; done) | (simp; done))
  refine wpM_exit ?_
  refine S_ ?_
  refine wpM_seq ?_
  refine wpM_regionK [4] rfl ?_; intro Q1 hQ1
  refine S_ ?_
  refine hQ1 _ _ ?_; clear hQ1 Q1
  refine S_ ?_
  refine wpM_ret ?_
  try refine S_ ?_
  refine hQ _ _ rfl rfl rfl (by simp -implicitDefEqProofs (disch := omega) only [go_sem, le_yes, true_or]) ?_ (.inl rfl)
  rw [Tryz.results78]
  try simp -implicitDefEqProofs (disch := omega) only [go_sem, List.cons.injEq, PV.bool.injEq, PV.int.injEq, PV.agg.injEq]
  all_goals
    first | (have h1 : plBad l b i0 = true := hc1
             rw [plOk, range_no hl0 (by rw [h1]; rfl)]; rfl) | (have : i0 = l.length := by omega
                                                                rw [plOk, ← this, hv0]; rfl)
structure Trn.Sm (t : Trn) : Prop where
  fr : t.fr.length ≤ 1099511627776
  to' : t.to'.length ≤ 1099511627776
  w : t.w.sz ≤ 1099511627776
structure Cht.Sm (c : Cht) : Prop where
  ts : c.ts.length ≤ 1099511627776
  as' : c.as'.length ≤ 1099511627776
  t : ∀ i, i < c.ts.length → (c.ts.getD i default).Sm
def Trn.bad (s : Int) (t : Trn) : Bool := !plOk t.fr s || !plOk t.to' s || !t.w.ok
def GAct.bad (s : Int) (a : GAct) : Bool := decide (a.kind < 1) || decide (a.kind > 4) || decide (a.step < 0) || decide (a.step ≥ s) || !a.to'.ok || a.to'.kind != 2
def Cht.ok (c : Cht) : Bool := if decide (c.steps < 1) || decide (c.steps > 6) || decide ((c.ts.length : Int) > 6) || decide ((c.as'.length : Int) > 6) then false
  else c.ts.all (fun t => !t.bad c.steps) && c.as'.all (fun a => !a.bad c.steps)
theorem chtOk_ok (c : Cht) (hc : c.Sm) : PureF Tryz.prog 34 [.agg c.cs] [.bool c.ok] := by
  have hts := hc.ts
  have has := hc.as'
  refine pureF_of Tryz.func34 rfl Tryz.ntmps34 (by simp) T_ ?_
  intro f0 B Q hQ
  refine wpM_seq ?_
  refine wpM_regionK [1] rfl ?_; intro Q1 hQ1
  refine S_ ?_
  refine hQ1 _ _ ?_; clear hQ1 Q1
  refine S_ ?_
  refine wpM_seq ?_
  refine wpM_seq ?_
  refine wpM_regionK [1, 26] rfl ?_; intro Q1 hQ1
  refine SD_ ?_
  refine hQ1 _ _ ?_; clear hQ1 Q1
  refine S_ ?_
  refine wpM_condK ?_
  refine S_ ?_
  refine ⟨fun hc0 => ?_, fun hc0 => ?_⟩
  ·
    refine wpM_seq ?_
    refine wpM_regionK [2] rfl ?_; intro Q1 hQ1
    refine S_ ?_
    refine hQ1 _ _ ?_; clear hQ1 Q1
    refine S_ ?_
    refine wpM_ret ?_
    try refine S_ ?_
    refine hQ _ _ rfl rfl rfl (by simp -implicitDefEqProofs (disch := omega) only [go_sem, le_yes, true_or]) ?_ (.inl rfl)
    rw [Tryz.results34]
    try simp -implicitDefEqProofs (disch := omega) only [go_sem, List.cons.injEq, PV.bool.injEq, PV.int.injEq, PV.agg.injEq]
    all_goals
      unfold Cht.ok
      first
      | rw [if_pos hc0]
      | (have hb : (c.ts.getD i0 default).bad c.steps = true := hc2
         rw [if_neg (by rw [hc0]; simp), all_no (p := fun t => !t.bad c.steps) hl0 (by simp only [hb]; rfl)]; rfl)
      | (have hb : (c.as'.getD i1 default).bad c.steps = true := hc4
         rw [if_neg (by rw [hc0]; simp), all_no (l := c.as') (p := fun t => !t.bad c.steps) hl1 (by simp only [hb]; rfl), Bool.and_false])
      | rw [if_neg (by rw [hc0]; simp), all_yes hi0 hc1 hv0, all_yes hi1 hc3 hv1]; rfl
  refine wpM_skip ?_
  refine S_ ?_
  refine wpM_seq ?_
  refine wpM_seq ?_
  refine wpM_regionK [1, 3] rfl ?_; intro Q1 hQ1
  refine S_ ?_
  refine hQ1 _ _ ?_; clear hQ1 Q1
  refine S_ ?_
  refine wpM_block ?_
  refine wpM_loopS (fun s n s' => ∃ (i0 M0 : Nat) , i0 + n = c.ts.length ∧ s.M ≤ M0 ∧ ((c.ts.take i0).all (fun t => !t.bad c.steps) = true) ∧ s' = { s with env := setE 3 (.int .i64 (i0 : Nat)) s.env, M := M0 }) (c.ts.length) ?_ ?_
  ·
    refine .of' _ _ ⟨0, _, by omega, Nat.le_refl _, by simp, rfl⟩ ?_ ?_ ?_ <;> (first | (simp -implicitDefEqProofs (disch := omega) only [go_sem, PV.int.injEq, Int.natCast_add, Int.natCast_one, Int.natCast_zero, true_or, le_yes]; done) | rfl | trivial | (simp -implicitDefEqProofs (disch := omega) only [go_sem, PV.int.injEq, Int.natCast_add, Int.natCast_one, Int.natCast_zero, true_or]; simp; done) | (simp; done))
  rintro n0 s' ⟨i0, M0, hi0, hM0, hv0, rfl⟩
  try dsimp only at hM0
  try refine S_ ?_
  refine wpM_seq ?_
  refine wpM_seq ?_
  refine wpM_regionK [1, 3, 31] rfl ?_; intro Q1 hQ1
  refine S_ ?_
  refine hQ1 _ _ ?_; clear hQ1 Q1
  refine S_ ?_
  refine wpM_condK ?_
  refine S_ ?_
  refine ⟨fun hc1 => ?_, fun hc1 => ?_⟩
  ·
    have hl0 : i0 < c.ts.length := by omega
    have ht := hc.t i0 hl0
    refine wpM_skip ?_
    refine S_ ?_
    refine wpM_seq ?_
    refine wpM_block ?_
    refine wpM_seq ?_
    refine wpM_regionK [1, 3, 4] rfl ?_; intro Q1 hQ1
    refine S_ ?_
    refine hQ1 _ _ ?_; clear hQ1 Q1
    refine S_ ?_
    refine wpM_seq ?_
    refine wpM_regionK [1, 3, 58] rfl ?_; intro Q1 hQ1
    refine SD_ ?_
    refine call_p (plOk_ok (c.ts.getD i0 default).fr c.steps ht.fr) Tryz.call78 rfl rfl rfl (by first | rfl | (simp -implicitDefEqProofs (disch := omega) only [go_sem] <;> rfl)) ?_
    refine SD_ ?_
    first | refine callG_p (fun hb => plOk_ok (c.ts.getD i0 default).to' c.steps ht.to') Tryz.call78 rfl rfl (fun hb => by simp -implicitDefEqProofs (disch := omega) only [go_sem]) (fun hb => by first | rfl | (simp -implicitDefEqProofs (disch := omega) only [go_sem, hb, gd_of hb] <;> rfl)) ?_ | refine call_p (plOk_ok (c.ts.getD i0 default).to' c.steps ht.to') Tryz.call78 rfl rfl rfl (by first | rfl | (simp -implicitDefEqProofs (disch := omega) only [go_sem] <;> rfl)) ?_
    refine SD_ ?_
    first | refine callG_p (fun hb => exprOk_ok (c.ts.getD i0 default).w ht.w) Tryz.call19 rfl rfl (fun hb => by simp -implicitDefEqProofs (disch := omega) only [go_sem]) (fun hb => by first | rfl | (simp -implicitDefEqProofs (disch := omega) only [go_sem, hb, gd_of hb] <;> rfl)) ?_ | refine call_p (exprOk_ok (c.ts.getD i0 default).w ht.w) Tryz.call19 rfl rfl rfl (by first | rfl | (simp -implicitDefEqProofs (disch := omega) only [go_sem] <;> rfl)) ?_
    refine SD_ ?_
    refine hQ1 _ _ ?_; clear hQ1 Q1
    refine S_ ?_
    refine wpM_condK ?_
    refine S_ ?_
    refine ⟨fun hc2 => ?_, fun hc2 => ?_⟩
    ·
      refine wpM_seq ?_
      refine wpM_regionK [2] rfl ?_; intro Q1 hQ1
      refine S_ ?_
      refine hQ1 _ _ ?_; clear hQ1 Q1
      refine S_ ?_
      refine wpM_ret ?_
      try refine S_ ?_
      refine hQ _ _ rfl rfl rfl (by simp -implicitDefEqProofs (disch := omega) only [go_sem, le_yes, true_or]) ?_ (.inl rfl)
      rw [Tryz.results34]
      try simp -implicitDefEqProofs (disch := omega) only [go_sem, List.cons.injEq, PV.bool.injEq, PV.int.injEq, PV.agg.injEq]
      all_goals
        unfold Cht.ok
        first
        | rw [if_pos hc0]
        | (have hb : (c.ts.getD i0 default).bad c.steps = true := hc2
           rw [if_neg (by rw [hc0]; simp), all_no (p := fun t => !t.bad c.steps) hl0 (by simp only [hb]; rfl)]; rfl)
        | (have hb : (c.as'.getD i1 default).bad c.steps = true := hc4
           rw [if_neg (by rw [hc0]; simp), all_no (l := c.as') (p := fun t => !t.bad c.steps) hl1 (by simp only [hb]; rfl), Bool.and_false])
        | rw [if_neg (by rw [hc0]; simp), all_yes hi0 hc1 hv0, all_yes hi1 hc3 hv1]; rfl
    refine wpM_skip ?_
    refine S_ ?_
    refine wpM_regionK [1, 3] rfl ?_; intro Q1 hQ1
    refine S_ ?_
    refine hQ1 _ _ ?_; clear hQ1 Q1
    refine S_ ?_
    refine .of' _ _ ⟨n0 - 1, by omega, i0 + 1, _, by omega, ?_, ?_, rfl⟩ ?_ ?_ ?_
    · first | omega | (simp -implicitDefEqProofs (disch := omega) only [go_sem]; done) | (simp -implicitDefEqProofs (disch := omega) only [go_sem]; omega)
    · have hb : (c.ts.getD i0 default).bad c.steps = false := hc2
      rw [take_all _ _ _ hl0, hv0, hb]; rfl
    all_goals (first | (simp -implicitDefEqProofs (disch := omega) only [go_sem, PV.int.injEq, Int.natCast_add, Int.natCast_one, Int.natCast_zero, true_or, le_yes]; done) | rfl | trivial | (simp -implicitDefEqProofs (disch := omega) only [go_sem, PV.int.injEq, Int.natCast_add, Int.natCast_one, Int.natCast_zero, true_or]; simp; done) | (simp; done))
  refine wpM_exit ?_
  refine S_ ?_
  refine wpM_seq ?_
  refine wpM_seq ?_
  refine wpM_regionK [1, 5] rfl ?_; intro Q1 hQ1
  refine S_ ?_
  refine hQ1 _ _ ?_; clear hQ1 Q1
  refine S_ ?_
  refine wpM_block ?_
  refine wpM_loopS (fun s n s' => ∃ (i1 M1 : Nat) , i1 + n = c.as'.length ∧ s.M ≤ M1 ∧ ((c.as'.take i1).all (fun a => !a.bad c.steps) = true) ∧ s' = { s with env := setE 5 (.int .i64 (i1 : Nat)) s.env, M := M1 }) (c.as'.length) ?_ ?_
  ·
    refine .of' _ _ ⟨0, _, by omega, Nat.le_refl _, by simp, rfl⟩ ?_ ?_ ?_ <;> (first | (simp -implicitDefEqProofs (disch := omega) only [go_sem, PV.int.injEq, Int.natCast_add, Int.natCast_one, Int.natCast_zero, true_or, le_yes]; done) | rfl | trivial | (simp -implicitDefEqProofs (disch := omega) only [go_sem, PV.int.injEq, Int.natCast_add, Int.natCast_one, Int.natCast_zero, true_or]; simp; done) | (simp; done))
  rintro n1 s' ⟨i1, M1, hi1, hM1, hv1, rfl⟩
  try dsimp only at hM1
  try refine S_ ?_
  refine wpM_seq ?_
  refine wpM_seq ?_
  refine wpM_regionK [1, 5, 63] rfl ?_; intro Q1 hQ1
  refine S_ ?_
  refine hQ1 _ _ ?_; clear hQ1 Q1
  refine S_ ?_
  refine wpM_condK ?_
  refine S_ ?_
  refine ⟨fun hc3 => ?_, fun hc3 => ?_⟩
  ·
    have hl1 : i1 < c.as'.length := by omega
    refine wpM_skip ?_
    refine S_ ?_
    refine wpM_seq ?_
    refine wpM_block ?_
    refine wpM_seq ?_
    refine wpM_regionK [1, 5, 6] rfl ?_; intro Q1 hQ1
    refine S_ ?_
    refine hQ1 _ _ ?_; clear hQ1 Q1
    refine S_ ?_
    refine wpM_seq ?_
    refine wpM_regionK [1, 5, 102] rfl ?_; intro Q1 hQ1
    refine SD_ ?_
    first | refine callG_p (fun hb => addrOk_ok (c.as'.getD i1 default).to') Tryz.call79 rfl rfl (fun hb => by simp -implicitDefEqProofs (disch := omega) only [go_sem]) (fun hb => by first | rfl | (simp -implicitDefEqProofs (disch := omega) only [go_sem, hb, gd_of hb] <;> rfl)) ?_ | refine call_p (addrOk_ok (c.as'.getD i1 default).to') Tryz.call79 rfl rfl rfl (by first | rfl | (simp -implicitDefEqProofs (disch := omega) only [go_sem] <;> rfl)) ?_
    refine SD_ ?_
    refine hQ1 _ _ ?_; clear hQ1 Q1
    refine S_ ?_
    refine wpM_condK ?_
    refine S_ ?_
    refine ⟨fun hc4 => ?_, fun hc4 => ?_⟩
    ·
      refine wpM_seq ?_
      refine wpM_regionK [2] rfl ?_; intro Q1 hQ1
      refine S_ ?_
      refine hQ1 _ _ ?_; clear hQ1 Q1
      refine S_ ?_
      refine wpM_ret ?_
      try refine S_ ?_
      refine hQ _ _ rfl rfl rfl (by simp -implicitDefEqProofs (disch := omega) only [go_sem, le_yes, true_or]) ?_ (.inl rfl)
      rw [Tryz.results34]
      try simp -implicitDefEqProofs (disch := omega) only [go_sem, List.cons.injEq, PV.bool.injEq, PV.int.injEq, PV.agg.injEq]
      all_goals
        unfold Cht.ok
        first
        | rw [if_pos hc0]
        | (have hb : (c.ts.getD i0 default).bad c.steps = true := hc2
           rw [if_neg (by rw [hc0]; simp), all_no (p := fun t => !t.bad c.steps) hl0 (by simp only [hb]; rfl)]; rfl)
        | (have hb : (c.as'.getD i1 default).bad c.steps = true := hc4
           rw [if_neg (by rw [hc0]; simp), all_no (l := c.as') (p := fun t => !t.bad c.steps) hl1 (by simp only [hb]; rfl), Bool.and_false])
        | rw [if_neg (by rw [hc0]; simp), all_yes hi0 hc1 hv0, all_yes hi1 hc3 hv1]; rfl
    refine wpM_skip ?_
    refine S_ ?_
    refine wpM_regionK [1, 5] rfl ?_; intro Q1 hQ1
    refine S_ ?_
    refine hQ1 _ _ ?_; clear hQ1 Q1
    refine S_ ?_
    refine .of' _ _ ⟨n1 - 1, by omega, i1 + 1, _, by omega, ?_, ?_, rfl⟩ ?_ ?_ ?_
    · first | omega | (simp -implicitDefEqProofs (disch := omega) only [go_sem]; done) | (simp -implicitDefEqProofs (disch := omega) only [go_sem]; omega)
    · have hb : (c.as'.getD i1 default).bad c.steps = false := hc4
      rw [take_all _ _ _ hl1, hv1, hb]; rfl
    all_goals (first | (simp -implicitDefEqProofs (disch := omega) only [go_sem, PV.int.injEq, Int.natCast_add, Int.natCast_one, Int.natCast_zero, true_or, le_yes]; done) | rfl | trivial | (simp -implicitDefEqProofs (disch := omega) only [go_sem, PV.int.injEq, Int.natCast_add, Int.natCast_one, Int.natCast_zero, true_or]; simp; done) | (simp; done))
  refine wpM_exit ?_
  refine S_ ?_
  refine wpM_seq ?_
  refine wpM_regionK [2] rfl ?_; intro Q1 hQ1
  refine S_ ?_
  refine hQ1 _ _ ?_; clear hQ1 Q1
  refine S_ ?_
  refine wpM_ret ?_
  try refine S_ ?_
  refine hQ _ _ rfl rfl rfl (by simp -implicitDefEqProofs (disch := omega) only [go_sem, le_yes, true_or]) ?_ (.inl rfl)
  rw [Tryz.results34]
  try simp -implicitDefEqProofs (disch := omega) only [go_sem, List.cons.injEq, PV.bool.injEq, PV.int.injEq, PV.agg.injEq]
  all_goals
    unfold Cht.ok
    first
    | rw [if_pos hc0]
    | (have hb : (c.ts.getD i0 default).bad c.steps = true := hc2
       rw [if_neg (by rw [hc0]; simp), all_no (p := fun t => !t.bad c.steps) hl0 (by simp only [hb]; rfl)]; rfl)
    | (have hb : (c.as'.getD i1 default).bad c.steps = true := hc4
       rw [if_neg (by rw [hc0]; simp), all_no (l := c.as') (p := fun t => !t.bad c.steps) hl1 (by simp only [hb]; rfl), Bool.and_false])
    | rw [if_neg (by rw [hc0]; simp), all_yes hi0 hc1 hv0, all_yes hi1 hc3 hv1]; rfl
def mrkOk (c : Cht) (k : Mrk) : Bool := (k.on.length : Int) == c.steps && (k.kept.length : Int) == 6
theorem mrkOk_ok (c : Cht) (k : Mrk) : PureF Tryz.prog 41 [.agg c.cs, .agg k.cs] [.bool (mrkOk c k)] := by
  refine pureF_of Tryz.func41 rfl Tryz.ntmps41 (by simp) T_ ?_
  intro f0 B Q hQ
  refine wpM_seq ?_
  refine wpM_regionK [2, 3] rfl ?_; intro Q1 hQ1
  refine S_ ?_
  refine hQ1 _ _ ?_; clear hQ1 Q1
  refine S_ ?_
  refine wpM_seq ?_
  refine wpM_regionK [4] rfl ?_; intro Q1 hQ1
  refine SD_ ?_
  refine hQ1 _ _ ?_; clear hQ1 Q1
  refine S_ ?_
  refine wpM_ret ?_
  try refine S_ ?_
  refine hQ _ _ rfl rfl rfl (by simp -implicitDefEqProofs (disch := omega) only [go_sem, le_yes, true_or]) ?_ (.inl rfl)
  rw [Tryz.results41]
  try simp -implicitDefEqProofs (disch := omega) only [go_sem, List.cons.injEq, PV.bool.injEq, PV.int.injEq, PV.agg.injEq]
  all_goals
    rfl
def allOn (on : List Bool) (l : List Int) : Bool := l.all fun x => on.getD x.toNat false
theorem allOn_ok (on : List Bool) (l : List Int) (hl : l.length ≤ 1099511627776) (hb : ∀ i, i < l.length → 0 ≤ l.getD i 0 ∧ l.getD i 0 < (on.length : Int)) : PureF Tryz.prog 126 [.rows 4 (rowsB on), .rows 3 (rowsI l)] [.bool (allOn on l)] := by
  refine pureF_of Tryz.func126 rfl Tryz.ntmps126 (by simp) T_ ?_
  intro f0 B Q hQ
  refine wpM_seq ?_
  refine wpM_regionK [0, 1] rfl ?_; intro Q1 hQ1
  refine S_ ?_
  refine hQ1 _ _ ?_; clear hQ1 Q1
  refine S_ ?_
  refine wpM_seq ?_
  refine wpM_seq ?_
  refine wpM_regionK [0, 1, 5] rfl ?_; intro Q1 hQ1
  refine S_ ?_
  refine hQ1 _ _ ?_; clear hQ1 Q1
  refine S_ ?_
  refine wpM_block ?_
  refine wpM_loopS (fun s n s' => ∃ (i0 M0 : Nat) , i0 + n = l.length ∧ s.M ≤ M0 ∧ (allOn on (l.take i0) = true) ∧ s' = { s with env := setE 5 (.int .i64 (i0 : Nat)) s.env, M := M0 }) (l.length) ?_ ?_
  ·
    refine .of' _ _ ⟨0, _, by omega, Nat.le_refl _, rfl, rfl⟩ ?_ ?_ ?_ <;> (first | (simp -implicitDefEqProofs (disch := omega) only [go_sem, PV.int.injEq, Int.natCast_add, Int.natCast_one, Int.natCast_zero, true_or, le_yes]; done) | rfl | trivial | (simp -implicitDefEqProofs (disch := omega) only [go_sem, PV.int.injEq, Int.natCast_add, Int.natCast_one, Int.natCast_zero, true_or]; simp; done) | (simp; done))
  rintro n0 s' ⟨i0, M0, hi0, hM0, hv0, rfl⟩
  try dsimp only at hM0
  try refine S_ ?_
  refine wpM_seq ?_
  refine wpM_seq ?_
  refine wpM_regionK [0, 1, 5, 9] rfl ?_; intro Q1 hQ1
  refine S_ ?_
  refine hQ1 _ _ ?_; clear hQ1 Q1
  refine S_ ?_
  refine wpM_condK ?_
  refine S_ ?_
  refine ⟨fun hc0 => ?_, fun hc0 => ?_⟩
  ·
    have hl0 : i0 < l.length := by omega
    have hb1 := hb i0 hl0
    refine wpM_skip ?_
    refine S_ ?_
    refine wpM_seq ?_
    refine wpM_block ?_
    refine wpM_seq ?_
    refine wpM_regionK [0, 1, 5, 19] rfl ?_; intro Q1 hQ1
    refine S_ ?_
    refine hQ1 _ _ ?_; clear hQ1 Q1
    refine S_ ?_
    refine wpM_condK ?_
    refine S_ ?_
    refine ⟨fun hc1 => ?_, fun hc1 => ?_⟩
    ·
      refine wpM_seq ?_
      refine wpM_regionK [4] rfl ?_; intro Q1 hQ1
      refine S_ ?_
      refine hQ1 _ _ ?_; clear hQ1 Q1
      refine S_ ?_
      refine wpM_ret ?_
      try refine S_ ?_
      refine hQ _ _ rfl rfl rfl (by simp -implicitDefEqProofs (disch := omega) only [go_sem, le_yes, true_or]) ?_ (.inl rfl)
      rw [Tryz.results126]
      try simp -implicitDefEqProofs (disch := omega) only [go_sem, List.cons.injEq, PV.bool.injEq, PV.int.injEq, PV.agg.injEq]
      all_goals
        unfold allOn
        first | exact (all_no' (z := 0) hl0 (by simpa using hc1)).symm | exact (all_yes' hi0 hc0 hv0).symm
    refine wpM_skip ?_
    refine S_ ?_
    refine wpM_regionK [0, 1, 5] rfl ?_; intro Q1 hQ1
    refine S_ ?_
    refine hQ1 _ _ ?_; clear hQ1 Q1
    refine S_ ?_
    refine .of' _ _ ⟨n0 - 1, by omega, i0 + 1, _, by omega, ?_, ?_, rfl⟩ ?_ ?_ ?_
    · first | omega | (simp -implicitDefEqProofs (disch := omega) only [go_sem]; done) | (simp -implicitDefEqProofs (disch := omega) only [go_sem]; omega)
    · have h1 : on.getD (l.getD i0 0).toNat false = true := by simpa using hc1
      unfold allOn at hv0 ⊢
      rw [take_all' _ _ 0 _ hl0, hv0, h1]; rfl
    all_goals (first | (simp -implicitDefEqProofs (disch := omega) only [go_sem, PV.int.injEq, Int.natCast_add, Int.natCast_one, Int.natCast_zero, true_or, le_yes]; done) | rfl | trivial | (simp -implicitDefEqProofs (disch := omega) only [go_sem, PV.int.injEq, Int.natCast_add, Int.natCast_one, Int.natCast_zero, true_or]; simp; done) | (simp; done))
  refine wpM_exit ?_
  refine S_ ?_
  refine wpM_seq ?_
  refine wpM_regionK [4] rfl ?_; intro Q1 hQ1
  refine S_ ?_
  refine hQ1 _ _ ?_; clear hQ1 Q1
  refine S_ ?_
  refine wpM_ret ?_
  try refine S_ ?_
  refine hQ _ _ rfl rfl rfl (by simp -implicitDefEqProofs (disch := omega) only [go_sem, le_yes, true_or]) ?_ (.inl rfl)
  rw [Tryz.results126]
  try simp -implicitDefEqProofs (disch := omega) only [go_sem, List.cons.injEq, PV.bool.injEq, PV.int.injEq, PV.agg.injEq]
  all_goals
    unfold allOn
    first | exact (all_no' (z := 0) hl0 (by simpa using hc1)).symm | exact (all_yes' hi0 hc0 hv0).symm
end Go.Proofs.YtnilkkcobeaglaaGreat
namespace Go.Proofs.YtnilkkcobeaglaaGreat
open Go Sg
set_option maxRecDepth 100000
set_option linter.unusedSimpArgs false
set_option linter.unusedVariables false
set_option maxHeartbeats 4000000
def bls (l : List Bool) : List PV := l.map PV.bool
@[go_sem] theorem bls_len (l : List Bool) : (bls l).length = l.length := by simp [bls]
@[go_sem] theorem rowsB_flat (l : List Bool) : (rowsB l).flatten = bls l := by
  induction l with
  | nil => rfl
  | cons x l ih => simp only [rowsB, bls, List.map_cons, List.flatten_cons] at ih ⊢; rw [ih]; rfl
@[go_sem] theorem rowsI_flat (l : List Int) : (rowsI l).flatten = ints l := by
  induction l with
  | nil => rfl
  | cons x l ih => simp only [rowsI, ints, List.map_cons, List.flatten_cons] at ih ⊢; rw [ih]; rfl
@[go_sem] theorem idsL_ints (p : Nat → Prop) (l : List Int) : PV.idsL p (ints l) = True := by
  induction l with
  | nil => simp [ints, PV.idsL]
  | cons x l ih => simp only [ints, List.map_cons, PV.idsL, PV.ids, true_and] at ih ⊢; exact ih
@[go_sem] theorem idsL_bls (p : Nat → Prop) (l : List Bool) : PV.idsL p (bls l) = True := by
  induction l with
  | nil => simp [bls, PV.idsL]
  | cons x l ih => simp only [bls, List.map_cons, PV.idsL, PV.ids, true_and] at ih ⊢; exact ih
@[go_sem] theorem renL_ints (p : Nat → Nat) (l : List Int) : PV.renL p (ints l) = ints l := by
  induction l with
  | nil => rfl
  | cons x l ih => simp only [ints, List.map_cons, PV.renL, PV.ren] at ih ⊢; rw [ih]
@[go_sem] theorem renL_bls (p : Nat → Nat) (l : List Bool) : PV.renL p (bls l) = bls l := by
  induction l with
  | nil => rfl
  | cons x l ih => simp only [bls, List.map_cons, PV.renL, PV.ren] at ih ⊢; rw [ih]
theorem ints_nil : ([] : List PV) = ints [] := rfl
@[go_sem] theorem bls_drop (l : List Bool) (k : Nat) (h : k < l.length) : ((bls l).drop k)[0]? = some (.bool (l.getD k false)) := by simp [bls, List.getD, h]
@[go_sem high] theorem splice_bls (l : List Bool) (k : Nat) (b : Bool) (h : k < l.length) : splice (bls l) k [.bool b] = bls (l.set k b) := by
  simp only [splice, bls, List.length_cons, List.length_nil]
  rw [List.map_set, List.set_eq_take_append_cons_drop, if_pos (by simpa using h)]; simp
@[go_sem high] theorem splice_ints (l : List Int) (k : Nat) (b : Int) (h : k < l.length) : splice (ints l) k [.int .i64 b] = ints (l.set k b) := by
  simp only [splice, ints, List.length_cons, List.length_nil]
  rw [List.map_set, List.set_eq_take_append_cons_drop, if_pos (by simpa using h)]; simp
@[go_sem] theorem ints_app (l : List Int) (x : Int) : ints l ++ [.int .i64 x] = ints (l ++ [x]) := by simp [ints]
theorem rowsOf_ints {f : Nat → Option AObj} {id : Nat} {T : TypeId} {l : List Int} (h : f id = some (.cells T (ints l))) : RowsOf Tryz.prog f 3 id 0 l.length (rowsI l) := by
  refine ⟨by rw [cellsOf3]; omega, by simp [rowsI], ?_, T, _, h, ?_, ?_⟩
  · intro c hc
    simp only [rowsI, List.mem_map] at hc
    obtain ⟨x, _, rfl⟩ := hc
    rw [cellsOf3]; exact ⟨rfl, rfl⟩
  · rw [cellsOf3]; simp [ints]
  · rw [cellsOf3, rowsI_flat]; simp [ints, List.take_of_length_le]
theorem rowsOf_bls {f : Nat → Option AObj} {id : Nat} {T : TypeId} {l : List Bool} (h : f id = some (.cells T (bls l))) : RowsOf Tryz.prog f 4 id 0 l.length (rowsB l) := by
  refine ⟨by rw [cellsOf4]; omega, by simp [rowsB], ?_, T, _, h, ?_, ?_⟩
  · intro c hc
    simp only [rowsB, List.mem_map] at hc
    obtain ⟨x, _, rfl⟩ := hc
    rw [cellsOf4]; exact ⟨rfl, rfl⟩
  · rw [cellsOf4]; simp [bls]
  · rw [cellsOf4, rowsB_flat]; simp [bls, List.take_of_length_le]
def clr (b : Bool) (f : List Bool) (l : List Int) : List Bool := l.foldl (fun f x => f.set x.toNat b) f
theorem clr_len (b : Bool) (l : List Int) : ∀ f : List Bool, (clr b f l).length = f.length := by
  induction l with
  | nil => intro f; rfl
  | cons x l ih => intro f; simp only [clr, List.foldl_cons] at ih ⊢; rw [ih]; simp
theorem clr_take (b : Bool) (f : List Bool) (l : List Int) (i : Nat) (h : i < l.length) : clr b f (l.take (i + 1)) = (clr b f (l.take i)).set (l.getD i 0).toNat b := by
  rw [List.take_succ_eq_append_getElem h, clr, List.foldl_append]
  simp [List.getD, h, clr]
@[go_sem] theorem clr_nil (b : Bool) (f : List Bool) : clr b f [] = f := rfl
@[go_sem] theorem clr_len' (b : Bool) (l : List Int) (f : List Bool) : (clr b f l).length = f.length := clr_len b l f
def fstep (m : MM) (st : List Bool × List Int) (i : Nat) (t : Trn) : List Bool × List Int :=
  if !allOn st.1 t.fr || !(t.w.of m != 0) then st else (clr false st.1 t.fr, st.2 ++ [(i : Int)])
def fpre (m : MM) (c : Cht) (on : List Bool) (n : Nat) : List Bool × List Int := (List.range n).foldl (fun st i => fstep m st i (c.ts.getD i default)) (on, [])
@[go_sem] theorem fpre_zero (m : MM) (c : Cht) (on : List Bool) : fpre m c on 0 = (on, []) := rfl
@[go_sem] theorem ints_nil' : ints [] = [] := rfl
theorem fpre_succ (m : MM) (c : Cht) (on : List Bool) (n : Nat) : fpre m c on (n + 1) = fstep m (fpre m c on n) n (c.ts.getD n default) := by
  simp only [fpre, List.range_succ, List.foldl_append, List.foldl_cons, List.foldl_nil]
theorem fpre_len (m : MM) (c : Cht) (on : List Bool) (n : Nat) : (fpre m c on n).1.length = on.length ∧ (fpre m c on n).2.length ≤ n := by
  induction n with
  | zero => exact ⟨rfl, Nat.le_refl _⟩
  | succ n ih =>
    rw [fpre_succ, fstep]
    split
    · exact ⟨ih.1, by omega⟩
    · exact ⟨by rw [clr_len]; exact ih.1, by simp; omega⟩
def fires (m : MM) (c : Cht) (on : List Bool) : List Int := (fpre m c on c.ts.length).2
structure Trn.Go (n : Nat) (t : Trn) : Prop where
  fr : ∀ i, i < t.fr.length → 0 ≤ t.fr.getD i 0 ∧ t.fr.getD i 0 < (n : Int)
  to' : ∀ i, i < t.to'.length → 0 ≤ t.to'.getD i 0 ∧ t.to'.getD i 0 < (n : Int)
  w : formD 6 t.w = true
def ocs (x y z : Nat) : List PV := [.sl 3 x 0 6, .sl 3 y 0 6, .sl 3 z 0 6]
@[go_sem] theorem ocs_eq (x y z : Nat) : ocs x y z = [.sl 3 x 0 6, .sl 3 y 0 6, .sl 3 z 0 6] := rfl
def MM.ol (m : MM) (x y z : Nat) : List (Nat × AObj) := [(x, .cells 3 (ints m.i)), (y, .cells 3 (ints m.o)), (z, .cells 3 (ints m.v))]
@[go_sem] theorem MM.ol_eq (m : MM) (x y z : Nat) : m.ol x y z = [(x, .cells 3 (ints m.i)), (y, .cells 3 (ints m.o)), (z, .cells 3 (ints m.v))] := rfl
def MM.ou (m : MM) (x y z : Nat) : List (Nat × Option AObj) := [(x, some (.cells 3 (ints m.i))), (y, some (.cells 3 (ints m.o))), (z, some (.cells 3 (ints m.v)))]
@[go_sem] theorem MM.ou_eq (m : MM) (x y z : Nat) : m.ou x y z = [(x, some (.cells 3 (ints m.i))), (y, some (.cells 3 (ints m.o))), (z, some (.cells 3 (ints m.v)))] := rfl
def MM.tb (m : MM) (x y z : Nat) : List (TypeId × Nat × Nat × Nat × List (List PV)) := [(3, x, 0, 6, rowsI m.i), (3, y, 0, 6, rowsI m.o), (3, z, 0, 6, rowsI m.v)]
theorem MM.sub (m : MM) {x y z : Nat} (h1 : x ≠ y) (h2 : x ≠ z) (h3 : y ≠ z) : PV.subL (thOf (m.tb x y z)) (ocs x y z) = m.cs := by
  simp [ocs, MM.cs, PV.subL, PV.sub, thOf, MM.tb, h1, h2, h3]
theorem rowsOf_ints' {f : Nat → Option AObj} {id n : Nat} {T : TypeId} {l : List Int} (h : f id = some (.cells T (ints l))) (hn : l.length = n) : RowsOf Tryz.prog f 3 id 0 n (rowsI l) := by subst hn; exact rowsOf_ints h
theorem MM.tb_ok (m : MM) (hm : m.Six) {f : Nat → Option AObj} {x y z : Nat} (hx : f x = some (.cells 3 (ints m.i))) (hy : f y = some (.cells 3 (ints m.o))) (hz : f z = some (.cells 3 (ints m.v))) : ∀ q ∈ m.tb x y z, RowsOf Tryz.prog f q.1 q.2.1 q.2.2.1 q.2.2.2.1 q.2.2.2.2 := by
  intro q hq
  simp only [MM.tb, List.mem_cons, List.not_mem_nil, or_false] at hq
  rcases hq with rfl | rfl | rfl
  · exact rowsOf_ints' hx hm.i
  · exact rowsOf_ints' hy hm.o
  · exact rowsOf_ints' hz hm.v
theorem MM.frz (m : MM) (hm : m.Six) {f : Nat → Option AObj} {x y z : Nat} (hx : f x = some (.cells 3 (ints m.i))) (hy : f y = some (.cells 3 (ints m.o))) (hz : f z = some (.cells 3 (ints m.v))) : ∀ q ∈ m.tb x y z, q.2.1 ∈ [x, y, z] ∧ RowsOf Tryz.prog f q.1 q.2.1 q.2.2.1 q.2.2.2.1 q.2.2.2.2 := by
  intro q hq
  refine ⟨?_, m.tb_ok hm hx hy hz q hq⟩
  simp only [MM.tb, List.mem_cons, List.not_mem_nil, or_false] at hq
  rcases hq with rfl | rfl | rfl <;> simp
mutual
theorem sub_flatE (θ : TypeId → Nat → Nat → Nat → Option PV) : (e : Ex) → PV.subL θ e.cs = e.cs
  | .mk k n a l => by simp [Ex.cs, PV.subL, PV.sub]
end
theorem of_okO (m : MM) (hm : m.Six) {x y z : Nat} (h1 : x ≠ y) (h2 : x ≠ z) (h3 : y ≠ z) (e : Ex) (h : formD 6 e = true) : CallF Tryz.prog 127 [.agg e.cs, .agg (ocs x y z)] (m.ol x y z) 0 (fun _ o => o = { rs := [.int .i64 (e.of m)] }) := by
  refine CallF.borrow (m.tb x y z) rfl rfl (m.tb_ok hm (by simp [MM.ol, lk]) (by simp [MM.ol, lk, h1]) (by simp [MM.ol, lk, h2, h3])) ?_
  have := of_ok m hm 6 e h
  simp only [PV.subL, PV.sub, m.sub h1 h2 h3, sub_flatE]
  exact this
theorem sub_rowsB (θ : TypeId → Nat → Nat → Nat → Option PV) (e : TypeId) (r : List (List PV)) : PV.sub θ (.rows e r) = .rows e r := rfl
theorem allOn_okO (id : Nat) (on : List Bool) (l : List Int) (hl : l.length ≤ 1099511627776) (hb : ∀ i, i < l.length → 0 ≤ l.getD i 0 ∧ l.getD i 0 < (on.length : Int)) : CallF Tryz.prog 126 [.sl 4 id 0 on.length, .rows 3 (rowsI l)] [(id, .cells 4 (bls on))] 0 (fun _ o => o = { rs := [.bool (allOn on l)] }) := by
  refine CallF.borrow [(4, id, 0, on.length, rowsB on)] rfl rfl ?_ ?_
  · intro q hq
    simp only [List.mem_cons, List.not_mem_nil, or_false] at hq
    subst hq
    exact rowsOf_bls (T := 4) (by simp [lk])
  · have := allOn_ok on l hl hb
    simp only [PV.subL, PV.sub, thOf, and_self, if_true]
    exact this
theorem fires_ok (c : Cht) (k : Mrk) (m : MM) (x y z : Nat) (hm : m.Six) (h1 : x ≠ y) (h2 : x ≠ z) (h3 : y ≠ z) (hc : c.Sm) (hk : k.on.length ≤ 1099511627776) (hg : ∀ i, i < c.ts.length → (c.ts.getD i default).Go k.on.length) :
    CallF Tryz.prog 80 [.agg c.cs, .agg k.cs, .agg (ocs x y z)] (m.ol x y z) 0 (fun _ o => o = { rs := [.rows 3 (rowsI (fires m c k.on))] }) := by
  have hts := hc.ts
  refine callF_ofR Tryz.func80 rfl Tryz.ntmps80 (by simp) T_ ?_
  intro f0 B Q hhid hQ
  refine wpM_seq ?_
  refine wpM_regionK [3, 4, 5] rfl ?_; intro Q1 hQ1
  refine S_ ?_
  refine hQ1 _ _ ?_; clear hQ1 Q1
  refine S_ ?_
  refine wpM_seq ?_
  refine wpM_regionK [3, 5, 7] rfl ?_; intro Q1 hQ1
  refine S_ ?_
  refine hQ1 _ _ ?_; clear hQ1 Q1
  refine S_ ?_
  refine wpM_seq ?_
  refine wpM_regionK [3, 5, 7, 8] rfl ?_; intro Q1 hQ1
  refine S_ ?_
  refine hQ1 _ _ ?_; clear hQ1 Q1
  refine S_ ?_
  refine wpM_seq ?_
  refine wpM_seq ?_
  refine wpM_regionK [3, 5, 7, 8, 9] rfl ?_; intro Q1 hQ1
  refine S_ ?_
  refine hQ1 _ _ ?_; clear hQ1 Q1
  refine S_ ?_
  refine wpM_block ?_
  refine wpM_loopS (fun s n s' => ∃ (i M idf ido : Nat), i + n = c.ts.length ∧ B + 3 ≤ idf ∧ idf < M ∧ B + 3 ≤ ido ∧ ido < M ∧ ido ≠ idf ∧ s' = { s with env := setE 9 (.int .i64 (i : Nat)) (setE 8 (.sl 3 ido 0 (fpre m c k.on i).2.length) (setE 7 (.sl 4 idf 0 (fpre m c k.on i).1.length) s.env)), l := [(ido, .cells 3 (ints (fpre m c k.on i).2)), (idf, .cells 4 (bls (fpre m c k.on i).1)), (B + 2, .cells 32 (ocs x y z)), (B + 1, .cells 29 k.cs), (B, .cells 26 c.cs)], M := M }) (c.ts.length) ?_ ?_
  ·
    refine .of' _ _ ⟨0, B + 6, B + 4, B + 5, by omega, by omega, by omega, by omega, by omega, by omega, rfl⟩ ?_ ?_ ?_ <;> (first | (simp -implicitDefEqProofs (disch := omega) only [go_sem, PV.int.injEq, Int.natCast_add, Int.natCast_one, Int.natCast_zero, true_or, le_yes]; done) | rfl | trivial | (simp -implicitDefEqProofs (disch := omega) only [go_sem, PV.int.injEq, Int.natCast_add, Int.natCast_one, Int.natCast_zero, true_or]; simp; done) | (simp; done))
  rintro n s' ⟨i, M, idf, ido, hi, hf1, hf2, ho1, ho2, hne, rfl⟩
  try refine S_ ?_
  refine wpM_seq ?_
  refine wpM_seq ?_
  refine wpM_regionK [3, 5, 7, 8, 9, 21] rfl ?_; intro Q1 hQ1
  refine S_ ?_
  refine hQ1 _ _ ?_; clear hQ1 Q1
  refine S_ ?_
  refine wpM_condK ?_
  refine S_ ?_
  refine ⟨fun hc0 => ?_, fun hc0 => ?_⟩
  ·
    have hl0 : i < c.ts.length := by omega
    have hlen := fpre_len m c k.on i
    have hgo := hg i hl0
    have ht := hc.t i hl0
    have hsm := ht.fr
    refine wpM_skip ?_
    refine S_ ?_
    refine wpM_seq ?_
    refine wpM_block ?_
    refine wpM_seq ?_
    refine wpM_regionK [3, 5, 7, 8, 9, 10] rfl ?_; intro Q1 hQ1
    refine S_ ?_
    refine hQ1 _ _ ?_; clear hQ1 Q1
    refine S_ ?_
    refine wpM_seq ?_
    refine wpM_seq ?_
    refine wpM_regionK [3, 5, 7, 8, 9, 10, 41] rfl ?_; intro Q1 hQ1
    refine SD_ ?_
    refine call_rs (allOn_okO idf (fpre m c k.on i).1 (c.ts.getD i default).fr hsm (by rw [hlen.1]; exact hgo.fr)) T_ Tryz.call126 rfl rfl rfl (by first | rfl | simp -implicitDefEqProofs (disch := omega) only [go_sem] | (simp -implicitDefEqProofs (disch := omega) only [go_sem]; rfl)) ?_
    refine SD_ ?_
    refine callG_r (fun hb => of_okO m hm h1 h2 h3 (c.ts.getD i default).w hgo.w) (hidden_f hhid (by simp -implicitDefEqProofs (disch := omega) only [go_sem, true_or])) Tryz.call127 rfl rfl (fun hb => by simp -implicitDefEqProofs (disch := omega) only [go_sem]) (fun hb => by first | rfl | simp -implicitDefEqProofs (disch := omega) only [go_sem, hb, gd_of hb] | (simp -implicitDefEqProofs (disch := omega) only [go_sem, hb, gd_of hb]; rfl)) ?_
    refine SD_ ?_
    first | refine callG_p (fun hb => on_ok ((c.ts.getD i default).w.of m)) Tryz.call106 rfl rfl (fun hb => by simp -implicitDefEqProofs (disch := omega) only [go_sem]) (fun hb => by first | rfl | (simp -implicitDefEqProofs (disch := omega) only [go_sem, hb, gd_of hb] <;> rfl)) ?_ | refine call_p (on_ok ((c.ts.getD i default).w.of m)) Tryz.call106 rfl rfl rfl (by first | rfl | (simp -implicitDefEqProofs (disch := omega) only [go_sem] <;> rfl)) ?_
    refine SD_ ?_
    refine hQ1 _ _ ?_; clear hQ1 Q1
    refine S_ ?_
    refine wpM_condK ?_
    refine S_ ?_
    refine ⟨fun hc1 => ?_, fun hc1 => ?_⟩
    ·
      refine wpM_exit ?_
      refine S_ ?_
      refine wpM_regionK [3, 5, 7, 8, 9] rfl ?_; intro Q1 hQ1
      refine S_ ?_
      refine hQ1 _ _ ?_; clear hQ1 Q1
      refine S_ ?_
      first
      | (have hst : fpre m c k.on (i + 1) = fpre m c k.on i := by rw [fpre_succ, fstep, if_pos hc1]
         refine .of' _ _ ⟨n - 1, by omega, i + 1, M + 1, idf, ido, by omega, hf1, by omega, ho1, by omega, hne, rfl⟩ ?_ ?_ ?_ <;> (try rw [hst]) <;> (first | (simp -implicitDefEqProofs (disch := omega) only [go_sem, PV.int.injEq, Int.natCast_add, Int.natCast_one, Int.natCast_zero, true_or, le_yes]; done) | rfl | trivial | (simp -implicitDefEqProofs (disch := omega) only [go_sem, PV.int.injEq, Int.natCast_add, Int.natCast_one, Int.natCast_zero, true_or]; simp; done) | (simp; done)))
      | (have hje : j = (c.ts.getD i default).fr.length := by omega
         have hst : fpre m c k.on (i + 1) = (clr false (fpre m c k.on i).1 (c.ts.getD i default).fr, (fpre m c k.on i).2 ++ [(i : Int)]) := by rw [fpre_succ, fstep, if_neg (by rw [hc1]; simp)]
         rw [hje, List.take_of_length_le (Nat.le_refl _)]
         refine .of' _ _ ⟨n - 1, by omega, i + 1, M + 3, idf, M + 2, by omega, hf1, by omega, by omega, by omega, by omega, rfl⟩ ?_ ?_ ?_ <;> (try rw [hst]) <;> (first | (simp -implicitDefEqProofs (disch := omega) only [go_sem, PV.int.injEq, Int.natCast_add, Int.natCast_one, Int.natCast_zero, true_or, le_yes]; done) | rfl | trivial | (simp -implicitDefEqProofs (disch := omega) only [go_sem, PV.int.injEq, Int.natCast_add, Int.natCast_one, Int.natCast_zero, true_or]; simp; done) | (simp; done)))
    refine wpM_skip ?_
    refine S_ ?_
    refine wpM_seq ?_
    refine wpM_seq ?_
    refine wpM_regionK [3, 5, 7, 8, 9, 10, 11] rfl ?_; intro Q1 hQ1
    refine S_ ?_
    refine hQ1 _ _ ?_; clear hQ1 Q1
    refine S_ ?_
    refine wpM_block ?_
    refine wpM_loopS (fun s n s' => ∃ (j : Nat), j + n = (c.ts.getD i default).fr.length ∧ s' = { s with env := setE 11 (.int .i64 (j : Nat)) s.env, l := setl idf (.cells 4 (bls (clr false (fpre m c k.on i).1 ((c.ts.getD i default).fr.take j)))) s.l }) ((c.ts.getD i default).fr.length) ?_ ?_
    ·
      refine .of' _ _ ⟨0, by omega, rfl⟩ ?_ ?_ ?_ <;> (first | (simp -implicitDefEqProofs (disch := omega) only [go_sem, PV.int.injEq, Int.natCast_add, Int.natCast_one, Int.natCast_zero, true_or, le_yes]; done) | rfl | trivial | (simp -implicitDefEqProofs (disch := omega) only [go_sem, PV.int.injEq, Int.natCast_add, Int.natCast_one, Int.natCast_zero, true_or]; simp; done) | (simp; done))
    rintro n1 s' ⟨j, hj, rfl⟩
    try refine S_ ?_
    refine wpM_seq ?_
    refine wpM_seq ?_
    refine wpM_regionK [3, 5, 7, 8, 9, 10, 11, 46] rfl ?_; intro Q1 hQ1
    refine S_ ?_
    refine hQ1 _ _ ?_; clear hQ1 Q1
    refine S_ ?_
    refine wpM_condK ?_
    refine S_ ?_
    refine ⟨fun hc2 => ?_, fun hc2 => ?_⟩
    ·
      have hl1 : j < (c.ts.getD i default).fr.length := by omega
      have hb1 := hgo.fr j hl1
      have hcl : (clr false (fpre m c k.on i).1 ((c.ts.getD i default).fr.take j)).length = k.on.length := by rw [clr_len]; exact hlen.1
      refine wpM_skip ?_
      refine S_ ?_
      refine wpM_seq ?_
      refine wpM_block ?_
      refine wpM_regionK [3, 5, 7, 8, 9, 10, 11] rfl ?_; intro Q1 hQ1
      refine S_ ?_
      refine hQ1 _ _ ?_; clear hQ1 Q1
      refine S_ ?_
      refine wpM_regionK [3, 5, 7, 8, 9, 10, 11] rfl ?_; intro Q1 hQ1
      refine S_ ?_
      refine hQ1 _ _ ?_; clear hQ1 Q1
      refine S_ ?_
      refine .of' _ _ ⟨n1 - 1, by omega, j + 1, by omega, rfl⟩ ?_ ?_ ?_
      all_goals (try rw [clr_take _ _ _ _ hl1])
      all_goals (first | (simp -implicitDefEqProofs (disch := omega) only [go_sem, PV.int.injEq, Int.natCast_add, Int.natCast_one, Int.natCast_zero, true_or, le_yes]; done) | rfl | trivial | (simp -implicitDefEqProofs (disch := omega) only [go_sem, PV.int.injEq, Int.natCast_add, Int.natCast_one, Int.natCast_zero, true_or]; simp; done) | (simp; done))
    refine wpM_exit ?_
    refine S_ ?_
    refine wpM_regionK [3, 5, 7, 8, 9] rfl ?_; intro Q1 hQ1
    refine S_ ?_
    refine hQ1 _ _ ?_; clear hQ1 Q1
    refine S_ ?_
    refine wpM_regionK [3, 5, 7, 8, 9] rfl ?_; intro Q1 hQ1
    refine S_ ?_
    refine hQ1 _ _ ?_; clear hQ1 Q1
    refine S_ ?_
    first
    | (have hst : fpre m c k.on (i + 1) = fpre m c k.on i := by rw [fpre_succ, fstep, if_pos hc1]
       refine .of' _ _ ⟨n - 1, by omega, i + 1, M + 1, idf, ido, by omega, hf1, by omega, ho1, by omega, hne, rfl⟩ ?_ ?_ ?_ <;> (try rw [hst]) <;> (first | (simp -implicitDefEqProofs (disch := omega) only [go_sem, PV.int.injEq, Int.natCast_add, Int.natCast_one, Int.natCast_zero, true_or, le_yes]; done) | rfl | trivial | (simp -implicitDefEqProofs (disch := omega) only [go_sem, PV.int.injEq, Int.natCast_add, Int.natCast_one, Int.natCast_zero, true_or]; simp; done) | (simp; done)))
    | (have hje : j = (c.ts.getD i default).fr.length := by omega
       have hst : fpre m c k.on (i + 1) = (clr false (fpre m c k.on i).1 (c.ts.getD i default).fr, (fpre m c k.on i).2 ++ [(i : Int)]) := by rw [fpre_succ, fstep, if_neg (by rw [hc1]; simp)]
       rw [hje, List.take_of_length_le (Nat.le_refl _)]
       refine .of' _ _ ⟨n - 1, by omega, i + 1, M + 3, idf, M + 2, by omega, hf1, by omega, by omega, by omega, by omega, rfl⟩ ?_ ?_ ?_ <;> (try rw [hst]) <;> (first | (simp -implicitDefEqProofs (disch := omega) only [go_sem, PV.int.injEq, Int.natCast_add, Int.natCast_one, Int.natCast_zero, true_or, le_yes]; done) | rfl | trivial | (simp -implicitDefEqProofs (disch := omega) only [go_sem, PV.int.injEq, Int.natCast_add, Int.natCast_one, Int.natCast_zero, true_or]; simp; done) | (simp; done)))
  refine wpM_exit ?_
  refine S_ ?_
  refine wpM_seq ?_
  have hie : i = c.ts.length := by omega
  refine wpM_frz [ido] [(3, ido, 0, (fpre m c k.on i).2.length, rowsI (fpre m c k.on i).2)] (by intro q hq; simp at hq; subst hq; simp -implicitDefEqProofs (disch := omega) only [go_sem]) (by intro q hq; simp only [List.mem_cons, List.not_mem_nil, or_false] at hq; subst hq; exact ⟨by simp, rowsOf_ints (T := 3) T_⟩) ?_
  simp -implicitDefEqProofs (disch := omega) only [go_sem]
  refine wpM_regionK [6] rfl ?_; intro Q1 hQ1
  refine S_ ?_
  refine hQ1 _ _ ?_; clear hQ1 Q1
  refine S_ ?_
  refine wpM_ret ?_
  try refine S_ ?_
  refine hQ _ _ rfl rfl rfl (by simp -implicitDefEqProofs (disch := omega) only [go_sem, le_yes, true_or]) ?_ (.inl rfl)
  rw [Tryz.results80]
  try simp -implicitDefEqProofs (disch := omega) only [go_sem, List.cons.injEq, PV.bool.injEq, PV.int.injEq, PV.agg.injEq]
  all_goals
    rw [hie]; rfl
end Go.Proofs.YtnilkkcobeaglaaGreat
namespace Go.Proofs.YtnilkkcobeaglaaGreat
open Go Sg
set_option maxRecDepth 100000
set_option linter.unusedSimpArgs false
set_option linter.unusedVariables false
set_option maxHeartbeats 4000000
@[go_sem low] theorem rep_bls (n : Nat) : rep n [.bool false] = bls (List.replicate n false) := by
  induction n with
  | zero => rfl
  | succ n ih => simp only [rep, bls, List.replicate_succ, List.map_cons, List.flatten_cons] at ih ⊢; rw [ih]; rfl
@[go_sem low] theorem rep_ints (n : Nat) : rep n [.int .i64 0] = ints (List.replicate n 0) := by
  induction n with
  | zero => rfl
  | succ n ih => simp only [rep, ints, List.replicate_succ, List.map_cons, List.flatten_cons] at ih ⊢; rw [ih]; rfl
attribute [go_sem] List.length_replicate
theorem rowsOf_bls' {f : Nat → Option AObj} {id n : Nat} {T : TypeId} (l : List Bool) (h : f id = some (.cells T (bls l))) (hn : l.length = n) : RowsOf Tryz.prog f 4 id 0 n (rowsB l) := by subst hn; exact rowsOf_bls h
theorem frz_bls {id n : Nat} {f : Nat → Option AObj} {T : TypeId} {l : List Bool} (h : f id = some (.cells T (bls l))) (hn : l.length = n) : ∀ x ∈ [((4 : TypeId), id, 0, n, rowsB l)], x.2.1 ∈ [id] ∧ RowsOf Tryz.prog f x.1 x.2.1 x.2.2.1 x.2.2.2.1 x.2.2.2.2 := by
  intro x hx
  simp only [List.mem_cons, List.not_mem_nil, or_false] at hx
  subst hx; subst hn
  exact ⟨by simp, rowsOf_bls h⟩
def Fs (c : Cht) (fs : List Int) : Prop := ∀ i, i < fs.length → 0 ≤ fs.getD i 0 ∧ fs.getD i 0 < (c.ts.length : Int)
def spread (b : Bool) (pl : Trn → List Int) (c : Cht) (f : List Bool) (fs : List Int) : List Bool := fs.foldl (fun f i => clr b f (pl (c.ts.getD i.toNat default))) f
@[go_sem] theorem spread_nil (b : Bool) (pl : Trn → List Int) (c : Cht) (f : List Bool) : spread b pl c f [] = f := rfl
theorem spread_take (b : Bool) (pl : Trn → List Int) (c : Cht) (f : List Bool) (l : List Int) (i : Nat) (h : i < l.length) : spread b pl c f (l.take (i + 1)) = clr b (spread b pl c f (l.take i)) (pl (c.ts.getD (l.getD i 0).toNat default)) := by
  rw [List.take_succ_eq_append_getElem h, spread, List.foldl_append]
  simp [List.getD, h, spread]
theorem spread_len (b : Bool) (pl : Trn → List Int) (c : Cht) (l : List Int) : ∀ f : List Bool, (spread b pl c f l).length = f.length := by
  induction l with
  | nil => intro f; rfl
  | cons x l ih => intro f; simp only [spread, List.foldl_cons] at ih ⊢; rw [ih, clr_len]
def begins (c : Cht) (fs : List Int) : List Bool := spread true Trn.to' c (List.replicate c.steps.toNat false) fs
theorem begins_ok (c : Cht) (fs : List Int) (hc : c.Sm) (hs : 0 ≤ c.steps ∧ c.steps ≤ 1099511627776) (hfl : fs.length ≤ 1099511627776) (hfs : Fs c fs) (hg : ∀ i, i < c.ts.length → (c.ts.getD i default).Go c.steps.toNat) :
    PureF Tryz.prog 81 [.agg c.cs, .rows 3 (rowsI fs)] [.rows 4 (rowsB (begins c fs))] := by
  have hts := hc.ts
  refine pureF_of Tryz.func81 rfl Tryz.ntmps81 (by simp) T_ ?_
  intro f0 B Q hQ
  refine wpM_seq ?_
  refine wpM_regionK [1, 2] rfl ?_; intro Q1 hQ1
  refine S_ ?_
  refine hQ1 _ _ ?_; clear hQ1 Q1
  refine S_ ?_
  refine wpM_seq ?_
  refine wpM_regionK [1, 2, 5] rfl ?_; intro Q1 hQ1
  refine S_ ?_
  refine hQ1 _ _ ?_; clear hQ1 Q1
  refine S_ ?_
  refine wpM_seq ?_
  refine wpM_seq ?_
  refine wpM_regionK [1, 2, 5, 6] rfl ?_; intro Q1 hQ1
  refine S_ ?_
  refine hQ1 _ _ ?_; clear hQ1 Q1
  refine S_ ?_
  refine wpM_block ?_
  refine wpM_loopS (fun s n s' => ∃ (i0 M0 : Nat) , i0 + n = fs.length ∧ s.M ≤ M0 ∧ (Tr i0) ∧ s' = { s with env := setE 6 (.int .i64 (i0 : Nat)) s.env, l := setl (B + 1) (.cells 4 (bls (spread true Trn.to' c (List.replicate c.steps.toNat false) (fs.take i0)))) s.l, M := M0 }) (fs.length) ?_ ?_
  ·
    refine .of' _ _ ⟨0, _, by omega, Nat.le_refl _, trivial, rfl⟩ ?_ ?_ ?_ <;> (first | (simp -implicitDefEqProofs (disch := omega) only [go_sem, PV.int.injEq, Int.natCast_add, Int.natCast_one, Int.natCast_zero, true_or, le_yes]; done) | rfl | trivial | (simp -implicitDefEqProofs (disch := omega) only [go_sem, PV.int.injEq, Int.natCast_add, Int.natCast_one, Int.natCast_zero, true_or]; simp; done) | (simp; done))
  rintro n0 s' ⟨i0, M0, hi0, hM0, hv0, rfl⟩
  try dsimp only at hM0
  try refine S_ ?_
  refine wpM_seq ?_
  refine wpM_seq ?_
  refine wpM_regionK [1, 2, 5, 6, 15] rfl ?_; intro Q1 hQ1
  refine S_ ?_
  refine hQ1 _ _ ?_; clear hQ1 Q1
  refine S_ ?_
  refine wpM_condK ?_
  refine S_ ?_
  refine ⟨fun hc0 => ?_, fun hc0 => ?_⟩
  ·
    have hl0 : i0 < fs.length := by omega
    have hf := hfs i0 hl0
    have hgo := hg _ (show (fs.getD i0 0).toNat < c.ts.length by omega)
    have hsm := (hc.t _ (show (fs.getD i0 0).toNat < c.ts.length by omega)).to'
    have hsl : (spread true Trn.to' c (List.replicate c.steps.toNat false) (fs.take i0)).length = c.steps.toNat := by rw [spread_len, List.length_replicate]
    generalize hF : spread true Trn.to' c (List.replicate c.steps.toNat false) (fs.take i0) = F at *
    refine wpM_skip ?_
    refine S_ ?_
    refine wpM_seq ?_
    refine wpM_block ?_
    refine wpM_seq ?_
    refine wpM_keep [1, 2, 5, 6, 7] (wpM_dr mixed 1 1 [B, M0] [⟨[2], [], [], [], false⟩, ⟨[18], [0], [], [], false⟩, ⟨[1], [], [], [], false⟩, ⟨[6], [], [], [], false⟩, ⟨[20, 21], [], [], [], false⟩, ⟨[22], [], [], [], false⟩, ⟨[19, 23], [], [], [], false⟩, ⟨[24], [], [], [], false⟩, ⟨[], [], [], [1], false⟩, ⟨[7, 25], [1], [1], [], false⟩] [0, 1, 2, 3, 4, 5, 6, 7, 8, 9] [[], [0], [], [], [2, 3], [2, 3, 4], [0, 1, 2, 3, 4, 5], [0, 1, 2, 3, 4, 5, 6], [], [0, 1, 2, 3, 4, 5, 6, 7, 8]] 2 rfl (by simp; omega) (by decide +kernel) (by simp) ?_)
    intro O A K hO hA hK; simp only [atL_cons, atL_nil, Nat.reduceAdd, Nat.zero_add] at hO hA
    refine SO_ ?_
    refine hK _ ?_; clear hK K hO hA O A
    refine S_ ?_
    refine wpM_seq ?_
    refine wpM_regionK [1, 2, 5, 6, 7, 8] rfl ?_; intro Q1 hQ1
    refine S_ ?_
    refine hQ1 _ _ ?_; clear hQ1 Q1
    refine S_ ?_
    refine wpM_block ?_
    refine wpM_loopS (fun s n s' => ∃ (i1 M1 : Nat) , i1 + n = (c.ts.getD (fs.getD i0 0).toNat default).to'.length ∧ s.M ≤ M1 ∧ (Tr i1) ∧ s' = { s with env := setE 8 (.int .i64 (i1 : Nat)) s.env, l := setl (B + 1) (.cells 4 (bls (clr true F ((c.ts.getD (fs.getD i0 0).toNat default).to'.take i1)))) s.l, M := M1 }) ((c.ts.getD (fs.getD i0 0).toNat default).to'.length) ?_ ?_
    ·
      refine .of' _ _ ⟨0, _, by omega, Nat.le_refl _, trivial, rfl⟩ ?_ ?_ ?_ <;> (first | (simp -implicitDefEqProofs (disch := omega) only [go_sem, PV.int.injEq, Int.natCast_add, Int.natCast_one, Int.natCast_zero, true_or, le_yes]; done) | rfl | trivial | (simp -implicitDefEqProofs (disch := omega) only [go_sem, PV.int.injEq, Int.natCast_add, Int.natCast_one, Int.natCast_zero, true_or]; simp; done) | (simp; done))
    rintro n1 s' ⟨i1, M1, hi1, hM1, hv1, rfl⟩
    try dsimp only at hM1
    try refine S_ ?_
    refine wpM_seq ?_
    refine wpM_seq ?_
    refine wpM_regionK [1, 2, 5, 6, 7, 8, 30] rfl ?_; intro Q1 hQ1
    refine S_ ?_
    refine hQ1 _ _ ?_; clear hQ1 Q1
    refine S_ ?_
    refine wpM_condK ?_
    refine S_ ?_
    refine ⟨fun hc1 => ?_, fun hc1 => ?_⟩
    ·
      have hl1 : i1 < (c.ts.getD (fs.getD i0 0).toNat default).to'.length := by omega
      have hb1 := hgo.to' i1 hl1
      have hcl : (clr true F ((c.ts.getD (fs.getD i0 0).toNat default).to'.take i1)).length = c.steps.toNat := by rw [clr_len]; exact hsl
      refine wpM_skip ?_
      refine S_ ?_
      refine wpM_seq ?_
      refine wpM_block ?_
      refine wpM_regionK [1, 2, 5, 6, 7, 8] rfl ?_; intro Q1 hQ1
      refine S_ ?_
      refine hQ1 _ _ ?_; clear hQ1 Q1
      refine S_ ?_
      refine wpM_regionK [1, 2, 5, 6, 7, 8] rfl ?_; intro Q1 hQ1
      refine S_ ?_
      refine hQ1 _ _ ?_; clear hQ1 Q1
      refine S_ ?_
      rw [← clr_take _ _ _ _ hl1]
      refine .of' _ _ ⟨n1 - 1, by omega, i1 + 1, _, by omega, ?_, ?_, rfl⟩ ?_ ?_ ?_
      · first | omega | (simp -implicitDefEqProofs (disch := omega) only [go_sem]; done) | (simp -implicitDefEqProofs (disch := omega) only [go_sem]; omega)
      · first | trivial | omega
      all_goals (first | (simp -implicitDefEqProofs (disch := omega) only [go_sem, PV.int.injEq, Int.natCast_add, Int.natCast_one, Int.natCast_zero, true_or, le_yes]; done) | rfl | trivial | (simp -implicitDefEqProofs (disch := omega) only [go_sem, PV.int.injEq, Int.natCast_add, Int.natCast_one, Int.natCast_zero, true_or]; simp; done) | (simp; done))
    refine wpM_exit ?_
    refine S_ ?_
    refine wpM_regionK [1, 2, 5, 6] rfl ?_; intro Q1 hQ1
    refine S_ ?_
    refine hQ1 _ _ ?_; clear hQ1 Q1
    refine S_ ?_
    have hie : i1 = (c.ts.getD (fs.getD i0 0).toNat default).to'.length := by omega
    rw [hie, List.take_of_length_le (Nat.le_refl _), ← hF, ← spread_take _ _ _ _ _ _ hl0]
    refine .of' _ _ ⟨n0 - 1, by omega, i0 + 1, _, by omega, ?_, ?_, rfl⟩ ?_ ?_ ?_
    · first | omega | (simp -implicitDefEqProofs (disch := omega) only [go_sem]; done) | (simp -implicitDefEqProofs (disch := omega) only [go_sem]; omega)
    · first | trivial | omega
    all_goals (first | (simp -implicitDefEqProofs (disch := omega) only [go_sem, PV.int.injEq, Int.natCast_add, Int.natCast_one, Int.natCast_zero, true_or, le_yes]; done) | rfl | trivial | (simp -implicitDefEqProofs (disch := omega) only [go_sem, PV.int.injEq, Int.natCast_add, Int.natCast_one, Int.natCast_zero, true_or]; simp; done) | (simp; done))
  refine wpM_exit ?_
  refine S_ ?_
  refine wpM_seq ?_
  have hie : i0 = fs.length := by omega
  rw [hie, List.take_of_length_le (Nat.le_refl _)]
  refine wpM_frz [B + 1] [(4, B + 1, 0, c.steps.toNat, rowsB (begins c fs))] (by intro q hq; simp at hq; subst hq; simp -implicitDefEqProofs (disch := omega) only [go_sem]) (frz_bls (T := 4) (by simp -implicitDefEqProofs (disch := omega) only [go_sem]; rfl) (by rw [begins, spread_len, List.length_replicate])) ?_
  simp -implicitDefEqProofs (disch := omega) only [go_sem]
  refine wpM_regionK [4] rfl ?_; intro Q1 hQ1
  refine S_ ?_
  refine hQ1 _ _ ?_; clear hQ1 Q1
  refine S_ ?_
  refine wpM_ret ?_
  try refine S_ ?_
  refine hQ _ _ rfl rfl rfl (by simp -implicitDefEqProofs (disch := omega) only [go_sem, le_yes, true_or]) ?_ (.inl rfl)
  rw [Tryz.results81]
  try simp -implicitDefEqProofs (disch := omega) only [go_sem, List.cons.injEq, PV.bool.injEq, PV.int.injEq, PV.agg.injEq]
  all_goals
    rfl
end Go.Proofs.YtnilkkcobeaglaaGreat
namespace Go.Proofs.YtnilkkcobeaglaaGreat
open Go Sg
set_option maxRecDepth 100000
set_option linter.unusedSimpArgs false
set_option linter.unusedVariables false
set_option maxHeartbeats 4000000
def goes (c : Cht) (on : List Bool) (fs : List Int) : List Bool := spread true Trn.to' c (spread false Trn.fr c on fs) fs
theorem goes_len (c : Cht) (on : List Bool) (fs : List Int) : (goes c on fs).length = on.length := by rw [goes, spread_len, spread_len]
theorem go_ok (c : Cht) (on : List Bool) (fs : List Int) (hc : c.Sm) (hon : on.length ≤ 1099511627776) (hfl : fs.length ≤ 1099511627776) (hfs : Fs c fs) (hg : ∀ i, i < c.ts.length → (c.ts.getD i default).Go on.length) :
    PureF Tryz.prog 82 [.agg c.cs, .rows 4 (rowsB on), .rows 3 (rowsI fs)] [.rows 4 (rowsB (goes c on fs))] := by
  have hts := hc.ts
  refine pureF_of Tryz.func82 rfl Tryz.ntmps82 (by simp) T_ ?_
  intro f0 B Q hQ
  refine wpM_seq ?_
  refine wpM_regionK [1, 2, 3] rfl ?_; intro Q1 hQ1
  refine S_ ?_
  refine hQ1 _ _ ?_; clear hQ1 Q1
  refine S_ ?_
  refine wpM_seq ?_
  refine wpM_regionK [2, 3, 7] rfl ?_; intro Q1 hQ1
  refine S_ ?_
  refine hQ1 _ _ ?_; clear hQ1 Q1
  refine S_ ?_
  refine wpM_seq ?_
  refine wpM_seq ?_
  refine wpM_regionK [2, 3, 7, 8] rfl ?_; intro Q1 hQ1
  refine S_ ?_
  refine hQ1 _ _ ?_; clear hQ1 Q1
  refine S_ ?_
  refine wpM_block ?_
  refine wpM_loopS (fun s n s' => ∃ (i0 M0 : Nat) , i0 + n = fs.length ∧ s.M ≤ M0 ∧ (Tr i0) ∧ s' = { s with env := setE 8 (.int .i64 (i0 : Nat)) s.env, l := setl (B + 2) (.cells 4 (bls (spread false Trn.fr c on (fs.take i0)))) s.l, M := M0 }) (fs.length) ?_ ?_
  ·
    refine .of' _ _ ⟨0, _, by omega, Nat.le_refl _, trivial, rfl⟩ ?_ ?_ ?_ <;> (first | (simp -implicitDefEqProofs (disch := omega) only [go_sem, PV.int.injEq, Int.natCast_add, Int.natCast_one, Int.natCast_zero, true_or, le_yes]; done) | rfl | trivial | (simp -implicitDefEqProofs (disch := omega) only [go_sem, PV.int.injEq, Int.natCast_add, Int.natCast_one, Int.natCast_zero, true_or]; simp; done) | (simp; done))
  rintro n0 s' ⟨i0, M0, hi0, hM0, hv0, rfl⟩
  try dsimp only at hM0
  try refine S_ ?_
  refine wpM_seq ?_
  refine wpM_seq ?_
  refine wpM_regionK [2, 3, 7, 8, 20] rfl ?_; intro Q1 hQ1
  refine S_ ?_
  refine hQ1 _ _ ?_; clear hQ1 Q1
  refine S_ ?_
  refine wpM_condK ?_
  refine S_ ?_
  refine ⟨fun hc0 => ?_, fun hc0 => ?_⟩
  ·
    have hl0 : i0 < fs.length := by omega
    have hf := hfs i0 hl0
    have hgo := hg _ (show (fs.getD i0 0).toNat < c.ts.length by omega)
    have hsm := (hc.t _ (show (fs.getD i0 0).toNat < c.ts.length by omega)).fr
    have hsl : (spread false Trn.fr c on (fs.take i0)).length = on.length := by rw [spread_len]
    generalize hF : spread false Trn.fr c on (fs.take i0) = F at *
    refine wpM_skip ?_
    refine S_ ?_
    refine wpM_seq ?_
    refine wpM_block ?_
    refine wpM_seq ?_
    refine wpM_keep [2, 3, 7, 8, 9] (wpM_dr mixed 1 1 [B, M0] [⟨[3], [], [], [], false⟩, ⟨[23], [0], [], [], false⟩, ⟨[2], [], [], [], false⟩, ⟨[8], [], [], [], false⟩, ⟨[25, 26], [], [], [], false⟩, ⟨[27], [], [], [], false⟩, ⟨[24, 28], [], [], [], false⟩, ⟨[29], [], [], [], false⟩, ⟨[], [], [], [1], false⟩, ⟨[9, 30], [1], [1], [], false⟩] [0, 1, 2, 3, 4, 5, 6, 7, 8, 9] [[], [0], [], [], [2, 3], [2, 3, 4], [0, 1, 2, 3, 4, 5], [0, 1, 2, 3, 4, 5, 6], [], [0, 1, 2, 3, 4, 5, 6, 7, 8]] 2 rfl (by simp; omega) (by decide +kernel) (by simp) ?_)
    intro O A K hO hA hK; simp only [atL_cons, atL_nil, Nat.reduceAdd, Nat.zero_add] at hO hA
    refine SO_ ?_
    refine hK _ ?_; clear hK K hO hA O A
    refine S_ ?_
    refine wpM_seq ?_
    refine wpM_regionK [2, 3, 7, 8, 9, 10] rfl ?_; intro Q1 hQ1
    refine S_ ?_
    refine hQ1 _ _ ?_; clear hQ1 Q1
    refine S_ ?_
    refine wpM_block ?_
    refine wpM_loopS (fun s n s' => ∃ (i1 M1 : Nat) , i1 + n = (c.ts.getD (fs.getD i0 0).toNat default).fr.length ∧ s.M ≤ M1 ∧ (Tr i1) ∧ s' = { s with env := setE 10 (.int .i64 (i1 : Nat)) s.env, l := setl (B + 2) (.cells 4 (bls (clr false F ((c.ts.getD (fs.getD i0 0).toNat default).fr.take i1)))) s.l, M := M1 }) ((c.ts.getD (fs.getD i0 0).toNat default).fr.length) ?_ ?_
    ·
      refine .of' _ _ ⟨0, _, by omega, Nat.le_refl _, trivial, rfl⟩ ?_ ?_ ?_ <;> (first | (simp -implicitDefEqProofs (disch := omega) only [go_sem, PV.int.injEq, Int.natCast_add, Int.natCast_one, Int.natCast_zero, true_or, le_yes]; done) | rfl | trivial | (simp -implicitDefEqProofs (disch := omega) only [go_sem, PV.int.injEq, Int.natCast_add, Int.natCast_one, Int.natCast_zero, true_or]; simp; done) | (simp; done))
    rintro n1 s' ⟨i1, M1, hi1, hM1, hv1, rfl⟩
    try dsimp only at hM1
    try refine S_ ?_
    refine wpM_seq ?_
    refine wpM_seq ?_
    refine wpM_regionK [2, 3, 7, 8, 9, 10, 35] rfl ?_; intro Q1 hQ1
    refine S_ ?_
    refine hQ1 _ _ ?_; clear hQ1 Q1
    refine S_ ?_
    refine wpM_condK ?_
    refine S_ ?_
    refine ⟨fun hc1 => ?_, fun hc1 => ?_⟩
    ·
      have hl1 : i1 < (c.ts.getD (fs.getD i0 0).toNat default).fr.length := by omega
      have hb1 := hgo.fr i1 hl1
      have hcl : (clr false F ((c.ts.getD (fs.getD i0 0).toNat default).fr.take i1)).length = on.length := by rw [clr_len]; exact hsl
      refine wpM_skip ?_
      refine S_ ?_
      refine wpM_seq ?_
      refine wpM_block ?_
      refine wpM_regionK [2, 3, 7, 8, 9, 10] rfl ?_; intro Q1 hQ1
      refine S_ ?_
      refine hQ1 _ _ ?_; clear hQ1 Q1
      refine S_ ?_
      refine wpM_regionK [2, 3, 7, 8, 9, 10] rfl ?_; intro Q1 hQ1
      refine S_ ?_
      refine hQ1 _ _ ?_; clear hQ1 Q1
      refine S_ ?_
      rw [← clr_take _ _ _ _ hl1]
      refine .of' _ _ ⟨n1 - 1, by omega, i1 + 1, _, by omega, ?_, ?_, rfl⟩ ?_ ?_ ?_
      · first | omega | (simp -implicitDefEqProofs (disch := omega) only [go_sem]; done) | (simp -implicitDefEqProofs (disch := omega) only [go_sem]; omega)
      · first | trivial | omega
      all_goals (first | (simp -implicitDefEqProofs (disch := omega) only [go_sem, PV.int.injEq, Int.natCast_add, Int.natCast_one, Int.natCast_zero, true_or, le_yes]; done) | rfl | trivial | (simp -implicitDefEqProofs (disch := omega) only [go_sem, PV.int.injEq, Int.natCast_add, Int.natCast_one, Int.natCast_zero, true_or]; simp; done) | (simp; done))
    refine wpM_exit ?_
    refine S_ ?_
    refine wpM_regionK [2, 3, 7, 8] rfl ?_; intro Q1 hQ1
    refine S_ ?_
    refine hQ1 _ _ ?_; clear hQ1 Q1
    refine S_ ?_
    have hie : i1 = (c.ts.getD (fs.getD i0 0).toNat default).fr.length := by omega
    rw [hie, List.take_of_length_le (Nat.le_refl _), ← hF, ← spread_take _ _ _ _ _ _ hl0]
    refine .of' _ _ ⟨n0 - 1, by omega, i0 + 1, _, by omega, ?_, ?_, rfl⟩ ?_ ?_ ?_
    · first | omega | (simp -implicitDefEqProofs (disch := omega) only [go_sem]; done) | (simp -implicitDefEqProofs (disch := omega) only [go_sem]; omega)
    · first | trivial | omega
    all_goals (first | (simp -implicitDefEqProofs (disch := omega) only [go_sem, PV.int.injEq, Int.natCast_add, Int.natCast_one, Int.natCast_zero, true_or, le_yes]; done) | rfl | trivial | (simp -implicitDefEqProofs (disch := omega) only [go_sem, PV.int.injEq, Int.natCast_add, Int.natCast_one, Int.natCast_zero, true_or]; simp; done) | (simp; done))
  refine wpM_exit ?_
  refine S_ ?_
  refine wpM_seq ?_
  refine wpM_seq ?_
  have hie0 : i0 = fs.length := by omega
  rw [hie0, List.take_of_length_le (Nat.le_refl _)]
  refine wpM_regionK [2, 3, 7, 11] rfl ?_; intro Q1 hQ1
  refine S_ ?_
  refine hQ1 _ _ ?_; clear hQ1 Q1
  refine S_ ?_
  refine wpM_block ?_
  refine wpM_loopS (fun s n s' => ∃ (i2 M2 : Nat) , i2 + n = fs.length ∧ s.M ≤ M2 ∧ (Tr i2) ∧ s' = { s with env := setE 11 (.int .i64 (i2 : Nat)) s.env, l := setl (B + 2) (.cells 4 (bls (spread true Trn.to' c (spread false Trn.fr c on fs) (fs.take i2)))) s.l, M := M2 }) (fs.length) ?_ ?_
  ·
    refine .of' _ _ ⟨0, _, by omega, Nat.le_refl _, trivial, rfl⟩ ?_ ?_ ?_ <;> (first | (simp -implicitDefEqProofs (disch := omega) only [go_sem, PV.int.injEq, Int.natCast_add, Int.natCast_one, Int.natCast_zero, true_or, le_yes]; done) | rfl | trivial | (simp -implicitDefEqProofs (disch := omega) only [go_sem, PV.int.injEq, Int.natCast_add, Int.natCast_one, Int.natCast_zero, true_or]; simp; done) | (simp; done))
  rintro n2 s' ⟨i2, M2, hi2, hM2, hv2, rfl⟩
  try dsimp only at hM2
  try refine S_ ?_
  refine wpM_seq ?_
  refine wpM_seq ?_
  refine wpM_regionK [2, 3, 7, 11, 48] rfl ?_; intro Q1 hQ1
  refine S_ ?_
  refine hQ1 _ _ ?_; clear hQ1 Q1
  refine S_ ?_
  refine wpM_condK ?_
  refine S_ ?_
  refine ⟨fun hc2 => ?_, fun hc2 => ?_⟩
  ·
    have hl2 : i2 < fs.length := by omega
    have hf := hfs i2 hl2
    have hgo := hg _ (show (fs.getD i2 0).toNat < c.ts.length by omega)
    have hsm := (hc.t _ (show (fs.getD i2 0).toNat < c.ts.length by omega)).to'
    have hsl : (spread true Trn.to' c (spread false Trn.fr c on fs) (fs.take i2)).length = on.length := by rw [spread_len, spread_len]
    generalize hF : spread true Trn.to' c (spread false Trn.fr c on fs) (fs.take i2) = F at *
    refine wpM_skip ?_
    refine S_ ?_
    refine wpM_seq ?_
    refine wpM_block ?_
    refine wpM_seq ?_
    refine wpM_keep [2, 3, 7, 11, 12] (wpM_dr mixed 1 1 [B, M2] [⟨[3], [], [], [], false⟩, ⟨[51], [0], [], [], false⟩, ⟨[2], [], [], [], false⟩, ⟨[11], [], [], [], false⟩, ⟨[53, 54], [], [], [], false⟩, ⟨[55], [], [], [], false⟩, ⟨[52, 56], [], [], [], false⟩, ⟨[57], [], [], [], false⟩, ⟨[], [], [], [1], false⟩, ⟨[12, 58], [1], [1], [], false⟩] [0, 1, 2, 3, 4, 5, 6, 7, 8, 9] [[], [0], [], [], [2, 3], [2, 3, 4], [0, 1, 2, 3, 4, 5], [0, 1, 2, 3, 4, 5, 6], [], [0, 1, 2, 3, 4, 5, 6, 7, 8]] 2 rfl (by simp; omega) (by decide +kernel) (by simp) ?_)
    intro O A K hO hA hK; simp only [atL_cons, atL_nil, Nat.reduceAdd, Nat.zero_add] at hO hA
    refine SO_ ?_
    refine hK _ ?_; clear hK K hO hA O A
    refine S_ ?_
    refine wpM_seq ?_
    refine wpM_regionK [2, 3, 7, 11, 12, 13] rfl ?_; intro Q1 hQ1
    refine S_ ?_
    refine hQ1 _ _ ?_; clear hQ1 Q1
    refine S_ ?_
    refine wpM_block ?_
    refine wpM_loopS (fun s n s' => ∃ (i3 M3 : Nat) , i3 + n = (c.ts.getD (fs.getD i2 0).toNat default).to'.length ∧ s.M ≤ M3 ∧ (Tr i3) ∧ s' = { s with env := setE 13 (.int .i64 (i3 : Nat)) s.env, l := setl (B + 2) (.cells 4 (bls (clr true F ((c.ts.getD (fs.getD i2 0).toNat default).to'.take i3)))) s.l, M := M3 }) ((c.ts.getD (fs.getD i2 0).toNat default).to'.length) ?_ ?_
    ·
      refine .of' _ _ ⟨0, _, by omega, Nat.le_refl _, trivial, rfl⟩ ?_ ?_ ?_ <;> (first | (simp -implicitDefEqProofs (disch := omega) only [go_sem, PV.int.injEq, Int.natCast_add, Int.natCast_one, Int.natCast_zero, true_or, le_yes]; done) | rfl | trivial | (simp -implicitDefEqProofs (disch := omega) only [go_sem, PV.int.injEq, Int.natCast_add, Int.natCast_one, Int.natCast_zero, true_or]; simp; done) | (simp; done))
    rintro n3 s' ⟨i3, M3, hi3, hM3, hv3, rfl⟩
    try dsimp only at hM3
    try refine S_ ?_
    refine wpM_seq ?_
    refine wpM_seq ?_
    refine wpM_regionK [2, 3, 7, 11, 12, 13, 63] rfl ?_; intro Q1 hQ1
    refine S_ ?_
    refine hQ1 _ _ ?_; clear hQ1 Q1
    refine S_ ?_
    refine wpM_condK ?_
    refine S_ ?_
    refine ⟨fun hc3 => ?_, fun hc3 => ?_⟩
    ·
      have hl3 : i3 < (c.ts.getD (fs.getD i2 0).toNat default).to'.length := by omega
      have hb1 := hgo.to' i3 hl3
      have hcl : (clr true F ((c.ts.getD (fs.getD i2 0).toNat default).to'.take i3)).length = on.length := by rw [clr_len]; exact hsl
      refine wpM_skip ?_
      refine S_ ?_
      refine wpM_seq ?_
      refine wpM_block ?_
      refine wpM_regionK [2, 3, 7, 11, 12, 13] rfl ?_; intro Q1 hQ1
      refine S_ ?_
      refine hQ1 _ _ ?_; clear hQ1 Q1
      refine S_ ?_
      refine wpM_regionK [2, 3, 7, 11, 12, 13] rfl ?_; intro Q1 hQ1
      refine S_ ?_
      refine hQ1 _ _ ?_; clear hQ1 Q1
      refine S_ ?_
      rw [← clr_take _ _ _ _ hl3]
      refine .of' _ _ ⟨n3 - 1, by omega, i3 + 1, _, by omega, ?_, ?_, rfl⟩ ?_ ?_ ?_
      · first | omega | (simp -implicitDefEqProofs (disch := omega) only [go_sem]; done) | (simp -implicitDefEqProofs (disch := omega) only [go_sem]; omega)
      · first | trivial | omega
      all_goals (first | (simp -implicitDefEqProofs (disch := omega) only [go_sem, PV.int.injEq, Int.natCast_add, Int.natCast_one, Int.natCast_zero, true_or, le_yes]; done) | rfl | trivial | (simp -implicitDefEqProofs (disch := omega) only [go_sem, PV.int.injEq, Int.natCast_add, Int.natCast_one, Int.natCast_zero, true_or]; simp; done) | (simp; done))
    refine wpM_exit ?_
    refine S_ ?_
    refine wpM_regionK [2, 3, 7, 11] rfl ?_; intro Q1 hQ1
    refine S_ ?_
    refine hQ1 _ _ ?_; clear hQ1 Q1
    refine S_ ?_
    have hie : i3 = (c.ts.getD (fs.getD i2 0).toNat default).to'.length := by omega
    rw [hie, List.take_of_length_le (Nat.le_refl _), ← hF, ← spread_take _ _ _ _ _ _ hl2]
    refine .of' _ _ ⟨n2 - 1, by omega, i2 + 1, _, by omega, ?_, ?_, rfl⟩ ?_ ?_ ?_
    · first | omega | (simp -implicitDefEqProofs (disch := omega) only [go_sem]; done) | (simp -implicitDefEqProofs (disch := omega) only [go_sem]; omega)
    · first | trivial | omega
    all_goals (first | (simp -implicitDefEqProofs (disch := omega) only [go_sem, PV.int.injEq, Int.natCast_add, Int.natCast_one, Int.natCast_zero, true_or, le_yes]; done) | rfl | trivial | (simp -implicitDefEqProofs (disch := omega) only [go_sem, PV.int.injEq, Int.natCast_add, Int.natCast_one, Int.natCast_zero, true_or]; simp; done) | (simp; done))
  refine wpM_exit ?_
  refine S_ ?_
  refine wpM_seq ?_
  have hie : i2 = fs.length := by omega
  rw [hie, List.take_of_length_le (Nat.le_refl _)]
  refine wpM_frz [B + 2] [(4, B + 2, 0, on.length, rowsB (goes c on fs))] (by intro q hq; simp at hq; subst hq; simp -implicitDefEqProofs (disch := omega) only [go_sem]) (frz_bls (T := 4) (by simp -implicitDefEqProofs (disch := omega) only [go_sem]; rfl) (goes_len c on fs)) ?_
  simp -implicitDefEqProofs (disch := omega) only [go_sem]
  refine wpM_regionK [6] rfl ?_; intro Q1 hQ1
  refine S_ ?_
  refine hQ1 _ _ ?_; clear hQ1 Q1
  refine S_ ?_
  refine wpM_ret ?_
  try refine S_ ?_
  refine hQ _ _ rfl rfl rfl (by simp -implicitDefEqProofs (disch := omega) only [go_sem, le_yes, true_or]) ?_ (.inl rfl)
  rw [Tryz.results82]
  try simp -implicitDefEqProofs (disch := omega) only [go_sem, List.cons.injEq, PV.bool.injEq, PV.int.injEq, PV.agg.injEq]
  all_goals
    rfl
def kset (v : Bool) (kk : Int) (on : List Bool) (f : List Bool) (l : List GAct) : List Bool := l.foldl (fun f a => if a.kind == kk && on.getD a.step.toNat false then f.set a.to'.at'.toNat v else f) f
@[go_sem] theorem kset_nil (v : Bool) (kk : Int) (on : List Bool) (f : List Bool) : kset v kk on f [] = f := rfl
theorem kset_take (v : Bool) (kk : Int) (on : List Bool) (f : List Bool) (l : List GAct) (i : Nat) (h : i < l.length) : kset v kk on f (l.take (i + 1)) = if (l.getD i default).kind == kk && on.getD (l.getD i default).step.toNat false then (kset v kk on f (l.take i)).set (l.getD i default).to'.at'.toNat v else kset v kk on f (l.take i) := by
  rw [List.take_succ_eq_append_getElem h, kset, List.foldl_append]
  simp [List.getD, h, kset]
theorem kset_len (v : Bool) (kk : Int) (on : List Bool) (l : List GAct) : ∀ f : List Bool, (kset v kk on f l).length = f.length := by
  induction l with
  | nil => intro f; rfl
  | cons a l ih =>
    intro f
    simp only [kset, List.foldl_cons] at ih ⊢
    rw [ih]; split <;> simp
def keptM (c : Cht) (kp on : List Bool) : List Bool := kset false 3 on (kset true 2 on kp c.as') c.as'
theorem keptM_len (c : Cht) (kp on : List Bool) : (keptM c kp on).length = kp.length := by rw [keptM, kset_len, kset_len]
def GAct.In (n : Nat) (a : GAct) : Prop := 0 ≤ a.step ∧ a.step < (n : Int) ∧ 0 ≤ a.to'.at' ∧ a.to'.at' < 6
theorem kept_ok (c : Cht) (kp on : List Bool) (hc : c.Sm) (hkp : kp.length = 6) (hon : on.length ≤ 1099511627776) (ha : ∀ i, i < c.as'.length → (c.as'.getD i default).In on.length) :
    PureF Tryz.prog 83 [.agg c.cs, .rows 4 (rowsB kp), .rows 4 (rowsB on)] [.rows 4 (rowsB (keptM c kp on))] := by
  have has := hc.as'
  refine pureF_of Tryz.func83 rfl Tryz.ntmps83 (by simp) T_ ?_
  intro f0 B Q hQ
  refine wpM_seq ?_
  refine wpM_regionK [1, 2, 3] rfl ?_; intro Q1 hQ1
  refine S_ ?_
  refine hQ1 _ _ ?_; clear hQ1 Q1
  refine S_ ?_
  refine wpM_seq ?_
  refine wpM_regionK [2, 3, 7] rfl ?_; intro Q1 hQ1
  refine S_ ?_
  refine hQ1 _ _ ?_; clear hQ1 Q1
  refine S_ ?_
  refine wpM_seq ?_
  refine wpM_seq ?_
  refine wpM_regionK [2, 3, 7, 8] rfl ?_; intro Q1 hQ1
  refine S_ ?_
  refine hQ1 _ _ ?_; clear hQ1 Q1
  refine S_ ?_
  refine wpM_block ?_
  refine wpM_loopS (fun s n s' => ∃ (i0 M0 : Nat) , i0 + n = c.as'.length ∧ s.M ≤ M0 ∧ (Tr i0) ∧ s' = { s with env := setE 8 (.int .i64 (i0 : Nat)) s.env, l := setl (B + 2) (.cells 4 (bls (kset true 2 on kp (c.as'.take i0)))) s.l, M := M0 }) (c.as'.length) ?_ ?_
  ·
    refine .of' _ _ ⟨0, _, by omega, Nat.le_refl _, trivial, rfl⟩ ?_ ?_ ?_ <;> (first | (simp -implicitDefEqProofs (disch := omega) only [go_sem, PV.int.injEq, Int.natCast_add, Int.natCast_one, Int.natCast_zero, true_or, le_yes]; done) | rfl | trivial | (simp -implicitDefEqProofs (disch := omega) only [go_sem, PV.int.injEq, Int.natCast_add, Int.natCast_one, Int.natCast_zero, true_or]; simp; done) | (simp; done))
  rintro n0 s' ⟨i0, M0, hi0, hM0, hv0, rfl⟩
  try dsimp only at hM0
  try refine S_ ?_
  refine wpM_seq ?_
  refine wpM_seq ?_
  refine wpM_regionK [2, 3, 7, 8, 17] rfl ?_; intro Q1 hQ1
  refine S_ ?_
  refine hQ1 _ _ ?_; clear hQ1 Q1
  refine S_ ?_
  refine wpM_condK ?_
  refine S_ ?_
  refine ⟨fun hc0 => ?_, fun hc0 => ?_⟩
  ·
    have hl0 : i0 < c.as'.length := by omega
    have hin : (c.as'.getD i0 default).In on.length := ha i0 hl0
    unfold GAct.In at hin
    have hkl : (kset true 2 on kp (c.as'.take i0)).length = 6 := by rw [kset_len, hkp]
    have hkt := kset_take true 2 on kp c.as' i0 hl0
    refine wpM_skip ?_
    refine S_ ?_
    refine wpM_seq ?_
    refine wpM_block ?_
    refine wpM_seq ?_
    refine wpM_regionK [2, 3, 7, 8, 37] rfl ?_; intro Q1 hQ1
    refine SD_ ?_
    refine hQ1 _ _ ?_; clear hQ1 Q1
    refine S_ ?_
    refine wpM_condK ?_
    refine S_ ?_
    refine ⟨fun hc1 => ?_, fun hc1 => ?_⟩
    ·
      refine wpM_regionK [2, 3, 7, 8] rfl ?_; intro Q1 hQ1
      refine S_ ?_
      refine hQ1 _ _ ?_; clear hQ1 Q1
      refine S_ ?_
      refine wpM_regionK [2, 3, 7, 8] rfl ?_; intro Q1 hQ1
      refine S_ ?_
      refine hQ1 _ _ ?_; clear hQ1 Q1
      refine S_ ?_
      first | rw [if_pos hc1] at hkt | rw [if_neg (by rw [hc1]; simp)] at hkt
      rw [← hkt]
      refine .of' _ _ ⟨n0 - 1, by omega, i0 + 1, _, by omega, ?_, ?_, rfl⟩ ?_ ?_ ?_
      · first | omega | (simp -implicitDefEqProofs (disch := omega) only [go_sem]; done) | (simp -implicitDefEqProofs (disch := omega) only [go_sem]; omega)
      · first | trivial | omega
      all_goals (first | (simp -implicitDefEqProofs (disch := omega) only [go_sem, PV.int.injEq, Int.natCast_add, Int.natCast_one, Int.natCast_zero, true_or, le_yes]; done) | rfl | trivial | (simp -implicitDefEqProofs (disch := omega) only [go_sem, PV.int.injEq, Int.natCast_add, Int.natCast_one, Int.natCast_zero, true_or]; simp; done) | (simp; done))
    refine wpM_skip ?_
    refine S_ ?_
    refine wpM_regionK [2, 3, 7, 8] rfl ?_; intro Q1 hQ1
    refine S_ ?_
    refine hQ1 _ _ ?_; clear hQ1 Q1
    refine S_ ?_
    first | rw [if_pos hc1] at hkt | rw [if_neg (by rw [hc1]; simp)] at hkt
    rw [← hkt]
    refine .of' _ _ ⟨n0 - 1, by omega, i0 + 1, _, by omega, ?_, ?_, rfl⟩ ?_ ?_ ?_
    · first | omega | (simp -implicitDefEqProofs (disch := omega) only [go_sem]; done) | (simp -implicitDefEqProofs (disch := omega) only [go_sem]; omega)
    · first | trivial | omega
    all_goals (first | (simp -implicitDefEqProofs (disch := omega) only [go_sem, PV.int.injEq, Int.natCast_add, Int.natCast_one, Int.natCast_zero, true_or, le_yes]; done) | rfl | trivial | (simp -implicitDefEqProofs (disch := omega) only [go_sem, PV.int.injEq, Int.natCast_add, Int.natCast_one, Int.natCast_zero, true_or]; simp; done) | (simp; done))
  refine wpM_exit ?_
  refine S_ ?_
  refine wpM_seq ?_
  refine wpM_seq ?_
  have hie0 : i0 = c.as'.length := by omega
  rw [hie0, List.take_of_length_le (Nat.le_refl _)]
  refine wpM_regionK [2, 3, 7, 9] rfl ?_; intro Q1 hQ1
  refine S_ ?_
  refine hQ1 _ _ ?_; clear hQ1 Q1
  refine S_ ?_
  refine wpM_block ?_
  refine wpM_loopS (fun s n s' => ∃ (i1 M1 : Nat) , i1 + n = c.as'.length ∧ s.M ≤ M1 ∧ (Tr i1) ∧ s' = { s with env := setE 9 (.int .i64 (i1 : Nat)) s.env, l := setl (B + 2) (.cells 4 (bls (kset false 3 on (kset true 2 on kp c.as') (c.as'.take i1)))) s.l, M := M1 }) (c.as'.length) ?_ ?_
  ·
    refine .of' _ _ ⟨0, _, by omega, Nat.le_refl _, trivial, rfl⟩ ?_ ?_ ?_ <;> (first | (simp -implicitDefEqProofs (disch := omega) only [go_sem, PV.int.injEq, Int.natCast_add, Int.natCast_one, Int.natCast_zero, true_or, le_yes]; done) | rfl | trivial | (simp -implicitDefEqProofs (disch := omega) only [go_sem, PV.int.injEq, Int.natCast_add, Int.natCast_one, Int.natCast_zero, true_or]; simp; done) | (simp; done))
  rintro n1 s' ⟨i1, M1, hi1, hM1, hv1, rfl⟩
  try dsimp only at hM1
  try refine S_ ?_
  refine wpM_seq ?_
  refine wpM_seq ?_
  refine wpM_regionK [2, 3, 7, 9, 51] rfl ?_; intro Q1 hQ1
  refine S_ ?_
  refine hQ1 _ _ ?_; clear hQ1 Q1
  refine S_ ?_
  refine wpM_condK ?_
  refine S_ ?_
  refine ⟨fun hc2 => ?_, fun hc2 => ?_⟩
  ·
    have hl1 : i1 < c.as'.length := by omega
    have hin : (c.as'.getD i1 default).In on.length := ha i1 hl1
    unfold GAct.In at hin
    have hkl : (kset false 3 on (kset true 2 on kp c.as') (c.as'.take i1)).length = 6 := by rw [kset_len, kset_len, hkp]
    have hkt := kset_take false 3 on (kset true 2 on kp c.as') c.as' i1 hl1
    refine wpM_skip ?_
    refine S_ ?_
    refine wpM_seq ?_
    refine wpM_block ?_
    refine wpM_seq ?_
    refine wpM_regionK [2, 3, 7, 9, 71] rfl ?_; intro Q1 hQ1
    refine SD_ ?_
    refine hQ1 _ _ ?_; clear hQ1 Q1
    refine S_ ?_
    refine wpM_condK ?_
    refine S_ ?_
    refine ⟨fun hc3 => ?_, fun hc3 => ?_⟩
    ·
      refine wpM_regionK [2, 3, 7, 9] rfl ?_; intro Q1 hQ1
      refine S_ ?_
      refine hQ1 _ _ ?_; clear hQ1 Q1
      refine S_ ?_
      refine wpM_regionK [2, 3, 7, 9] rfl ?_; intro Q1 hQ1
      refine S_ ?_
      refine hQ1 _ _ ?_; clear hQ1 Q1
      refine S_ ?_
      first | rw [if_pos hc3] at hkt | rw [if_neg (by rw [hc3]; simp)] at hkt
      rw [← hkt]
      refine .of' _ _ ⟨n1 - 1, by omega, i1 + 1, _, by omega, ?_, ?_, rfl⟩ ?_ ?_ ?_
      · first | omega | (simp -implicitDefEqProofs (disch := omega) only [go_sem]; done) | (simp -implicitDefEqProofs (disch := omega) only [go_sem]; omega)
      · first | trivial | omega
      all_goals (first | (simp -implicitDefEqProofs (disch := omega) only [go_sem, PV.int.injEq, Int.natCast_add, Int.natCast_one, Int.natCast_zero, true_or, le_yes]; done) | rfl | trivial | (simp -implicitDefEqProofs (disch := omega) only [go_sem, PV.int.injEq, Int.natCast_add, Int.natCast_one, Int.natCast_zero, true_or]; simp; done) | (simp; done))
    refine wpM_skip ?_
    refine S_ ?_
    refine wpM_regionK [2, 3, 7, 9] rfl ?_; intro Q1 hQ1
    refine S_ ?_
    refine hQ1 _ _ ?_; clear hQ1 Q1
    refine S_ ?_
    first | rw [if_pos hc3] at hkt | rw [if_neg (by rw [hc3]; simp)] at hkt
    rw [← hkt]
    refine .of' _ _ ⟨n1 - 1, by omega, i1 + 1, _, by omega, ?_, ?_, rfl⟩ ?_ ?_ ?_
    · first | omega | (simp -implicitDefEqProofs (disch := omega) only [go_sem]; done) | (simp -implicitDefEqProofs (disch := omega) only [go_sem]; omega)
    · first | trivial | omega
    all_goals (first | (simp -implicitDefEqProofs (disch := omega) only [go_sem, PV.int.injEq, Int.natCast_add, Int.natCast_one, Int.natCast_zero, true_or, le_yes]; done) | rfl | trivial | (simp -implicitDefEqProofs (disch := omega) only [go_sem, PV.int.injEq, Int.natCast_add, Int.natCast_one, Int.natCast_zero, true_or]; simp; done) | (simp; done))
  refine wpM_exit ?_
  refine S_ ?_
  refine wpM_seq ?_
  have hie : i1 = c.as'.length := by omega
  rw [hie, List.take_of_length_le (Nat.le_refl _)]
  refine wpM_frz [B + 2] [(4, B + 2, 0, kp.length, rowsB (keptM c kp on))] (by intro q hq; simp at hq; subst hq; simp -implicitDefEqProofs (disch := omega) only [go_sem]) (frz_bls (T := 4) (by simp -implicitDefEqProofs (disch := omega) only [go_sem]; rfl) (keptM_len c kp on)) ?_
  simp -implicitDefEqProofs (disch := omega) only [go_sem]
  refine wpM_regionK [6] rfl ?_; intro Q1 hQ1
  refine S_ ?_
  refine hQ1 _ _ ?_; clear hQ1 Q1
  refine S_ ?_
  refine wpM_ret ?_
  try refine S_ ?_
  refine hQ _ _ rfl rfl rfl (by simp -implicitDefEqProofs (disch := omega) only [go_sem, le_yes, true_or]) ?_ (.inl rfl)
  rw [Tryz.results83]
  try simp -implicitDefEqProofs (disch := omega) only [go_sem, List.cons.injEq, PV.bool.injEq, PV.int.injEq, PV.agg.injEq]
  all_goals
    rfl
def litA (at' : Int) (on bg : List Bool) (a : GAct) : Bool := a.to'.at' == at' && ((a.kind == 1 && on.getD a.step.toNat false) || (a.kind == 4 && bg.getD a.step.toNat false))
def lit (c : Cht) (at' : Int) (on bg : List Bool) : Bool := c.as'.any (litA at' on bg)
theorem lit_ok (c : Cht) (at' : Int) (on bg : List Bool) (hc : c.Sm) (hon : on.length ≤ 1099511627776) (hbg : bg.length = on.length) (ha : ∀ i, i < c.as'.length → (c.as'.getD i default).In on.length) :
    PureF Tryz.prog 86 [.agg c.cs, .int .i64 at', .rows 4 (rowsB on), .rows 4 (rowsB bg)] [.bool (lit c at' on bg)] := by
  have has := hc.as'
  refine pureF_of Tryz.func86 rfl Tryz.ntmps86 (by simp) T_ ?_
  intro f0 B Q hQ
  refine wpM_seq ?_
  refine wpM_regionK [1, 2, 3, 4] rfl ?_; intro Q1 hQ1
  refine S_ ?_
  refine hQ1 _ _ ?_; clear hQ1 Q1
  refine S_ ?_
  refine wpM_seq ?_
  refine wpM_seq ?_
  refine wpM_regionK [1, 2, 3, 4, 9] rfl ?_; intro Q1 hQ1
  refine S_ ?_
  refine hQ1 _ _ ?_; clear hQ1 Q1
  refine S_ ?_
  refine wpM_block ?_
  refine wpM_loopS (fun s n s' => ∃ (i0 M0 : Nat) , i0 + n = c.as'.length ∧ s.M ≤ M0 ∧ ((c.as'.take i0).all (fun a => !litA at' on bg a) = true) ∧ s' = { s with env := setE 9 (.int .i64 (i0 : Nat)) s.env, M := M0 }) (c.as'.length) ?_ ?_
  ·
    refine .of' _ _ ⟨0, _, by omega, Nat.le_refl _, by simp, rfl⟩ ?_ ?_ ?_ <;> (first | (simp -implicitDefEqProofs (disch := omega) only [go_sem, PV.int.injEq, Int.natCast_add, Int.natCast_one, Int.natCast_zero, true_or, le_yes]; done) | rfl | trivial | (simp -implicitDefEqProofs (disch := omega) only [go_sem, PV.int.injEq, Int.natCast_add, Int.natCast_one, Int.natCast_zero, true_or]; simp; done) | (simp; done))
  rintro n0 s' ⟨i0, M0, hi0, hM0, hv0, rfl⟩
  try dsimp only at hM0
  try refine S_ ?_
  refine wpM_seq ?_
  refine wpM_seq ?_
  refine wpM_regionK [1, 2, 3, 4, 9, 15] rfl ?_; intro Q1 hQ1
  refine S_ ?_
  refine hQ1 _ _ ?_; clear hQ1 Q1
  refine S_ ?_
  refine wpM_condK ?_
  refine S_ ?_
  refine ⟨fun hc0 => ?_, fun hc0 => ?_⟩
  ·
    have hl0 : i0 < c.as'.length := by omega
    have hin : (c.as'.getD i0 default).In on.length := ha i0 hl0
    unfold GAct.In at hin
    refine wpM_skip ?_
    refine S_ ?_
    refine wpM_seq ?_
    refine wpM_block ?_
    refine wpM_seq ?_
    refine wpM_regionK [1, 2, 3, 4, 9, 10] rfl ?_; intro Q1 hQ1
    refine S_ ?_
    refine hQ1 _ _ ?_; clear hQ1 Q1
    refine S_ ?_
    refine wpM_seq ?_
    refine wpM_regionK [1, 2, 3, 4, 9, 51] rfl ?_; intro Q1 hQ1
    refine SD_ ?_
    refine hQ1 _ _ ?_; clear hQ1 Q1
    refine S_ ?_
    refine wpM_condK ?_
    refine S_ ?_
    refine ⟨fun hc1 => ?_, fun hc1 => ?_⟩
    ·
      refine wpM_seq ?_
      refine wpM_regionK [8] rfl ?_; intro Q1 hQ1
      refine S_ ?_
      refine hQ1 _ _ ?_; clear hQ1 Q1
      refine S_ ?_
      refine wpM_ret ?_
      try refine S_ ?_
      refine hQ _ _ rfl rfl rfl (by simp -implicitDefEqProofs (disch := omega) only [go_sem, le_yes, true_or]) ?_ (.inl rfl)
      rw [Tryz.results86]
      try simp -implicitDefEqProofs (disch := omega) only [go_sem, List.cons.injEq, PV.bool.injEq, PV.int.injEq, PV.agg.injEq]
      all_goals
        first
        | (have h1 : litA at' on bg (c.as'.getD i0 default) = true := hc1
           have h2 := all_no (p := fun a => !litA at' on bg a) hl0 (by simp only [h1]; rfl)
           rw [List.all_eq_not_any_not] at h2
           simpa [lit] using h2)
        | (have h2 := all_yes hi0 hc0 hv0
           rw [List.all_eq_not_any_not] at h2
           simpa [lit] using h2)
    refine wpM_skip ?_
    refine S_ ?_
    refine wpM_regionK [1, 2, 3, 4, 9] rfl ?_; intro Q1 hQ1
    refine S_ ?_
    refine hQ1 _ _ ?_; clear hQ1 Q1
    refine S_ ?_
    refine .of' _ _ ⟨n0 - 1, by omega, i0 + 1, _, by omega, ?_, ?_, rfl⟩ ?_ ?_ ?_
    · first | omega | (simp -implicitDefEqProofs (disch := omega) only [go_sem]; done) | (simp -implicitDefEqProofs (disch := omega) only [go_sem]; omega)
    · have h1 : litA at' on bg (c.as'.getD i0 default) = false := hc1
      rw [take_all _ _ _ hl0, hv0, h1]; rfl
    all_goals (first | (simp -implicitDefEqProofs (disch := omega) only [go_sem, PV.int.injEq, Int.natCast_add, Int.natCast_one, Int.natCast_zero, true_or, le_yes]; done) | rfl | trivial | (simp -implicitDefEqProofs (disch := omega) only [go_sem, PV.int.injEq, Int.natCast_add, Int.natCast_one, Int.natCast_zero, true_or]; simp; done) | (simp; done))
  refine wpM_exit ?_
  refine S_ ?_
  refine wpM_seq ?_
  refine wpM_regionK [8] rfl ?_; intro Q1 hQ1
  refine S_ ?_
  refine hQ1 _ _ ?_; clear hQ1 Q1
  refine S_ ?_
  refine wpM_ret ?_
  try refine S_ ?_
  refine hQ _ _ rfl rfl rfl (by simp -implicitDefEqProofs (disch := omega) only [go_sem, le_yes, true_or]) ?_ (.inl rfl)
  rw [Tryz.results86]
  try simp -implicitDefEqProofs (disch := omega) only [go_sem, List.cons.injEq, PV.bool.injEq, PV.int.injEq, PV.agg.injEq]
  all_goals
    first
    | (have h1 : litA at' on bg (c.as'.getD i0 default) = true := hc1
       have h2 := all_no (p := fun a => !litA at' on bg a) hl0 (by simp only [h1]; rfl)
       rw [List.all_eq_not_any_not] at h2
       simpa [lit] using h2)
    | (have h2 := all_yes hi0 hc0 hv0
       rw [List.all_eq_not_any_not] at h2
       simpa [lit] using h2)
end Go.Proofs.YtnilkkcobeaglaaGreat
namespace Go.Proofs.YtnilkkcobeaglaaGreat
open Go Sg
set_option maxRecDepth 100000
set_option linter.unusedSimpArgs false
set_option linter.unusedVariables false
set_option maxHeartbeats 4000000
def MM.put (m : MM) (a : AD) (n : Int) : MM := if a.kind == 2 then { m with o := m.o.set a.at'.toNat (cut n) } else if a.kind == 3 then { m with v := m.v.set a.at'.toNat (cut n) } else m
theorem MM.put2 {m : MM} {a : AD} {n : Int} (h : (a.kind == 2) = true) : m.put a n = { m with o := m.o.set a.at'.toNat (cut n) } := by simp [MM.put, h]
theorem MM.put3 {m : MM} {a : AD} {n : Int} (h : (a.kind == 2) = false) (h3 : (a.kind == 3) = true) : m.put a n = { m with v := m.v.set a.at'.toNat (cut n) } := by simp [MM.put, h, h3]
theorem MM.put0 {m : MM} {a : AD} {n : Int} (h : (a.kind == 2) = false) (h3 : (a.kind == 3) = false) : m.put a n = m := by simp [MM.put, h, h3]
theorem MM.put_six {m : MM} (hm : m.Six) (a : AD) (n : Int) : (m.put a n).Six := by
  unfold MM.put
  split
  · exact ⟨hm.i, by simp [hm.o], hm.v⟩
  · split
    · exact ⟨hm.i, hm.o, by simp [hm.v]⟩
    · exact hm
theorem put_ok (m : MM) (a : AD) (n : Int) (x y z : Nat) (hm : m.Six) (h1 : x ≠ y) (h2 : x ≠ z) (h3 : y ≠ z) (ha : 0 ≤ a.at' ∧ a.at' < 6) :
    CallF Tryz.prog 84 [.agg (ocs x y z), .agg a.cs, .int .i64 n] (m.ol x y z) 0 (fun _ o => o = { rs := [.agg (ocs x y z)], u := (m.put a n).ou x y z }) := by
  have e1 := hm.i
  have e2 := hm.o
  have e3 := hm.v
  refine callF_of' Tryz.func84 rfl Tryz.ntmps84 (by simp) ?_
  intro f0 B ns Q hB hns hQ
  have hx : x < B := hB x (by simp [hasKey, lk, MM.ol])
  have hy : y < B := hB y (by simp [hasKey, lk, MM.ol, h1])
  have hz : z < B := hB z (by simp [hasKey, lk, MM.ol, h2, h3])
  obtain rfl : ns = [] := List.eq_nil_of_length_eq_zero hns
  refine wpM_seq ?_
  refine wpM_regionK [2, 3, 4, 6] rfl ?_; intro Q1 hQ1
  refine S_ ?_
  refine hQ1 _ _ ?_; clear hQ1 Q1
  refine S_ ?_
  refine wpM_seq ?_
  refine wpM_seq ?_
  refine wpM_regionK [2, 3, 4, 6, 8] rfl ?_; intro Q1 hQ1
  refine S_ ?_
  refine hQ1 _ _ ?_; clear hQ1 Q1
  refine S_ ?_
  refine wpM_block ?_
  refine wpM_seq ?_
  refine wpM_regionK [2, 3, 4, 6, 8, 9] rfl ?_; intro Q1 hQ1
  refine S_ ?_
  refine hQ1 _ _ ?_; clear hQ1 Q1
  refine S_ ?_
  refine wpM_condK ?_
  refine S_ ?_
  refine ⟨fun hc0 => ?_, fun hc0 => ?_⟩
  ·
    refine wpM_keep [3, 6] (wpM_dr mixed 0 3 [B, B + 1, y] [⟨[3], [], [], [], false⟩, ⟨[11], [0], [], [], false⟩, ⟨[4], [], [], [], false⟩, ⟨[13], [1], [], [], false⟩, ⟨[2], [], [], [], false⟩, ⟨[15], [], [], [], true⟩, ⟨[12, 14], [], [], [], false⟩, ⟨[16, 17], [2], [2], [], false⟩] [0, 1, 2, 3, 4, 5, 6, 7] [[], [0], [], [2], [], [4], [0, 1, 2, 3, 4, 5], [0, 1, 2, 3, 4, 5, 6]] 3 rfl (by simp; omega) (by decide +kernel) (by simp) ?_)
    intro O A K hO hA hK; simp only [atL_cons, atL_nil, Nat.reduceAdd, Nat.zero_add] at hO hA
    refine SO_ ?_
    refine loud_p (cut_ok n) Tryz.call109 rfl rfl (by first | rfl | (simp -implicitDefEqProofs (disch := omega) only [go_sem] <;> rfl)) rfl ?_
    refine SO_ ?_
    refine hK _ ?_; clear hK K hO hA O A
    refine S_ ?_
    refine wpM_seq ?_
    refine wpM_regionK [6] rfl ?_; intro Q1 hQ1
    refine S_ ?_
    refine hQ1 _ _ ?_; clear hQ1 Q1
    refine S_ ?_
    refine wpM_ret ?_
    try refine S_ ?_
    first | rw [MM.put2 hc0] at hQ | rw [MM.put3 hc0 hc1] at hQ | rw [MM.put0 hc0 hc1] at hQ
    refine hQ _ _ (ret0 (MM.ou _ x y z) rfl rfl rfl (by rw [Tryz.results84]; simp (maxSteps := 1000000) -implicitDefEqProofs (disch := omega) only [go_sem] <;> rfl) rfl ?_ ?_ ?_ ?_)
    all_goals simp -implicitDefEqProofs (disch := omega) only [go_sem, h1, h2, h3, le_yes, true_or, or_true]
  refine wpM_seq ?_
  refine wpM_regionK [2, 3, 4, 6, 18] rfl ?_; intro Q1 hQ1
  refine S_ ?_
  refine hQ1 _ _ ?_; clear hQ1 Q1
  refine S_ ?_
  refine wpM_condK ?_
  refine S_ ?_
  refine ⟨fun hc1 => ?_, fun hc1 => ?_⟩
  ·
    refine wpM_keep [3, 6] (wpM_dr mixed 0 3 [B, B + 1, z] [⟨[3], [], [], [], false⟩, ⟨[20], [0], [], [], false⟩, ⟨[4], [], [], [], false⟩, ⟨[22], [1], [], [], false⟩, ⟨[2], [], [], [], false⟩, ⟨[24], [], [], [], true⟩, ⟨[21, 23], [], [], [], false⟩, ⟨[25, 26], [2], [2], [], false⟩] [0, 1, 2, 3, 4, 5, 6, 7] [[], [0], [], [2], [], [4], [0, 1, 2, 3, 4, 5], [0, 1, 2, 3, 4, 5, 6]] 3 rfl (by simp; omega) (by decide +kernel) (by simp) ?_)
    intro O A K hO hA hK; simp only [atL_cons, atL_nil, Nat.reduceAdd, Nat.zero_add] at hO hA
    refine SO_ ?_
    refine loud_p (cut_ok n) Tryz.call109 rfl rfl (by first | rfl | (simp -implicitDefEqProofs (disch := omega) only [go_sem] <;> rfl)) rfl ?_
    refine SO_ ?_
    refine hK _ ?_; clear hK K hO hA O A
    refine S_ ?_
    refine wpM_seq ?_
    refine wpM_regionK [6] rfl ?_; intro Q1 hQ1
    refine S_ ?_
    refine hQ1 _ _ ?_; clear hQ1 Q1
    refine S_ ?_
    refine wpM_ret ?_
    try refine S_ ?_
    first | rw [MM.put2 hc0] at hQ | rw [MM.put3 hc0 hc1] at hQ | rw [MM.put0 hc0 hc1] at hQ
    refine hQ _ _ (ret0 (MM.ou _ x y z) rfl rfl rfl (by rw [Tryz.results84]; simp (maxSteps := 1000000) -implicitDefEqProofs (disch := omega) only [go_sem] <;> rfl) rfl ?_ ?_ ?_ ?_)
    all_goals simp -implicitDefEqProofs (disch := omega) only [go_sem, h1, h2, h3, le_yes, true_or, or_true]
  refine wpM_skip ?_
  refine S_ ?_
  refine wpM_seq ?_
  refine wpM_regionK [6] rfl ?_; intro Q1 hQ1
  refine S_ ?_
  refine hQ1 _ _ ?_; clear hQ1 Q1
  refine S_ ?_
  refine wpM_ret ?_
  try refine S_ ?_
  first | rw [MM.put2 hc0] at hQ | rw [MM.put3 hc0 hc1] at hQ | rw [MM.put0 hc0 hc1] at hQ
  refine hQ _ _ (ret0 (MM.ou _ x y z) rfl rfl rfl (by rw [Tryz.results84]; simp (maxSteps := 1000000) -implicitDefEqProofs (disch := omega) only [go_sem] <;> rfl) rfl ?_ ?_ ?_ ?_)
  all_goals simp -implicitDefEqProofs (disch := omega) only [go_sem, h1, h2, h3, le_yes, true_or, or_true]
theorem mcopy_ok (k : Mrk) (h1 : k.on.length ≤ 1099511627776) (h2 : k.kept.length ≤ 1099511627776) : PureF Tryz.prog 43 [.agg k.cs] [.agg k.cs] := by
  refine pureF_of Tryz.func43 rfl Tryz.ntmps43 (by simp) T_ ?_
  intro f0 B Q hQ
  refine wpM_seq ?_
  refine wpM_regionK [1, 2] rfl ?_; intro Q1 hQ1
  refine S_ ?_
  refine hQ1 _ _ ?_; clear hQ1 Q1
  refine S_ ?_
  refine wpM_seq ?_
  refine wpM_keep [2] (wpM_dr mixed 4 2 [B, B + 1, B + 2, B + 3, B + 4, B + 5] [⟨[], [], [], [2], false⟩, ⟨[1], [], [], [], false⟩, ⟨[4], [0], [], [], false⟩, ⟨[3, 5], [2], [2], [3], false⟩, ⟨[], [], [], [4], false⟩, ⟨[1], [], [], [], false⟩, ⟨[8], [0], [], [], false⟩, ⟨[7, 9], [4], [4], [5], false⟩, ⟨[6, 10], [], [], [], false⟩, ⟨[2, 11], [1], [1], [], false⟩] [0, 1, 2, 3, 4, 5, 6, 7, 8, 9] [[], [], [1], [0, 1, 2], [], [], [5], [0, 1, 2, 3, 4, 5, 6], [0, 1, 2, 3, 4, 5, 6, 7], [0, 1, 2, 3, 4, 5, 6, 7, 8]] 6 rfl (by simp) (by decide +kernel) (by simp) ?_)
  intro O A K hO hA hK; simp only [atL_cons, atL_nil, Nat.reduceAdd, Nat.zero_add] at hO hA
  refine SO_ ?_
  refine hK _ ?_; clear hK K hO hA O A
  refine S_ ?_
  refine wpM_frz [B + 3, B + 5] [(4, B + 3, 0, k.on.length, rowsB k.on), (4, B + 5, 0, k.kept.length, rowsB k.kept)] (by intro q hq; simp at hq; rcases hq with rfl | rfl <;> simp -implicitDefEqProofs (disch := omega) only [go_sem]) (by
    intro q hq
    simp only [List.mem_cons, List.not_mem_nil, or_false] at hq
    rcases hq with rfl | rfl
    · exact ⟨by simp, rowsOf_bls (T := 4) T_⟩
    · exact ⟨by simp, rowsOf_bls (T := 4) T_⟩) ?_
  simp -implicitDefEqProofs (disch := omega) only [go_sem]
  refine wpM_ret ?_
  try refine S_ ?_
  refine hQ _ _ rfl rfl rfl (by simp -implicitDefEqProofs (disch := omega) only [go_sem, le_yes, true_or]) ?_ (.inl rfl)
  rw [Tryz.results43]
  try simp -implicitDefEqProofs (disch := omega) only [go_sem, List.cons.injEq, PV.bool.injEq, PV.int.injEq, PV.agg.injEq]
  all_goals
    rfl
theorem copy_ok (m : MM) (hm : m.Six) : CallF Tryz.prog 44 [.agg m.cs] [] 3 (fun ns o => ∃ x y z, ns = [x, y, z] ∧ o = { rs := [.agg (ocs x y z)], nw := m.ol x y z }) := by
  have e1 := hm.i
  have e2 := hm.o
  have e3 := hm.v
  refine callF_of' Tryz.func44 rfl Tryz.ntmps44 (by simp) ?_
  intro f0 B ns Q hB hns hQ
  obtain ⟨x, y, z, rfl⟩ : ∃ x y z, ns = [x, y, z] := by
    match ns, hns with
    | [x, y, z], _ => exact ⟨x, y, z, rfl⟩
  refine wpM_seq ?_
  refine wpM_regionK [1, 2] rfl ?_; intro Q1 hQ1
  refine S_ ?_
  refine hQ1 _ _ ?_; clear hQ1 Q1
  refine S_ ?_
  refine wpM_seq ?_
  refine wpM_keep [2] (wpM_dr mixed 6 2 [B, B + 1, B + 2, B + 3, B + 4, B + 5, B + 6, B + 7] [⟨[], [], [], [2], false⟩, ⟨[1], [], [], [], false⟩, ⟨[4], [0], [], [], false⟩, ⟨[3, 5], [2], [2], [3], false⟩, ⟨[], [], [], [4], false⟩, ⟨[1], [], [], [], false⟩, ⟨[8], [0], [], [], false⟩, ⟨[7, 9], [4], [4], [5], false⟩, ⟨[], [], [], [6], false⟩, ⟨[1], [], [], [], false⟩, ⟨[12], [0], [], [], false⟩, ⟨[11, 13], [6], [6], [7], false⟩, ⟨[6, 10, 14], [], [], [], false⟩, ⟨[2, 15], [1], [1], [], false⟩] [0, 1, 2, 3, 4, 5, 6, 7, 8, 9, 10, 11, 12, 13] [[], [], [1], [0, 1, 2], [], [], [5], [0, 1, 2, 3, 4, 5, 6], [], [], [9], [0, 1, 2, 3, 4, 5, 6, 7, 8, 9, 10], [0, 1, 2, 3, 4, 5, 6, 7, 8, 9, 10, 11], [0, 1, 2, 3, 4, 5, 6, 7, 8, 9, 10, 11, 12]] 8 rfl (by simp) (by decide +kernel) (by simp) ?_)
  intro O A K hO hA hK; simp only [atL_cons, atL_nil, Nat.reduceAdd, Nat.zero_add] at hO hA
  refine SO_ ?_
  refine hK _ ?_; clear hK K hO hA O A
  refine S_ ?_
  refine wpM_ret ?_
  try refine S_ ?_
  refine hQ _ _ (retK [B + 3, B + 5, B + 7] [] (m.ol x y z) rfl rfl rfl (by rw [Tryz.results44]; simp (maxSteps := 1000000) -implicitDefEqProofs (disch := omega) only [go_sem] <;> rfl) ?_ ⟨x, y, z, rfl, rfl⟩ ?_ ?_ ?_ ?_ ?_ ?_)
  all_goals (first | (simp -implicitDefEqProofs (disch := omega) only [go_sem, e1, e2, e3, List.nodup_cons, List.nodup_nil, true_or, or_true, List.mem_cons, List.not_mem_nil]; done) | (simp -implicitDefEqProofs (disch := omega) only [go_sem, e1, e2, e3, List.nodup_cons, List.nodup_nil, true_or, or_true, List.mem_cons, List.not_mem_nil]; omega))
end Go.Proofs.YtnilkkcobeaglaaGreat
