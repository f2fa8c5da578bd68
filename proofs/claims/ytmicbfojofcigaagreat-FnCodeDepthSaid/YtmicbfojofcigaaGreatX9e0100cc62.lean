/- A part of a proof: lemmas and contracts of functions; the last text of the claim says what is proved. -/
import Derived.Test.YtmicbfojofcigaaGreatXa14802500c
set_option linter.unusedSectionVars false
set_option linter.unusedSimpArgs false
set_option linter.unusedVariables false
namespace Go.Proofs.YtmicbfojofcigaaGreat
open Go Sg
set_option linter.unusedSectionVars false
variable [Glob]
set_option maxRecDepth 100000
set_option linter.unusedSimpArgs false
set_option maxHeartbeats 4000000
theorem mixed : Tryz.prog.follows .mixedOrders = true := by kernel_rfl
def u8s (l : List Nat) : List (List PV) := l.map fun (x : Nat) => [.int .u8 (x : Int)]
@[go_sem] theorem u8s_len (l : List Nat) : (u8s l).length = l.length := by simp [u8s]
@[go_sem] theorem u8s_getD (l : List Nat) (k : Nat) (h : k < l.length) : (u8s l).getD k [] = [.int .u8 ((l.getD k 0 : Nat) : Int)] := by simp [u8s, List.getD, h]
def ints (l : List Int) : List PV := l.map (PV.int .i64)
@[go_sem] theorem ints_len (l : List Int) : (ints l).length = l.length := by simp [ints]
@[go_sem] theorem ints_drop (l : List Int) (k : Nat) (h : k < l.length) : ((ints l).drop k)[0]? = some (.int .i64 (l.getD k 0)) := by
  simp [ints, List.getD, h]
structure Bs (bs : List Nat) : Prop where
  lt : ∀ x ∈ bs, x < 256
  len : bs.length ≤ 2000
theorem Bs.get {bs : List Nat} (h : Bs bs) (k : Nat) : bs.getD k 0 < 256 := by
  by_cases hk : k < bs.length
  · rw [List.getD_eq_getElem?_getD, List.getElem?_eq_getElem hk]; exact h.lt _ (List.getElem_mem hk)
  · rw [List.getD_eq_getElem?_getD, List.getElem?_eq_none (by omega)]; simp
def rdObj (bs : List Nat) (q : Int) : AObj := .cells 83 [.rows 5 (u8s bs), .int .i64 q]
theorem xor64 (a b : Int) (ha : 0 ≤ a) (ha' : a < 4611686018427387904) (hb : 0 ≤ b) (hb' : b < 4611686018427387904) :
    0 ≤ IntKind.i64.wrap (BitVec.ofInt 64 a ^^^ BitVec.ofInt 64 b).toNat ∧ IntKind.i64.wrap (BitVec.ofInt 64 a ^^^ BitVec.ofInt 64 b).toNat < 4611686018427387904 := by
  obtain ⟨x, rfl⟩ := Int.eq_ofNat_of_zero_le ha
  obtain ⟨y, rfl⟩ := Int.eq_ofNat_of_zero_le hb
  have e : (BitVec.ofInt 64 (x : Int) ^^^ BitVec.ofInt 64 (y : Int)).toNat = x ^^^ y := by
    rw [BitVec.toNat_xor, BitVec.toNat_ofInt, BitVec.toNat_ofInt]
    have h1 : ((x : Int) % ((2 ^ 64 : Nat) : Int)).toNat = x := by omega
    have h2 : ((y : Int) % ((2 ^ 64 : Nat) : Int)).toNat = y := by omega
    rw [h1, h2]
  have hlt : x ^^^ y < 2 ^ 62 := Nat.xor_lt_two_pow (by omega) (by omega)
  rw [e, wrap64 (by omega)]
  omega
def pickO (id : Nat) (bs : List Nat) (q n : Int) (_ : List Nat) (o : COut) : Prop :=
  ∃ k : Int, o = { rs := [.int .i64 k], u := [(id, some (rdObj bs (q + 1)))] } ∧ 0 ≤ k ∧ (1 ≤ n → k < n) ∧ (n < 1 → k = 0)
theorem pick_ok (id : Nat) (bs : List Nat) (q n : Int) (hbs : Bs bs) (hq0 : 0 ≤ q) (hq : q ≤ 1099511627776) (hn : n ≤ 1099511627776) :
    CallF Tryz.prog 44 [.ptr id 0, .int .i64 n] [(id, rdObj bs q)] 0 (pickO id bs q n) := by
  have hl := hbs.len
  refine callF_of Tryz.func44 rfl Tryz.ntmps44 (by simp) ?_
  intro f0 B ns hB hns
  have hid : id < B := hB id (by simp [hasKey, lk])
  obtain rfl : ns = [] := List.eq_nil_of_length_eq_zero hns
  have fin : ∀ (k : Int) (s : MS), s.f0 = f0 → s.B = B → s.df = [] → s.l = [(id, .cells 83 [.rows 5 (u8s bs), .int .i64 (q + 1)])] → Sg.get s.env 4 = some (.int .i64 k) → 0 ≤ k → (1 ≤ n → k < n) → (n < 1 → k = 0) →
      retQ Tryz.prog Tryz.f44.results.toList [(id, rdObj bs q)] f0 B [] (pickO id bs q n) .ret s := by
    intro k s h1 h2 h3 h4 h5 k1 k2 k3
    refine ⟨h1, h2, h3, [], [.int .i64 k], _, ⟨k, rfl, k1, k2, k3⟩, rfl, by rw [Tryz.results44]; simp [resA, h5], ?_⟩
    constructor <;> simp [h4, rdObj, keysIn, hasKey, lk, PV.renL, PV.ren, PV.idsL, PV.ids, updOk, oldOk, goodObj, MS.f, AObj.ren, AObj.ids, newOk]
  revert fin
  generalize retQ Tryz.prog Tryz.f44.results.toList [(id, rdObj bs q)] f0 B [] (pickO id bs q n) = Q
  intro fin
  unfold rdObj
  refine wpM_seq ?_
  refine wpM_regionK [0, 1] rfl ?_; intro Q1 hQ1
  simp -implicitDefEqProofs (disch := omega) only [go_sem]
  refine hQ1 _ _ ?_
  simp -implicitDefEqProofs (disch := omega) only [go_sem]
  refine wpM_seq ?_
  refine wpM_regionK [0, 1] rfl ?_; intro Q1 hQ1
  simp -implicitDefEqProofs (disch := omega) only [go_sem]
  refine hQ1 _ _ ?_
  simp -implicitDefEqProofs (disch := omega) only [go_sem]
  refine wpM_seq ?_
  refine wpM_cut (fun s => s = ⟨[(0, .ptr id 0), (1, .int .i64 n), (24, .bool (decide (n < 1) || bs.length == 0))], [(id, AObj.cells 83 [.rows 5 (u8s bs), .int .i64 (q + 1)])], f0, B, B, []⟩) ?_ ?_
  · by_cases h : n < 1
    · skip
      refine wpM_regionK [0, 1, 24] rfl ?_; intro Q1 hQ1
      simp -implicitDefEqProofs (disch := omega) only [go_sem, h, decide_true]
      refine hQ1 _ _ ?_
      simp -implicitDefEqProofs (disch := omega) only [go_sem]
      refine .here ?_
      simp [h]
    · skip
      refine wpM_regionK [0, 1, 24] rfl ?_; intro Q1 hQ1
      simp -implicitDefEqProofs (disch := omega) only [go_sem, h, decide_false]
      refine hQ1 _ _ ?_
      simp -implicitDefEqProofs (disch := omega) only [go_sem]
      refine .here ?_
      simp [h]
      rw [Bool.eq_iff_iff]; simp
  rintro s' rfl
  refine wpM_condK ?_
  simp -implicitDefEqProofs (disch := omega) only [go_sem]
  refine ⟨fun h => ?_, fun h => ?_⟩
  · refine wpM_seq ?_
    refine wpM_regionK [4] rfl ?_; intro Q1 hQ1
    simp -implicitDefEqProofs (disch := omega) only [go_sem]
    refine hQ1 _ _ ?_
    simp -implicitDefEqProofs (disch := omega) only [go_sem]
    refine wpM_ret ?_
    exact fin 0 _ rfl rfl rfl rfl rfl (by omega) (by omega) (fun _ => rfl)
  refine wpM_skip ?_
  simp -implicitDefEqProofs (disch := omega) only [go_sem]
  have hn1 : 1 ≤ n := by
    simp only [Bool.or_eq_false_iff, decide_eq_false_iff_not] at h; omega
  have hb0 : 0 < bs.length := by
    rcases Nat.eq_zero_or_pos bs.length with h0 | h0
    · simp [h0] at h
    · exact h0
  refine wpM_seq ?_
  refine wpM_regionK [0, 1, 5] rfl ?_; intro Q1 hQ1
  simp -implicitDefEqProofs (disch := omega) only [go_sem]
  refine hQ1 _ _ ?_
  simp -implicitDefEqProofs (disch := omega) only [go_sem]
  refine wpM_seq ?_
  refine wpM_seq ?_
  refine wpM_regionK [0, 1, 5, 36] rfl ?_; intro Q1 hQ1
  simp -implicitDefEqProofs (disch := omega) only [go_sem]
  refine hQ1 _ _ ?_
  simp -implicitDefEqProofs (disch := omega) only [go_sem]
  refine wpM_condK ?_
  simp -implicitDefEqProofs (disch := omega) only [go_sem]
  refine ⟨fun h2 => ?_, fun h2 => ?_⟩
  · have b0 := hbs.get q.toNat
    refine wpM_seq ?_
    refine wpM_regionK [4] rfl ?_; intro Q1 hQ1
    simp -implicitDefEqProofs (disch := omega) only [go_sem]
    refine hQ1 _ _ ?_
    simp -implicitDefEqProofs (disch := omega) only [go_sem]
    refine wpM_ret ?_
    exact fin _ _ rfl rfl rfl rfl rfl (Int.tmod_nonneg _ (by omega)) (fun _ => Int.tmod_lt_of_pos _ (by omega)) (by omega)
  refine wpM_skip ?_
  simp -implicitDefEqProofs (disch := omega) only [go_sem]
  have tm := fun (a : Int) (ha : 0 ≤ a) => (⟨Int.tmod_nonneg _ ha, Int.tmod_lt_of_pos a (show (0 : Int) < bs.length by omega)⟩ : 0 ≤ a.tmod bs.length ∧ a.tmod bs.length < bs.length)
  have tm1 := tm q hq0
  have tm2 := tm (q * 7 + 3) (by omega)
  have b1 := hbs.get (q.tmod bs.length).toNat
  have b2 := hbs.get ((q * 7 + 3).tmod bs.length).toNat
  have d1 : 0 ≤ q.tdiv bs.length := Int.tdiv_nonneg hq0 (by omega)
  have d2 : q.tdiv bs.length ≤ q := Int.tdiv_le_self _ hq0
  refine wpM_seq ?_
  refine wpM_keep [1, 6] (wpM_drawn mixed 0 1 [id] #[⟨[0], [], [], [], false⟩, ⟨[47], [], [], [], false⟩, ⟨[48], [], [], [], false⟩, ⟨[49], [0], [], [], false⟩, ⟨[5], [], [], [], false⟩, ⟨[0], [], [], [], false⟩, ⟨[52], [], [], [], false⟩, ⟨[53], [], [], [], false⟩, ⟨[54], [0], [], [], false⟩, ⟨[55], [], [], [], false⟩, ⟨[51, 56], [], [], [], false⟩, ⟨[50, 57], [], [], [], false⟩, ⟨[58], [], [], [], false⟩, ⟨[59], [], [], [], false⟩, ⟨[60], [], [], [], false⟩, ⟨[0], [], [], [], false⟩, ⟨[62], [], [], [], false⟩, ⟨[63], [], [], [], false⟩, ⟨[64], [0], [], [], false⟩, ⟨[5], [], [], [], false⟩, ⟨[66], [], [], [], false⟩, ⟨[67], [], [], [], false⟩, ⟨[0], [], [], [], false⟩, ⟨[69], [], [], [], false⟩, ⟨[70], [], [], [], false⟩, ⟨[71], [0], [], [], false⟩, ⟨[72], [], [], [], false⟩, ⟨[68, 73], [], [], [], false⟩, ⟨[65, 74], [], [], [], false⟩, ⟨[75], [], [], [], false⟩, ⟨[76], [], [], [], false⟩, ⟨[77], [], [], [], false⟩, ⟨[61, 78], [], [], [], false⟩, ⟨[5], [], [], [], false⟩, ⟨[80], [], [], [], false⟩, ⟨[79, 81], [], [], [], false⟩, ⟨[5], [], [], [], false⟩, ⟨[0], [], [], [], false⟩, ⟨[84], [], [], [], false⟩, ⟨[85], [], [], [], false⟩, ⟨[86], [0], [], [], false⟩, ⟨[87], [], [], [], false⟩, ⟨[83, 88], [], [], [], false⟩, ⟨[89], [], [], [], false⟩, ⟨[82, 90], [], [], [], false⟩, ⟨[91], [], [], [], false⟩] [0, 1, 2, 3, 4, 5, 6, 7, 8, 9, 10, 11, 12, 13, 14, 15, 16, 17, 18, 19, 20, 21, 22, 23, 24, 25, 26, 27, 28, 29, 30, 31, 32, 33, 34, 35, 36, 37, 38, 39, 40, 41, 42, 43, 44, 45] [[], [0], [0, 1], [0, 1, 2], [], [], [5], [5, 6], [5, 6, 7], [5, 6, 7, 8], [4, 5, 6, 7, 8, 9], [0, 1, 2, 3, 4, 5, 6, 7, 8, 9, 10], [0, 1, 2, 3, 4, 5, 6, 7, 8, 9, 10, 11], [0, 1, 2, 3, 4, 5, 6, 7, 8, 9, 10, 11, 12], [0, 1, 2, 3, 4, 5, 6, 7, 8, 9, 10, 11, 12, 13], [], [15], [15, 16], [15, 16, 17], [], [19], [19, 20], [], [22], [22, 23], [22, 23, 24], [22, 23, 24, 25], [19, 20, 21, 22, 23, 24, 25, 26], [15, 16, 17, 18, 19, 20, 21, 22, 23, 24, 25, 26, 27], [15, 16, 17, 18, 19, 20, 21, 22, 23, 24, 25, 26, 27, 28], [15, 16, 17, 18, 19, 20, 21, 22, 23, 24, 25, 26, 27, 28, 29], [15, 16, 17, 18, 19, 20, 21, 22, 23, 24, 25, 26, 27, 28, 29, 30], [0, 1, 2, 3, 4, 5, 6, 7, 8, 9, 10, 11, 12, 13, 14, 15, 16, 17, 18, 19, 20, 21, 22, 23, 24, 25, 26, 27, 28, 29, 30, 31], [], [33], [0, 1, 2, 3, 4, 5, 6, 7, 8, 9, 10, 11, 12, 13, 14, 15, 16, 17, 18, 19, 20, 21, 22, 23, 24, 25, 26, 27, 28, 29, 30, 31, 32, 33, 34], [], [], [37], [37, 38], [37, 38, 39], [37, 38, 39, 40], [36, 37, 38, 39, 40, 41], [36, 37, 38, 39, 40, 41, 42], [0, 1, 2, 3, 4, 5, 6, 7, 8, 9, 10, 11, 12, 13, 14, 15, 16, 17, 18, 19, 20, 21, 22, 23, 24, 25, 26, 27, 28, 29, 30, 31, 32, 33, 34, 35, 36, 37, 38, 39, 40, 41, 42, 43], [0, 1, 2, 3, 4, 5, 6, 7, 8, 9, 10, 11, 12, 13, 14, 15, 16, 17, 18, 19, 20, 21, 22, 23, 24, 25, 26, 27, 28, 29, 30, 31, 32, 33, 34, 35, 36, 37, 38, 39, 40, 41, 42, 43, 44]] 1 rfl (by simp) (by decide +kernel) (by simp) ?_)
  intro O A K hO hA hK
  have o0 := opGet hO 0 _ rfl
  have o1 := opGet hO 1 _ rfl
  have o2 := opGet hO 2 _ rfl
  have o3 := opGet hO 3 _ rfl
  have o4 := opGet hO 4 _ rfl
  have o5 := opGet hO 5 _ rfl
  have o6 := opGet hO 6 _ rfl
  have o7 := opGet hO 7 _ rfl
  have o8 := opGet hO 8 _ rfl
  have o9 := opGet hO 9 _ rfl
  have o10 := opGet hO 10 _ rfl
  have o11 := opGet hO 11 _ rfl
  have o12 := opGet hO 12 _ rfl
  have o13 := opGet hO 13 _ rfl
  have o14 := opGet hO 14 _ rfl
  have o15 := opGet hO 15 _ rfl
  have o16 := opGet hO 16 _ rfl
  have o17 := opGet hO 17 _ rfl
  have o18 := opGet hO 18 _ rfl
  have o19 := opGet hO 19 _ rfl
  have o20 := opGet hO 20 _ rfl
  have o21 := opGet hO 21 _ rfl
  have o22 := opGet hO 22 _ rfl
  have o23 := opGet hO 23 _ rfl
  have o24 := opGet hO 24 _ rfl
  have o25 := opGet hO 25 _ rfl
  have o26 := opGet hO 26 _ rfl
  have o27 := opGet hO 27 _ rfl
  have o28 := opGet hO 28 _ rfl
  have o29 := opGet hO 29 _ rfl
  have o30 := opGet hO 30 _ rfl
  have o31 := opGet hO 31 _ rfl
  have o32 := opGet hO 32 _ rfl
  have o33 := opGet hO 33 _ rfl
  have o34 := opGet hO 34 _ rfl
  have o35 := opGet hO 35 _ rfl
  have o36 := opGet hO 36 _ rfl
  have o37 := opGet hO 37 _ rfl
  have o38 := opGet hO 38 _ rfl
  have o39 := opGet hO 39 _ rfl
  have o40 := opGet hO 40 _ rfl
  have o41 := opGet hO 41 _ rfl
  have o42 := opGet hO 42 _ rfl
  have o43 := opGet hO 43 _ rfl
  have o44 := opGet hO 44 _ rfl
  have o45 := opGet hO 45 _ rfl
  have a0 := opGet hA 0 _ rfl
  have a1 := opGet hA 1 _ rfl
  have a2 := opGet hA 2 _ rfl
  have a3 := opGet hA 3 _ rfl
  have a4 := opGet hA 4 _ rfl
  have a5 := opGet hA 5 _ rfl
  have a6 := opGet hA 6 _ rfl
  have a7 := opGet hA 7 _ rfl
  have a8 := opGet hA 8 _ rfl
  have a9 := opGet hA 9 _ rfl
  have a10 := opGet hA 10 _ rfl
  have a11 := opGet hA 11 _ rfl
  have a12 := opGet hA 12 _ rfl
  have a13 := opGet hA 13 _ rfl
  have a14 := opGet hA 14 _ rfl
  have a15 := opGet hA 15 _ rfl
  have a16 := opGet hA 16 _ rfl
  have a17 := opGet hA 17 _ rfl
  have a18 := opGet hA 18 _ rfl
  have a19 := opGet hA 19 _ rfl
  have a20 := opGet hA 20 _ rfl
  have a21 := opGet hA 21 _ rfl
  have a22 := opGet hA 22 _ rfl
  have a23 := opGet hA 23 _ rfl
  have a24 := opGet hA 24 _ rfl
  have a25 := opGet hA 25 _ rfl
  have a26 := opGet hA 26 _ rfl
  have a27 := opGet hA 27 _ rfl
  have a28 := opGet hA 28 _ rfl
  have a29 := opGet hA 29 _ rfl
  have a30 := opGet hA 30 _ rfl
  have a31 := opGet hA 31 _ rfl
  have a32 := opGet hA 32 _ rfl
  have a33 := opGet hA 33 _ rfl
  have a34 := opGet hA 34 _ rfl
  have a35 := opGet hA 35 _ rfl
  have a36 := opGet hA 36 _ rfl
  have a37 := opGet hA 37 _ rfl
  have a38 := opGet hA 38 _ rfl
  have a39 := opGet hA 39 _ rfl
  have a40 := opGet hA 40 _ rfl
  have a41 := opGet hA 41 _ rfl
  have a42 := opGet hA 42 _ rfl
  have a43 := opGet hA 43 _ rfl
  have a44 := opGet hA 44 _ rfl
  have a45 := opGet hA 45 _ rfl
  clear hO hA
  simp -implicitDefEqProofs (disch := omega) only [go_sem, o0, a0, o1, a1, o2, a2, o3, a3, o4, a4, o5, a5, o6, a6, o7, a7, o8, a8, o9, a9, o10, a10, o11, a11, o12, a12, o13, a13, o14, a14, o15, a15, o16, a16, o17, a17, o18, a18, o19, a19, o20, a20, o21, a21, o22, a22, o23, a23, o24, a24, o25, a25, o26, a26, o27, a27, o28, a28, o29, a29, o30, a30, o31, a31, o32, a32, o33, a33, o34, a34, o35, a35, o36, a36, o37, a37, o38, a38, o39, a39, o40, a40, o41, a41, o42, a42, o43, a43, o44, a44, o45, a45]
  refine hK _ ?_
  simp -implicitDefEqProofs (disch := omega) only [go_sem]
  generalize hx : (↑(bs.getD (q.tmod ↑bs.length).toNat 0) * 131 + ↑(bs.getD ((q * 7 + 3).tmod ↑bs.length).toNat 0) * 1117 + q * 29 + q.tdiv ↑bs.length * 53 : Int) = x
  have hx0 : 0 ≤ x ∧ x ≤ 1099511627776 * 100 := by omega
  have hx1 : 0 ≤ x.tdiv 64 := Int.tdiv_nonneg hx0.1 (by omega)
  have hx2 : x.tdiv 64 ≤ x := Int.tdiv_le_self _ hx0.1
  have hx3 := xor64 x (x.tdiv 64) (by omega) (by omega) (by omega) (by omega)
  refine wpM_seq ?_
  refine wpM_regionK [1, 6] rfl ?_; intro Q1 hQ1
  simp -implicitDefEqProofs (disch := omega) only [go_sem]
  refine hQ1 _ _ ?_
  simp -implicitDefEqProofs (disch := omega) only [go_sem]
  refine wpM_seq ?_
  refine wpM_regionK [4] rfl ?_; intro Q1 hQ1
  simp -implicitDefEqProofs (disch := omega) only [go_sem]
  refine hQ1 _ _ ?_
  simp -implicitDefEqProofs (disch := omega) only [go_sem]
  refine wpM_ret ?_
  exact fin _ _ rfl rfl rfl rfl rfl (Int.tmod_nonneg _ hx3.1) (fun _ => Int.tmod_lt_of_pos _ (by omega)) (fun h => by omega)
def numO (id : Nat) (bs : List Nat) (q : Int) (l : List Int) (_ : List Nat) (o : COut) : Prop :=
  ∃ k : Int, o = { rs := [.int .i64 k], u := [(id, some (rdObj bs (q + 1)))] } ∧ k ∈ l
theorem num_ok (id lid : Nat) (bs : List Nat) (q : Int) (l : List Int) (n : Nat) (hn : l.length = n) (hn0 : 0 < n) (hn1 : n ≤ 1000) (hne : id ≠ lid) (hbs : Bs bs) (hq0 : 0 ≤ q) (hq : q ≤ 1099511627776) :
    CallF Tryz.prog 46 [.ptr id 0, .sl 3 lid 0 n] [(id, rdObj bs q), (lid, .cells 3 (ints l))] 0 (numO id bs q l) := by
  refine callF_of' Tryz.func46 rfl Tryz.ntmps46 (by simp) ?_
  intro f0 B ns Q hB hns hQ
  have hid : id < B := hB id (by simp [hasKey, lk])
  have hlid : lid < B := hB lid (by simp [hasKey, lk, hne])
  obtain rfl : ns = [] := List.eq_nil_of_length_eq_zero hns
  refine wpM_seq ?_
  refine wpM_regionK [0, 1] rfl ?_; intro Q1 hQ1
  simp -implicitDefEqProofs (disch := omega) only [go_sem]
  refine hQ1 _ _ ?_
  simp -implicitDefEqProofs (disch := omega) only [go_sem]
  refine wpM_seq ?_
  refine wpM_regionK [4] rfl ?_; intro Q1 hQ1
  simp -implicitDefEqProofs (disch := omega) only [go_sem]
  refine call_fn (pick_ok id bs q n hbs hq0 hq (by omega)) Tryz.call44 rfl rfl rfl rfl T_ ?_
  rintro out ⟨k, rfl, k1, k2, k3⟩
  simp -implicitDefEqProofs (disch := omega) only [go_sem, hne, Nat.mul_one]
  refine hQ1 _ _ ?_
  simp -implicitDefEqProofs (disch := omega) only [go_sem]
  refine wpM_ret (hQ _ _ (ret0 [(id, some (rdObj bs (q + 1)))] rfl rfl rfl (by rw [Tryz.results46]; rfl) ⟨_, rfl, ?_⟩ ?_ ?_ ?_ ?_))
  · rw [List.getD_eq_getElem?_getD, List.getElem?_eq_getElem (by omega)]; exact List.getElem_mem _
  all_goals simp -implicitDefEqProofs (disch := omega) only [go_sem, hne, rdObj]
theorem u8s_take (l : List Nat) (k : Nat) : (u8s l).take k = u8s (l.take k) := by simp [u8s]
def openO (code : List Nat) (ns : List Nat) (o : COut) : Prop :=
  ∃ j bs, ns = [j] ∧ Bs bs ∧ o = { rs := [.ptr j 0], nw := [(j, rdObj bs 0)] } ∧ bs = code.take 2000
theorem open_ok (code : List Nat) (hc : ∀ x ∈ code, x < 256) (hl : code.length ≤ 1099511627776) :
    CallF Tryz.prog 20 [.rows 5 (u8s code)] [] 1 (openO code) := by
  refine callF_of' Tryz.func20 rfl Tryz.ntmps20 (by simp) ?_
  intro f0 B ns Q hB hns hQ
  obtain ⟨j, rfl⟩ : ∃ j, ns = [j] := by
    match ns, hns with
    | [j], _ => exact ⟨j, rfl⟩
  have hbs : Bs (code.take 2000) := ⟨fun x hx => hc x (List.mem_of_mem_take hx), by simp; omega⟩
  refine wpM_seq ?_
  refine wpM_regionK [0] rfl ?_; intro Q1 hQ1
  simp -implicitDefEqProofs (disch := omega) only [go_sem]
  refine hQ1 _ _ ?_
  simp -implicitDefEqProofs (disch := omega) only [go_sem]
  refine wpM_cut (fun s => s = ⟨[(0, .rows 5 (u8s (code.take 2000)))], [], f0, B, B, []⟩) ?_ ?_
  · refine wpM_seq ?_
    refine wpM_regionK [0, 5] rfl ?_; intro Q1 hQ1
    simp -implicitDefEqProofs (disch := omega) only [go_sem]
    refine hQ1 _ _ ?_
    simp -implicitDefEqProofs (disch := omega) only [go_sem]
    refine wpM_condK ?_
    simp -implicitDefEqProofs (disch := omega) only [go_sem]
    refine ⟨fun h => ?_, fun h => ?_⟩
    · refine wpM_regionK [0] rfl ?_; intro Q1 hQ1
      simp -implicitDefEqProofs (disch := omega) only [go_sem, u8s_take]
      refine hQ1 _ _ ?_
      simp -implicitDefEqProofs (disch := omega) only [go_sem]
      refine .of rfl ?_ ?_ ?_ rfl rfl (Nat.le_refl _) rfl <;> simp -implicitDefEqProofs (disch := omega) only [go_sem, u8s_take, Int.reduceToNat]
    · refine wpM_skip ?_
      simp -implicitDefEqProofs (disch := omega) only [go_sem]
      have e : code.take 2000 = code := List.take_of_length_le (by omega)
      rw [e]
      refine .of rfl ?_ ?_ ?_ rfl rfl (Nat.le_refl _) rfl <;> simp -implicitDefEqProofs (disch := omega) only [go_sem]
  rintro s' rfl
  refine wpM_seq ?_
  refine wpM_regionK [2] rfl ?_; intro Q1 hQ1
  simp -implicitDefEqProofs (disch := omega) only [go_sem]
  refine hQ1 _ _ ?_
  simp -implicitDefEqProofs (disch := omega) only [go_sem]
  refine wpM_ret (hQ _ _ (retK [B] [] [(j, rdObj (code.take 2000) 0)] rfl rfl rfl (by rw [Tryz.results20]; rfl) ?_ ⟨j, _, rfl, hbs, rfl, rfl⟩ ?_ ?_ ?_ ?_ ?_ ?_))
  all_goals simp -implicitDefEqProofs (disch := omega) only [go_sem, rdObj, List.nodup_cons, List.nodup_nil]
end Go.Proofs.YtmicbfojofcigaaGreat
namespace Go.Proofs.YtmicbfojofcigaaGreat
open Go Sg
set_option maxRecDepth 100000
set_option linter.unusedSectionVars false
class Tab extends Glob where
  pw : List Int
  hlen : pw.length = 20
  tab0 : tab 0 = some (pw.map (.int .u64))
variable [Tab]
@[go_sem] theorem tab_pw : Glob.tab 0 = some (Tab.pw.map (.int .u64)) := Tab.tab0
end Go.Proofs.YtmicbfojofcigaaGreat
namespace Go.Proofs.YtmicbfojofcigaaGreat
open Go Sg
set_option linter.unusedSectionVars false
variable [Glob]
set_option maxRecDepth 100000
set_option linter.unusedSimpArgs false
set_option linter.unusedVariables false
set_option maxHeartbeats 4000000
def cut (n : Int) : Int := max (-1000000) (min 1000000 n)
theorem l1Max_ok (a b : Int) : PureF Tryz.prog 40 [.int .i64 a, .int .i64 b] [.int .i64 (max a b)] := by
  refine pureF_of Tryz.func40 rfl Tryz.ntmps40 (by simp) T_ ?_
  intro f0 B Q hQ
  refine g_ [0,1] ?_
  refine g_ [0,1,7] ?_
  refine c_ (fun hc0 => ?_) fun hc0 => ?_
  ·
    refine g_ [4] ?_
    refine e_ Tryz.results40 ?_
    first
    | exact True.intro
    | omega
  refine g_ [4] ?_
  refine e_ Tryz.results40 ?_
  first
  | exact True.intro
  | omega
theorem l1Min_ok (a b : Int) : PureF Tryz.prog 87 [.int .i64 a, .int .i64 b] [.int .i64 (min a b)] := by
  refine pureF_of Tryz.func87 rfl Tryz.ntmps87 (by simp) T_ ?_
  intro f0 B Q hQ
  refine g_ [0,1] ?_
  refine g_ [0,1,7] ?_
  refine c_ (fun hc0 => ?_) fun hc0 => ?_
  ·
    refine g_ [4] ?_
    refine e_ Tryz.results87 ?_
    first
    | exact True.intro
    | omega
  refine g_ [4] ?_
  refine e_ Tryz.results87 ?_
  first
  | exact True.intro
  | omega
theorem cut_ok (n : Int) : PureF Tryz.prog 52 [.int .i64 n] [.int .i64 (cut n)] := by
  refine pureF_of Tryz.func52 rfl Tryz.ntmps52 (by simp) T_ ?_
  intro f0 B Q hQ
  refine g_ [0] ?_
  refine n_ ?_
  refine wpM_regionK [2] rfl fun Q1 hQ1 => ?_
  refine S_ ?_
  refine cp_ (l1Min_ok 1000000 n) Tryz.call87 ?_
  refine cp_ (l1Max_ok (-1000000) (min 1000000 n)) Tryz.call40 ?_
  refine hQ1 _ _ (S_ ?_);clear hQ1 Q1
  refine e_ Tryz.results52 ?_
  first
  | exact True.intro
  | rfl
structure AD where
  kind : Int
  at' : Int
  deriving DecidableEq, Inhabited
def AD.cs (a : AD) : List PV := [.int .i64 a.kind, .int .i64 a.at']
@[go_sem] theorem AD.cs_eq (a : AD) : a.cs = [.int .i64 a.kind, .int .i64 a.at'] := rfl
theorem eqAD (d : Nat) (a b c e : Int) : eqA Tryz.prog (d + 2) 24 (.agg [.int .i64 a, .int .i64 b]) (.agg [.int .i64 c, .int .i64 e]) = some (a == c && b == e) := by
  unfold eqA
  simp only [Tryz.underlying24, Tryz.stoodInHeld24, Bool.false_eq_true, if_false, eqFs]
  simp -implicitDefEqProofs (disch := omega) only [go_sem, eqA, eqFs, ne_eq, String.reduceEq]
  cases h1 : a == c <;> cases h2 : b == e <;> simp [eqA, Tryz.underlying3, h1, h2]
@[go_sem] theorem neqAD (x y : Operand) (a b c e : Int) : binOpA Tryz.prog .neq 24 x y (.agg [.int .i64 a, .int .i64 b]) (.agg [.int .i64 c, .int .i64 e]) = some (.bool (!(a == c && b == e))) := by
  simp only [binOpA, Tryz.eqGuardType24]
  rw [eqAD 9998]; rfl
@[go_sem] theorem eqlAD (x y : Operand) (a b c e : Int) : binOpA Tryz.prog .eql 24 x y (.agg [.int .i64 a, .int .i64 b]) (.agg [.int .i64 c, .int .i64 e]) = some (.bool (a == c && b == e)) := by
  simp only [binOpA, Tryz.eqGuardType24]
  rw [eqAD 9998]; rfl
def AD.ok (a : AD) : Bool := decide (a.kind ≥ 1) && decide (a.kind ≤ 3) && decide (a.at' ≥ 0) && decide (a.at' < 6)
theorem addrOk_ok (a : AD) : PureF Tryz.prog 53 [.agg a.cs] [.bool a.ok] := by
  refine pureF_of Tryz.func53 rfl Tryz.ntmps53 (by simp) T_ ?_
  intro f0 B Q hQ
  refine g_ [1] ?_
  refine gD_ [2] ?_
  refine e_ Tryz.results53 ?_
  first
  | exact True.intro
  | rfl
inductive Ex where
  | mk (kind n : Int) (a : AD) (kids : List Ex)
  deriving Inhabited
def Ex.kind : Ex → Int | .mk k _ _ _ => k
def Ex.n : Ex → Int | .mk _ n _ _ => n
def Ex.a : Ex → AD | .mk _ _ a _ => a
def Ex.kids : Ex → List Ex | .mk _ _ _ l => l
mutual
def Ex.cs : Ex → List PV
  | .mk k n a l => [.int .i64 k, .int .i64 n, .int .i64 a.kind, .int .i64 a.at', .rows 27 (Ex.csL l)]
def Ex.csL : List Ex → List (List PV)
  | [] => []
  | e :: l => e.cs :: Ex.csL l
end
@[go_sem] theorem Ex.cs_eq (e : Ex) : e.cs = [.int .i64 e.kind, .int .i64 e.n, .int .i64 e.a.kind, .int .i64 e.a.at', .rows 27 (Ex.csL e.kids)] := by cases e; simp only [Ex.cs, Ex.kind, Ex.n, Ex.a, Ex.kids]
theorem Ex.csL_map (l : List Ex) : Ex.csL l = l.map Ex.cs := by
  induction l with
  | nil => rfl
  | cons e l ih => simp [Ex.csL, ih]
@[go_sem] theorem Ex.csL_len (l : List Ex) : (Ex.csL l).length = l.length := by simp [Ex.csL_map]
@[go_sem] theorem Ex.csL_get (l : List Ex) (k : Nat) (h : k < l.length) : (Ex.csL l).getD k [] = (l.getD k default).cs := by simp [Ex.csL_map, List.getD, h]
def kidsN (k : Int) : Int := if k == 1 || k == 2 then 0 else if k == 10 then 1 else if decide (k ≥ 3) && decide (k ≤ 9) then 2 else -1
theorem l3Kids_ok (k : Int) : PureF Tryz.prog 51 [.int .i64 k] [.int .i64 (kidsN k)] := by
  refine pureF_of Tryz.func51 rfl Tryz.ntmps51 (by simp) T_ ?_
  intro f0 B Q hQ
  refine g_ [0] ?_
  refine gD_ [0,3] ?_
  refine c_ (fun hc0 => ?_) fun hc0 => ?_
  ·
    refine g_ [2] ?_
    refine e_ Tryz.results51 ?_
    first
    | exact True.intro
    | simp [kidsN, *]
  refine g_ [0,10] ?_
  refine c_ (fun hc1 => ?_) fun hc1 => ?_
  ·
    refine g_ [2] ?_
    refine e_ Tryz.results51 ?_
    first
    | exact True.intro
    | simp [kidsN, *]
  refine gD_ [13] ?_
  refine c_ (fun hc2 => ?_) fun hc2 => ?_
  ·
    refine g_ [2] ?_
    refine e_ Tryz.results51 ?_
    first
    | exact True.intro
    | simp [kidsN, *]
  refine g_ [2] ?_
  refine e_ Tryz.results51 ?_
  first
  | exact True.intro
  | simp [kidsN, *]
end Go.Proofs.YtmicbfojofcigaaGreat
namespace Go.Proofs.YtmicbfojofcigaaGreat
open Go Sg
set_option linter.unusedSectionVars false
variable [Glob]
set_option maxRecDepth 100000
set_option linter.unusedSimpArgs false
set_option linter.unusedVariables false
set_option maxHeartbeats 4000000
mutual
def Ex.sz : Ex → Nat | .mk _ _ _ l => 1 + Ex.szL l
def Ex.szL : List Ex → Nat | [] => 0 | e :: l => e.sz + Ex.szL l
end
theorem Ex.sz_eq (e : Ex) : e.sz = 1 + Ex.szL e.kids := by cases e; simp only [Ex.sz, Ex.kids]
theorem Ex.sz_pos (e : Ex) : 0 < e.sz := by rw [Ex.sz_eq]; omega
theorem Ex.len_szL (l : List Ex) : l.length ≤ Ex.szL l := by
  induction l with
  | nil => simp
  | cons e l ih => simp only [List.length_cons, Ex.szL]; have := e.sz_pos; omega
theorem Ex.get_szL (l : List Ex) (k : Nat) (h : k < l.length) : (l.getD k default).sz ≤ Ex.szL l := by
  induction l generalizing k with
  | nil => simp at h
  | cons e l ih =>
    simp only [Ex.szL]
    cases k with
    | zero => simp
    | succ k =>
      have := ih k (by simpa using h)
      simp only [List.getD_cons_succ]; omega
theorem Ex.kid_sz {e : Ex} {k : Nat} (h : k < e.kids.length) : (e.kids.getD k default).sz < e.sz := by
  have := Ex.get_szL e.kids k h
  rw [Ex.sz_eq e]; omega
theorem Ex.kids_len (e : Ex) : e.kids.length < e.sz := by
  have := Ex.len_szL e.kids
  rw [Ex.sz_eq e]; omega
def formD : Nat → Ex → Bool
  | 0, _ => false
  | d + 1, e => if kidsN e.kind != (e.kids.length : Int) then false
    else if (e.kind == 1 && cut e.n != e.n) || (e.kind != 1 && e.n != 0) then false
    else if (e.kind == 2 && !e.a.ok) || (e.kind != 2 && !(e.a.kind == 0 && e.a.at' == 0)) then false
    else e.kids.all (formD d)
theorem take_all {α : Type} [Inhabited α] (p : α → Bool) (l : List α) (i : Nat) (h : i < l.length) : (l.take (i + 1)).all p = ((l.take i).all p && p (l.getD i default)) := by
  rw [List.take_succ_eq_append_getElem h, List.all_append]
  simp [List.getD, h]
theorem all_no {α : Type} [Inhabited α] {p : α → Bool} {l : List α} {i : Nat} (h : i < l.length) (hp : (!p (l.getD i default)) = true) : l.all p = false := by
  rw [List.all_eq_false]
  refine ⟨l.getD i default, ?_, by simpa using hp⟩
  rw [List.getD_eq_getElem?_getD, List.getElem?_eq_getElem h]; exact List.getElem_mem h
theorem all_yes {α : Type} [Inhabited α] {p : α → Bool} {l : List α} {i n : Nat} (hi : i + n = l.length) (h : ¬ (i : Int) < (l.length : Int)) (hp : (l.take i).all p = true) : l.all p = true := by
  have : i = l.length := by omega
  rwa [List.take_of_length_le (by omega)] at hp
theorem l3Form_ok (d : Nat) : ∀ (e : Ex) (deep : Int), deep.toNat = d → deep ≤ 1000000 → e.sz ≤ 1099511627776 → PureF Tryz.prog 26 [.agg e.cs, .int .i64 deep] [.bool (formD d e)] := by
  induction d with
  | zero =>
    intro e deep hd hdl hs
    have hlen := e.kids_len
    refine pureF_of Tryz.func26 rfl Tryz.ntmps26 (by simp) T_ ?_
    intro f0 B Q hQ
    have hlt : deep < 1 := by omega
    refine g_ [1,2] ?_
    refine n_ ?_
    refine dr_ mixed [1,2,16] 0 1 [B] [⟨[1],[],[],[],false⟩,⟨[6],[],[],[],false⟩,⟨[7],[],[],[],false⟩,⟨[2,8],[],[],[],false⟩,⟨[8,9],[0],[],[],false⟩,⟨[8,10],[],[],[],true⟩,⟨[2,8],[],[],[],false⟩,⟨[8,12],[0],[],[],false⟩,⟨[8,13],[],[],[],false⟩,⟨[8,11,14],[],[],[],false⟩,⟨[8,15],[],[],[],false⟩] [0,1,2,3,4,6,7,8,5,9,10] [[],[0],[0,1],[0,1,2],[0,1,2,3],[0,1,2,3,4],[0,1,2],[0,1,2,6],[0,1,2,6,7],[0,1,2,3,4,5,6,7,8],[0,1,2,3,4,5,6,7,8,9]] 1 ?_
    intro O A K hO hA hK;simp only [atL_cons,atL_nil,Nat.reduceAdd,Nat.zero_add] at hO hA
    refine SE_ ?_
    first | refine lg_ (fun hb => l3Kids_ok e.kind) Tryz.call51 ?_ | refine lpE_ (l3Kids_ok e.kind) Tryz.call51 ?_
    refine hK _ (S_ ?_);clear hK K hO hA O A
    refine c_ (fun hc0 => ?_) fun hc0 => ?_
    ·
      refine g_ [4] ?_
      refine e_ Tryz.results26 ?_
      first
      | exact True.intro
      | rfl
    simp [hlt] at hc0
  | succ d ih =>
    intro e deep hd hdl hs
    have hlen := e.kids_len
    refine pureF_of Tryz.func26 rfl Tryz.ntmps26 (by simp) T_ ?_
    intro f0 B Q hQ
    have hlt : decide (deep < 1) = false := by simp; omega
    refine g_ [1,2] ?_
    refine n_ ?_
    refine dr_ mixed [1,2,16] 0 1 [B] [⟨[1],[],[],[],false⟩,⟨[6],[],[],[],false⟩,⟨[7],[],[],[],false⟩,⟨[2,8],[],[],[],false⟩,⟨[8,9],[0],[],[],false⟩,⟨[8,10],[],[],[],true⟩,⟨[2,8],[],[],[],false⟩,⟨[8,12],[0],[],[],false⟩,⟨[8,13],[],[],[],false⟩,⟨[8,11,14],[],[],[],false⟩,⟨[8,15],[],[],[],false⟩] [0,1,2,3,4,6,7,8,5,9,10] [[],[0],[0,1],[0,1,2],[0,1,2,3],[0,1,2,3,4],[0,1,2],[0,1,2,6],[0,1,2,6,7],[0,1,2,3,4,5,6,7,8],[0,1,2,3,4,5,6,7,8,9]] 1 ?_
    intro O A K hO hA hK;simp only [atL_cons,atL_nil,Nat.reduceAdd,Nat.zero_add] at hO hA
    refine SE_ ?_
    first | refine lg_ (fun hb => l3Kids_ok e.kind) Tryz.call51 ?_ | refine lpE_ (l3Kids_ok e.kind) Tryz.call51 ?_
    refine hK _ (S_ ?_);clear hK K hO hA O A
    refine c_ (fun hc0 => ?_) fun hc0 => ?_
    ·
      rw [hlt, Bool.false_or] at hc0
      refine g_ [4] ?_
      refine e_ Tryz.results26 ?_
      first
      | exact True.intro
      | clear ih hQ
        simp only [formD, *, ↓reduceIte, Bool.false_eq_true] <;> first | exact (all_no hi2 hc4).symm | exact (all_yes hi hc3 hall).symm
    rw [hlt, Bool.false_or] at hc0
    refine n_ ?_
    refine dr_ mixed [1,2,37] 0 1 [B] [⟨[2],[],[],[],false⟩,⟨[17],[0],[],[],false⟩,⟨[18],[],[],[],false⟩,⟨[19],[],[],[],false⟩,⟨[2,20],[],[],[],false⟩,⟨[20,21],[0],[],[],false⟩,⟨[20,22],[],[],[],true⟩,⟨[2,20],[],[],[],false⟩,⟨[20,24],[0],[],[],false⟩,⟨[20,23,25],[],[],[],false⟩,⟨[20,26],[],[],[],false⟩,⟨[27],[],[],[],false⟩,⟨[2,28],[],[],[],false⟩,⟨[28,29],[0],[],[],false⟩,⟨[28,30],[],[],[],false⟩,⟨[28,31],[],[],[],false⟩,⟨[2,32],[],[],[],false⟩,⟨[32,33],[0],[],[],false⟩,⟨[32,34],[],[],[],false⟩,⟨[28,32,35],[],[],[],false⟩,⟨[28,36],[],[],[],false⟩] [0,1,2,3,4,5,7,8,6,9,10,11,12,13,14,15,16,17,18,19,20] [[],[0],[0,1],[0,1,2],[0,1,2,3],[0,1,2,3,4],[0,1,2,3,4,5],[0,1,2,3],[0,1,2,3,7],[0,1,2,3,4,5,6,7,8],[0,1,2,3,4,5,6,7,8,9],[0,1,2,3,4,5,6,7,8,9,10],[0,1,2,3,4,5,6,7,8,9,10,11],[0,1,2,3,4,5,6,7,8,9,10,11,12],[0,1,2,3,4,5,6,7,8,9,10,11,12,13],[0,1,2,3,4,5,6,7,8,9,10,11,12,13,14],[0,1,2,3,4,5,6,7,8,9,10,11,12,13,14,15],[0,1,2,3,4,5,6,7,8,9,10,11,12,13,14,15,16],[0,1,2,3,4,5,6,7,8,9,10,11,12,13,14,15,16,17],[0,1,2,3,4,5,6,7,8,9,10,11,12,13,14,15,16,17,18],[0,1,2,3,4,5,6,7,8,9,10,11,12,13,14,15,16,17,18,19]] 1 ?_
    intro O A K hO hA hK;simp only [atL_cons,atL_nil,Nat.reduceAdd,Nat.zero_add] at hO hA
    refine SE_ ?_
    first | refine lg_ (fun hb => cut_ok e.n) Tryz.call52 ?_ | refine lpE_ (cut_ok e.n) Tryz.call52 ?_
    refine hK _ (S_ ?_);clear hK K hO hA O A
    refine c_ (fun hc1 => ?_) fun hc1 => ?_
    ·
      refine g_ [4] ?_
      refine e_ Tryz.results26 ?_
      first
      | exact True.intro
      | clear ih hQ
        simp only [formD, *, ↓reduceIte, Bool.false_eq_true] <;> first | exact (all_no hi2 hc4).symm | exact (all_yes hi hc3 hall).symm
    refine n_ ?_
    refine wpM_regionK [1,2,57] rfl fun Q1 hQ1 => ?_
    refine SD_ ?_
    first | refine cg_ (fun hb => addrOk_ok e.a) Tryz.call53 ?_ | refine cpD_ (addrOk_ok e.a) Tryz.call53 ?_
    refine hQ1 _ _ (S_ ?_);clear hQ1 Q1
    refine c_ (fun hc2 => ?_) fun hc2 => ?_
    ·
      refine g_ [4] ?_
      refine e_ Tryz.results26 ?_
      first
      | exact True.intro
      | clear ih hQ
        simp only [formD, *, ↓reduceIte, Bool.false_eq_true] <;> first | exact (all_no hi2 hc4).symm | exact (all_yes hi hc3 hall).symm
    refine g_ [1,2,5] ?_
    refine n_ ?_
    refine wpM_loopS (fun s n s' => ∃ i M : Nat, i + n = e.kids.length ∧ s.M ≤ M ∧ (e.kids.take i).all (formD d) = true ∧ s' = { s with env := setE 5 (.int .i64 i) s.env, M := M }) (e.kids.length) ?_ ?_
    ·
      refine .of ⟨0, _, by omega, Nat.le_refl _, by simp, rfl⟩ ?_ ?_ ?_ rfl rfl (Nat.le_refl _) rfl <;> exact L_
    rintro n s' ⟨i, M, hi, hM, hall, rfl⟩
    try refine S_ ?_
    refine g_ [1,2,5,62] ?_
    refine c_ (fun hc3 => ?_) fun hc3 => ?_
    ·
      have hi2 : i < e.kids.length := by omega
      refine n_ ?_
      refine wpM_regionK [1,2,5,73] rfl fun Q1 hQ1 => ?_
      refine S_ ?_
      refine cp_ (ih (e.kids.getD i default) (deep - 1) (by omega) (by omega) (by have := Ex.kid_sz hi2; omega)) Tryz.call26 ?_
      refine hQ1 _ _ (S_ ?_);clear hQ1 Q1
      refine c_ (fun hc4 => ?_) fun hc4 => ?_
      ·
        refine g_ [4] ?_
        refine e_ Tryz.results26 ?_
        first
        | exact True.intro
        | clear ih hQ
          simp only [formD, *, ↓reduceIte, Bool.false_eq_true] <;> first | exact (all_no hi2 hc4).symm | exact (all_yes hi hc3 hall).symm
      refine g_ [1,2,5] ?_
      refine .of ⟨n - 1, by omega, i + 1, M, by omega, hM, ?_, rfl⟩ ?_ ?_ ?_ rfl rfl (Nat.le_refl _) rfl
      · rw [take_all _ _ _ hi2, hall]; simp at hc4; simp [hc4]
      all_goals exact L_
    refine g_ [4] ?_
    refine e_ Tryz.results26 ?_
    first
    | exact True.intro
    | clear ih hQ
      simp only [formD, *, ↓reduceIte, Bool.false_eq_true] <;> first | exact (all_no hi2 hc4).symm | exact (all_yes hi hc3 hall).symm
def manyD : Nat → Ex → Nat
  | 0, _ => 1
  | d + 1, e => 1 + (e.kids.map (manyD d)).sum
theorem manyD_le (d : Nat) : ∀ e : Ex, manyD d e ≤ e.sz := by
  induction d with
  | zero => intro e; exact e.sz_pos
  | succ d ih =>
    intro e
    have h : ∀ l : List Ex, (l.map (manyD d)).sum ≤ Ex.szL l := by
      intro l
      induction l with
      | nil => simp [Ex.szL]
      | cons x l ihl => simp only [List.map_cons, List.sum_cons, Ex.szL]; have := ih x; omega
    have := h e.kids
    rw [Ex.sz_eq]; simp only [manyD]; omega
theorem take_sum {α : Type} [Inhabited α] (f : α → Nat) (l : List α) (i : Nat) (h : i < l.length) : ((l.take (i + 1)).map f).sum = ((l.take i).map f).sum + f (l.getD i default) := by
  rw [List.take_succ_eq_append_getElem h, List.map_append, List.sum_append]
  simp [List.getD, h]
theorem take_sum_le {α : Type} (f : α → Nat) (l : List α) (i : Nat) : ((l.take i).map f).sum ≤ (l.map f).sum := by
  have : (l.map f).sum = ((l.take i).map f).sum + ((l.drop i).map f).sum := by rw [← List.sum_append, ← List.map_append, List.take_append_drop]
  omega
theorem l3Many_ok (d : Nat) : ∀ (e : Ex) (deep : Int), deep.toNat = d → deep ≤ 1000000 → e.sz ≤ 1099511627776 → PureF Tryz.prog 27 [.agg e.cs, .int .i64 deep] [.int .i64 (manyD d e : Nat)] := by
  induction d with
  | zero =>
    intro e deep hd hdl hs
    have hlen := e.kids_len
    refine pureF_of Tryz.func27 rfl Tryz.ntmps27 (by simp) T_ ?_
    intro f0 B Q hQ
    have hlt : decide (deep > 0) = false := by simp; omega
    refine g_ [1,2] ?_
    refine g_ [1,2,5] ?_
    refine g_ [1,2,5,6] ?_
    refine n_ ?_
    refine wpM_loopS (fun s n s' => s' = s) (0) ?_ ?_
    ·
      exact .here rfl
    rintro n s' rfl
    try refine S_ ?_
    refine gD_ [1,2,5,6,15] ?_
    refine c_ (fun hc0 => ?_) fun hc0 => ?_
    · simp [hlt] at hc0
    refine g_ [4] ?_
    refine e_ Tryz.results27 ?_
    first
    | exact True.intro
    | rfl
  | succ d ih =>
    intro e deep hd hdl hs
    have hlen := e.kids_len
    refine pureF_of Tryz.func27 rfl Tryz.ntmps27 (by simp) T_ ?_
    intro f0 B Q hQ
    have hlt : decide (deep > 0) = true := by simp; omega
    have hmx := manyD_le (d + 1) e
    refine g_ [1,2] ?_
    refine g_ [1,2,5] ?_
    refine g_ [1,2,5,6] ?_
    refine n_ ?_
    refine wpM_loopS (fun s n s' => ∃ i M : Nat, i + n = e.kids.length ∧ s.M ≤ M ∧ s' = { s with env := setE 6 (.int .i64 (i : Nat)) (setE 5 (.int .i64 ((1 + ((e.kids.take i).map (manyD d)).sum : Nat) : Int)) s.env), M := M }) (e.kids.length) ?_ ?_
    ·
      refine .of ⟨0, _, by omega, Nat.le_refl _, rfl⟩ ?_ ?_ ?_ rfl rfl (Nat.le_refl _) rfl <;> exact L_
    rintro n s' ⟨i, M, hi, hM, rfl⟩
    try refine S_ ?_
    refine n_ ?_
    refine wpM_regionK [1,2,5,6,15] rfl fun Q1 hQ1 => ?_
    simp (contextual := true) (maxSteps := 1000000) (implicitDefEqProofs := false) (disch := first | omega | (simp only [decide_eq_true_eq, decide_eq_false_iff_not, Bool.and_eq_true, Bool.or_eq_false_iff, Bool.not_eq_true'] at *; omega)) only [go_sem, hlt, Bool.and_true]
    refine hQ1 _ _ (S_ ?_);clear hQ1 Q1
    refine c_ (fun hc0 => ?_) fun hc0 => ?_
    ·
      have hi2 : i < e.kids.length := by omega
      have hsum := take_sum (manyD d) e.kids i hi2
      have hle := take_sum_le (manyD d) e.kids (i + 1)
      simp only [manyD] at hmx
      rw [hsum] at hle
      refine n_ ?_
      refine wpM_regionK [1,2,5,6] rfl fun Q1 hQ1 => ?_
      refine S_ ?_
      refine cp_ (ih (e.kids.getD i default) (deep - 1) (by omega) (by omega) (by have := Ex.kid_sz hi2; omega)) Tryz.call27 ?_
      refine hQ1 _ _ (S_ ?_);clear hQ1 Q1
      refine g_ [1,2,5,6] ?_
      refine .of ⟨n - 1, by omega, i + 1, M, by omega, hM, rfl⟩ ?_ ?_ ?_ rfl rfl (Nat.le_refl _) rfl
      · simp -implicitDefEqProofs (disch := omega) only [go_sem, PV.int.injEq]
        rw [hsum]
        constructor <;> omega
      all_goals exact L_
    refine g_ [4] ?_
    refine e_ Tryz.results27 ?_
    first
    | exact True.intro
    | have hie : i = e.kids.length := by omega
      simp only [manyD]
      rw [hie, List.take_of_length_le (Nat.le_refl _)]
def Ex.ok (e : Ex) : Bool := formD 6 e && decide (manyD 6 e ≤ 14)
theorem exprOk_ok (e : Ex) (hs : e.sz ≤ 1099511627776) : PureF Tryz.prog 9 [.agg e.cs] [.bool e.ok] := by
  refine pureF_of Tryz.func9 rfl Tryz.ntmps9 (by simp) T_ ?_
  intro f0 B Q hQ
  refine g_ [1] ?_
  refine n_ ?_
  refine wpM_regionK [2] rfl fun Q1 hQ1 => ?_
  refine SD_ ?_
  refine cpD_ (l3Form_ok 6 e 6 rfl (by omega) hs) Tryz.call26 ?_
  first | refine cg_ (fun hb => l3Many_ok 6 e 6 rfl (by omega) hs) Tryz.call27 ?_ | refine cpD_ (l3Many_ok 6 e 6 rfl (by omega) hs) Tryz.call27 ?_
  refine hQ1 _ _ (S_ ?_);clear hQ1 Q1
  refine e_ Tryz.results9 ?_
  first
  | exact True.intro
  | have : decide ((manyD 6 e : Int) ≤ 14) = decide (manyD 6 e ≤ 14) := by simp; omega
    simp only [Ex.ok, this]
end Go.Proofs.YtmicbfojofcigaaGreat
namespace Go.Proofs.YtmicbfojofcigaaGreat
open Go Sg
set_option linter.unusedSectionVars false
variable [Glob]
set_option maxRecDepth 100000
set_option linter.unusedSimpArgs false
set_option linter.unusedVariables false
set_option maxHeartbeats 4000000
def rowsI (l : List Int) : List (List PV) := l.map fun x => [.int .i64 x]
@[go_sem] theorem rowsI_len (l : List Int) : (rowsI l).length = l.length := by simp [rowsI]
@[go_sem] theorem rowsI_getD (l : List Int) (k : Nat) (h : k < l.length) : (rowsI l).getD k [] = [.int .i64 (l.getD k 0)] := by simp [rowsI, List.getD, h]
structure MM where
  i : List Int
  o : List Int
  v : List Int
  deriving DecidableEq, Inhabited
def MM.cs (m : MM) : List PV := [.rows 3 (rowsI m.i), .rows 3 (rowsI m.o), .rows 3 (rowsI m.v)]
@[go_sem] theorem MM.cs_eq (m : MM) : m.cs = [.rows 3 (rowsI m.i), .rows 3 (rowsI m.o), .rows 3 (rowsI m.v)] := rfl
def listOk (l : List Int) : Bool := l.all (fun x => !(cut x != x)) && (l.length : Int) == 6
def MM.ok (m : MM) : Bool := listOk m.i && listOk m.o && listOk m.v
structure MM.Sm (m : MM) : Prop where
  i : m.i.length ≤ 1099511627776
  o : m.o.length ≤ 1099511627776
  v : m.v.length ≤ 1099511627776
end Go.Proofs.YtmicbfojofcigaaGreat
namespace Go.Proofs.YtmicbfojofcigaaGreat
open Go Sg
set_option linter.unusedSectionVars false
variable [Glob]
set_option maxRecDepth 100000
set_option linter.unusedSimpArgs false
set_option linter.unusedVariables false
set_option maxHeartbeats 4000000
def numIs (b : Bool) : Int := if b then 1 else 0
def two (k a b : Int) : Int := if k == 3 then cut (cut a + cut b) else if k == 4 then cut (cut a - cut b) else if k == 5 then cut (cut a * cut b)
  else if k == 6 then numIs (decide (a < b)) else if k == 7 then numIs (a == b) else if k == 8 then numIs (a != 0 && b != 0) else numIs (a != 0 || b != 0)
def MM.get (m : MM) (a : AD) : Int := if a.kind == 1 then m.i.getD a.at'.toNat 0 else if a.kind == 2 then m.o.getD a.at'.toNat 0 else m.v.getD a.at'.toNat 0
structure MM.Six (m : MM) : Prop where
  i : m.i.length = 6
  o : m.o.length = 6
  v : m.v.length = 6
mutual
def Ex.of (m : MM) : Ex → Int
  | .mk k n a l => if k == 1 then n else if k == 2 then m.get a else if k == 10 then numIs (!((Ex.ofL m l).getD 0 0 != 0)) else two k ((Ex.ofL m l).getD 0 0) ((Ex.ofL m l).getD 1 0)
def Ex.ofL (m : MM) : List Ex → List Int
  | [] => []
  | e :: l => e.of m :: Ex.ofL m l
end
theorem form_inv {d : Nat} {e : Ex} (h : formD (d + 1) e = true) : kidsN e.kind = (e.kids.length : Int) ∧ (e.kind = 2 → e.a.ok = true) ∧ (∀ i, i < e.kids.length → formD d (e.kids.getD i default) = true) := by
  simp only [formD] at h
  split at h
  · cases h
  · rename_i h1
    split at h
    · cases h
    · split at h
      · cases h
      · rename_i h2 h3
        refine ⟨by simpa using h1, fun hk => ?_, fun i hi => ?_⟩
        · simp only [Bool.or_eq_true, Bool.and_eq_true, not_or, not_and, beq_iff_eq, bne_iff_ne] at h3
          have := h3.1 hk; simpa using this
        · rw [List.all_eq_true] at h
          refine h _ ?_
          rw [List.getD_eq_getElem?_getD, List.getElem?_eq_getElem hi]; exact List.getElem_mem hi
theorem kidsN_two {k : Int} (h1 : (k == 1) = false) (h2 : (k == 2) = false) (h3 : (k == 10) = false) (h : 0 ≤ kidsN k) : kidsN k = 2 := by
  simp only [kidsN, h1, h2, h3, Bool.or_false, Bool.false_eq_true, if_false] at h ⊢
  split
  · rfl
  · rename_i hh; rw [if_neg hh] at h; omega
end Go.Proofs.YtmicbfojofcigaaGreat
namespace Go.Proofs.YtmicbfojofcigaaGreat
open Go Sg
set_option linter.unusedSectionVars false
variable [Glob]
set_option maxRecDepth 100000
set_option linter.unusedSimpArgs false
set_option linter.unusedVariables false
set_option maxHeartbeats 4000000
@[go_sem] theorem rowsI_flat (l : List Int) : (rowsI l).flatten = ints l := by
  induction l with
  | nil => rfl
  | cons x l ih => simp only [rowsI, ints, List.map_cons, List.flatten_cons] at ih ⊢; rw [ih]; rfl
@[go_sem] theorem idsL_ints (p : Nat → Prop) (l : List Int) : PV.idsL p (ints l) = True := by
  induction l with
  | nil => simp [ints, PV.idsL]
  | cons x l ih => simp only [ints, List.map_cons, PV.idsL, PV.ids, true_and] at ih ⊢; exact ih
@[go_sem] theorem renL_ints (p : Nat → Nat) (l : List Int) : PV.renL p (ints l) = ints l := by
  induction l with
  | nil => rfl
  | cons x l ih => simp only [ints, List.map_cons, PV.renL, PV.ren] at ih ⊢; rw [ih]
theorem ints_nil : ([] : List PV) = ints [] := rfl
@[go_sem high] theorem splice_ints (l : List Int) (k : Nat) (b : Int) (h : k < l.length) : splice (ints l) k [.int .i64 b] = ints (l.set k b) := by
  simp only [splice, ints, List.length_cons, List.length_nil]
  rw [List.map_set, List.set_eq_take_append_cons_drop, if_pos (by simpa using h)]; simp
theorem rowsOf_ints {f : Nat → Option AObj} {id : Nat} {T : TypeId} {l : List Int} (h : f id = some (.cells T (ints l))) : RowsOf Tryz.prog f 3 id 0 l.length (rowsI l) := by
  refine ⟨by rw [cellsOf3]; omega, by simp [rowsI], ?_, T, _, h, ?_, ?_⟩
  · intro c hc
    simp only [rowsI, List.mem_map] at hc
    obtain ⟨x, _, rfl⟩ := hc
    rw [cellsOf3]; exact ⟨rfl, rfl⟩
  · rw [cellsOf3]; simp [ints]
  · rw [cellsOf3, rowsI_flat]; simp [ints, List.take_of_length_le]
@[go_sem] theorem ints_nil' : ints [] = [] := rfl
def ocs (x y z : Nat) : List PV := [.sl 3 x 0 6, .sl 3 y 0 6, .sl 3 z 0 6]
@[go_sem] theorem ocs_eq (x y z : Nat) : ocs x y z = [.sl 3 x 0 6, .sl 3 y 0 6, .sl 3 z 0 6] := rfl
def MM.ol (m : MM) (x y z : Nat) : List (Nat × AObj) := [(x, .cells 3 (ints m.i)), (y, .cells 3 (ints m.o)), (z, .cells 3 (ints m.v))]
@[go_sem] theorem MM.ol_eq (m : MM) (x y z : Nat) : m.ol x y z = [(x, .cells 3 (ints m.i)), (y, .cells 3 (ints m.o)), (z, .cells 3 (ints m.v))] := rfl
def MM.ou (m : MM) (x y z : Nat) : List (Nat × Option AObj) := [(x, some (.cells 3 (ints m.i))), (y, some (.cells 3 (ints m.o))), (z, some (.cells 3 (ints m.v)))]
@[go_sem] theorem MM.ou_eq (m : MM) (x y z : Nat) : m.ou x y z = [(x, some (.cells 3 (ints m.i))), (y, some (.cells 3 (ints m.o))), (z, some (.cells 3 (ints m.v)))] := rfl
def MM.tb (m : MM) (x y z : Nat) : List (TypeId × Nat × Nat × Nat × List (List PV)) := [(3, x, 0, 6, rowsI m.i), (3, y, 0, 6, rowsI m.o), (3, z, 0, 6, rowsI m.v)]
theorem MM.sub (m : MM) {x y z : Nat} (h1 : x ≠ y) (h2 : x ≠ z) (h3 : y ≠ z) : PV.subL (thOf (m.tb x y z)) (ocs x y z) = m.cs := by
  simp [ocs, MM.cs, PV.subL, PV.sub, thOf, MM.tb, h1, h2, h3]
theorem rowsOf_ints' {f : Nat → Option AObj} {id n : Nat} {T : TypeId} {l : List Int} (h : f id = some (.cells T (ints l))) (hn : l.length = n) : RowsOf Tryz.prog f 3 id 0 n (rowsI l) := by subst hn; exact rowsOf_ints h
theorem MM.tb_ok (m : MM) (hm : m.Six) {f : Nat → Option AObj} {x y z : Nat} (hx : f x = some (.cells 3 (ints m.i))) (hy : f y = some (.cells 3 (ints m.o))) (hz : f z = some (.cells 3 (ints m.v))) : ∀ q ∈ m.tb x y z, RowsOf Tryz.prog f q.1 q.2.1 q.2.2.1 q.2.2.2.1 q.2.2.2.2 := by
  intro q hq
  simp only [MM.tb, List.mem_cons, List.not_mem_nil, or_false] at hq
  rcases hq with rfl | rfl | rfl
  · exact rowsOf_ints' hx hm.i
  · exact rowsOf_ints' hy hm.o
  · exact rowsOf_ints' hz hm.v
theorem MM.frz (m : MM) (hm : m.Six) {f : Nat → Option AObj} {x y z : Nat} (hx : f x = some (.cells 3 (ints m.i))) (hy : f y = some (.cells 3 (ints m.o))) (hz : f z = some (.cells 3 (ints m.v))) : ∀ q ∈ m.tb x y z, q.2.1 ∈ [x, y, z] ∧ RowsOf Tryz.prog f q.1 q.2.1 q.2.2.1 q.2.2.2.1 q.2.2.2.2 := by
  intro q hq
  refine ⟨?_, m.tb_ok hm hx hy hz q hq⟩
  simp only [MM.tb, List.mem_cons, List.not_mem_nil, or_false] at hq
  rcases hq with rfl | rfl | rfl <;> simp
mutual
theorem sub_flatE (θ : TypeId → Nat → Nat → Nat → Option PV) : (e : Ex) → PV.subL θ e.cs = e.cs
  | .mk k n a l => by simp [Ex.cs, PV.subL, PV.sub]
end
theorem sub_rowsB (θ : TypeId → Nat → Nat → Nat → Option PV) (e : TypeId) (r : List (List PV)) : PV.sub θ (.rows e r) = .rows e r := rfl
@[go_sem low] theorem rep_ints (n : Nat) : rep n [.int .i64 0] = ints (List.replicate n 0) := by
  induction n with
  | zero => rfl
  | succ n ih => simp only [rep, ints, List.replicate_succ, List.map_cons, List.flatten_cons] at ih ⊢; rw [ih]; rfl
def MM.put (m : MM) (a : AD) (n : Int) : MM := if a.kind == 2 then { m with o := m.o.set a.at'.toNat (cut n) } else if a.kind == 3 then { m with v := m.v.set a.at'.toNat (cut n) } else m
theorem MM.put_six {m : MM} (hm : m.Six) (a : AD) (n : Int) : (m.put a n).Six := by
  unfold MM.put
  split
  · exact ⟨hm.i, by simp [hm.o], hm.v⟩
  · split
    · exact ⟨hm.i, hm.o, by simp [hm.v]⟩
    · exact hm
end Go.Proofs.YtmicbfojofcigaaGreat
namespace Go.Proofs.YtmicbfojofcigaaGreat
open Go Sg
set_option linter.unusedSectionVars false
variable [Glob]
set_option maxRecDepth 100000
set_option linter.unusedSimpArgs false
set_option linter.unusedVariables false
set_option maxHeartbeats 4000000
def isNum (n : Int) : Bool := decide (n ≥ -1000000) && decide (n ≤ 1000000)
theorem isNum_cut (n : Int) : isNum n = (cut n == n) := by
  unfold isNum cut
  rw [Bool.eq_iff_iff]
  simp only [Bool.and_eq_true, decide_eq_true_eq, beq_iff_eq]
  omega
theorem isNum_ok (n : Int) : PureF Tryz.prog 61 [.int .i64 n] [.bool (isNum n)] := by
  refine pureF_of Tryz.func61 rfl Tryz.ntmps61 (by simp) T_ ?_
  intro f0 B Q hQ
  refine g_ [0] ?_
  refine gD_ [2] ?_
  refine e_ Tryz.results61 ?_
  first
  | exact True.intro
  | rfl
theorem iaddrOk_ok (a : AD) : PureF Tryz.prog 96 [.agg a.cs] [.bool a.ok] := by
  refine pureF_of Tryz.func96 rfl Tryz.ntmps96 (by simp) T_ ?_
  intro f0 B Q hQ
  refine g_ [1] ?_
  refine gD_ [2] ?_
  refine e_ Tryz.results96 ?_
  first
  | exact True.intro
  | rfl
def isTwo (k : Int) : Bool := decide (k ≥ 3) && decide (k ≤ 9)
theorem isTwo_ok (k : Int) : PureF Tryz.prog 58 [.int .i64 k] [.bool (isTwo k)] := by
  refine pureF_of Tryz.func58 rfl Tryz.ntmps58 (by simp) T_ ?_
  intro f0 B Q hQ
  refine g_ [0] ?_
  refine gD_ [2] ?_
  refine e_ Tryz.results58 ?_
  first
  | exact True.intro
  | rfl
def recOf (k : Int) : PV := if k == 1 then .iface 95 (.agg []) else if k == 2 then .iface 96 (.agg []) else if isTwo k then .iface 97 (.agg []) else if k == 10 then .iface 98 (.agg []) else .nilif
@[go_sem] theorem buildA_numReckoning : buildA Tryz.prog 95 [] = some (.agg []) := buildA_of (pl := []) (z := []) zeroA95 (placesA_struct Tryz.underlying95 rfl rfl) []
@[go_sem] theorem buildA_addrReckoning : buildA Tryz.prog 96 [] = some (.agg []) := buildA_of (pl := []) (z := []) zeroA96 (placesA_struct Tryz.underlying96 rfl rfl) []
@[go_sem] theorem buildA_twoReckoning : buildA Tryz.prog 97 [] = some (.agg []) := buildA_of (pl := []) (z := []) zeroA97 (placesA_struct Tryz.underlying97 rfl rfl) []
@[go_sem] theorem buildA_notReckoning : buildA Tryz.prog 98 [] = some (.agg []) := buildA_of (pl := []) (z := []) zeroA98 (placesA_struct Tryz.underlying98 rfl rfl) []
theorem recOf_pure (k : Int) : (recOf k).pure = true := by
  unfold recOf
  repeat' split
  all_goals rfl
theorem recOf_ok (k : Int) : PureF Tryz.prog 31 [.int .i64 k] [recOf k] := by
  refine pureF_of Tryz.func31 rfl Tryz.ntmps31 (by simp) (by simp [PV.pureL, recOf_pure]) ?_
  intro f0 B Q hQ
  refine g_ [0] ?_
  refine g_ [0,3] ?_
  refine c_ (fun hc0 => ?_) fun hc0 => ?_
  ·
    refine g_ [2] ?_
    refine e_ Tryz.results31 ?_
    first
    | exact True.intro
    | simp only [recOf, *, ↓reduceIte, Bool.false_eq_true]
  refine g_ [0,8] ?_
  refine c_ (fun hc1 => ?_) fun hc1 => ?_
  ·
    refine g_ [2] ?_
    refine e_ Tryz.results31 ?_
    first
    | exact True.intro
    | simp only [recOf, *, ↓reduceIte, Bool.false_eq_true]
  refine n_ ?_
  refine wpM_regionK [0,13] rfl fun Q1 hQ1 => ?_
  refine S_ ?_
  refine cp_ (isTwo_ok k) Tryz.call58 ?_
  refine hQ1 _ _ (S_ ?_);clear hQ1 Q1
  refine c_ (fun hc2 => ?_) fun hc2 => ?_
  ·
    refine g_ [2] ?_
    refine e_ Tryz.results31 ?_
    first
    | exact True.intro
    | simp only [recOf, *, ↓reduceIte, Bool.false_eq_true]
  refine g_ [18] ?_
  refine c_ (fun hc3 => ?_) fun hc3 => ?_
  ·
    refine g_ [2] ?_
    refine e_ Tryz.results31 ?_
    first
    | exact True.intro
    | simp only [recOf, *, ↓reduceIte, Bool.false_eq_true]
  refine g_ [2] ?_
  refine e_ Tryz.results31 ?_
  first
  | exact True.intro
  | simp only [recOf, *, ↓reduceIte, Bool.false_eq_true]
theorem kids1_ok : PureF Tryz.prog 131 [.agg []] [.int .i64 0] := by
  refine pureF_of Tryz.func131 rfl Tryz.ntmps131 (by simp) T_ ?_
  intro f0 B Q hQ
  refine g_ [] ?_
  refine g_ [2] ?_
  refine e_ Tryz.results131 ?_
  first
  | exact True.intro
  | rfl
theorem kids2_ok : PureF Tryz.prog 149 [.agg []] [.int .i64 0] := by
  refine pureF_of Tryz.func149 rfl Tryz.ntmps149 (by simp) T_ ?_
  intro f0 B Q hQ
  refine g_ [] ?_
  refine g_ [2] ?_
  refine e_ Tryz.results149 ?_
  first
  | exact True.intro
  | rfl
theorem kids3_ok : PureF Tryz.prog 156 [.agg []] [.int .i64 2] := by
  refine pureF_of Tryz.func156 rfl Tryz.ntmps156 (by simp) T_ ?_
  intro f0 B Q hQ
  refine g_ [] ?_
  refine g_ [2] ?_
  refine e_ Tryz.results156 ?_
  first
  | exact True.intro
  | rfl
theorem kids4_ok : PureF Tryz.prog 169 [.agg []] [.int .i64 1] := by
  refine pureF_of Tryz.func169 rfl Tryz.ntmps169 (by simp) T_ ?_
  intro f0 B Q hQ
  refine g_ [] ?_
  refine g_ [2] ?_
  refine e_ Tryz.results169 ?_
  first
  | exact True.intro
  | rfl
def noAddr (e : Ex) : Bool := e.a.kind == 0 && e.a.at' == 0
theorem shape1_ok (e : Ex) : PureF Tryz.prog 133 [.agg [], .agg e.cs] [.bool (isNum e.n && noAddr e)] := by
  refine pureF_of Tryz.func133 rfl Tryz.ntmps133 (by simp) T_ ?_
  intro f0 B Q hQ
  refine g_ [3] ?_
  refine n_ ?_
  refine wpM_regionK [4] rfl fun Q1 hQ1 => ?_
  refine SD_ ?_
  refine cpD_ (isNum_ok e.n) Tryz.call61 ?_
  refine hQ1 _ _ (S_ ?_);clear hQ1 Q1
  refine e_ Tryz.results133 ?_
  first
  | exact True.intro
  | rfl
theorem shape2_ok (e : Ex) : PureF Tryz.prog 151 [.agg [], .agg e.cs] [.bool (e.a.ok && e.n == 0)] := by
  refine pureF_of Tryz.func151 rfl Tryz.ntmps151 (by simp) T_ ?_
  intro f0 B Q hQ
  refine g_ [3] ?_
  refine n_ ?_
  refine wpM_regionK [4] rfl fun Q1 hQ1 => ?_
  refine SD_ ?_
  refine cpD_ (iaddrOk_ok e.a) Tryz.call96 ?_
  refine hQ1 _ _ (S_ ?_);clear hQ1 Q1
  refine e_ Tryz.results151 ?_
  first
  | exact True.intro
  | rfl
theorem shape3_ok (e : Ex) : PureF Tryz.prog 158 [.agg [], .agg e.cs] [.bool (e.n == 0 && noAddr e)] := by
  refine pureF_of Tryz.func158 rfl Tryz.ntmps158 (by simp) T_ ?_
  intro f0 B Q hQ
  refine g_ [3] ?_
  refine gD_ [4] ?_
  refine e_ Tryz.results158 ?_
  first
  | exact True.intro
  | rfl
theorem shape4_ok (e : Ex) : PureF Tryz.prog 171 [.agg [], .agg e.cs] [.bool (e.n == 0 && noAddr e)] := by
  refine pureF_of Tryz.func171 rfl Tryz.ntmps171 (by simp) T_ ?_
  intro f0 B Q hQ
  refine g_ [3] ?_
  refine gD_ [4] ?_
  refine e_ Tryz.results171 ?_
  first
  | exact True.intro
  | rfl
end Go.Proofs.YtmicbfojofcigaaGreat
namespace Go.Proofs.YtmicbfojofcigaaGreat
open Go Sg
set_option linter.unusedSectionVars false
variable [Glob]
set_option maxRecDepth 100000
set_option linter.unusedSimpArgs false
set_option linter.unusedVariables false
set_option maxHeartbeats 4000000
theorem parts_ok (e : Ex) : CallF Tryz.prog 30 [.agg e.cs] [] 1 (fun ns o => ∃ x, ns = [x] ∧ o = { rs := [.fn (.func 56) [] [.ptr x 0]], nw := [(x, .cells 27 e.cs)] }) := by
  refine callF_of' Tryz.func30 rfl Tryz.ntmps30 (by simp) ?_
  intro f0 B ns Q hB hns hQ
  obtain ⟨x, rfl⟩ : ∃ x, ns = [x] := by
    match ns, hns with
    | [x], _ => exact ⟨x, rfl⟩
  refine g_ [1] ?_
  refine g_ [2] ?_
  refine wpM_ret ?_
  try refine S_ ?_
  refine hQ _ _ (retK [B] [] [(x, .cells 27 e.cs)] rfl rfl rfl (by rw [Tryz.results30] <;> simp (maxSteps := 1000000) -implicitDefEqProofs (disch := omega) only [go_sem] <;> rfl) ?_ ⟨x, rfl, rfl⟩ ?_ ?_ ?_ ?_ ?_ ?_)
  all_goals (first | (simp -implicitDefEqProofs (disch := omega) only [go_sem, List.nodup_cons, List.nodup_nil, true_or, or_true, List.mem_cons, List.not_mem_nil]; done) | (simp -implicitDefEqProofs (disch := omega) only [go_sem, List.nodup_cons, List.nodup_nil, true_or, or_true, List.mem_cons, List.not_mem_nil]; omega))
def rfs : Code → List (Code × Code)
  | .seq a b | .cond _ a b => rfs a ++ rfs b
  | .block _ a | .loop a => rfs a
  | .rangeFunc _ _ a b => [(a, b)]
  | _ => []
def recNil (k : Int) : Bool := !(k == 1 || k == 2 || isTwo k || k == 10)
def kidsR (k : Int) : Int := if k == 10 then 1 else if isTwo k then 2 else 0
def shapeR (e : Ex) : Bool := if e.kind == 1 then isNum e.n && noAddr e else if e.kind == 2 then e.a.ok && e.n == 0 else e.n == 0 && noAddr e
@[go_sem] theorem eql_rec (x : Operand) (v : Value) (k : Int) : binOpA Tryz.prog .eql 59 x (.const v) (recOf k) .nilif = some (.bool (recNil k)) := by
  unfold recOf recNil
  cases h1 : k == 1 <;> cases h2 : k == 2 <;> cases h3 : isTwo k <;> cases h4 : k == 10 <;> simp [binOpA, eqPair, eqA, Tryz.underlying59, isConstOp]
@[go_sem] theorem isConstOp_const (v : Value) : isConstOp (.const v) = true := rfl
theorem rec_meth (k : Int) (hn : recNil k = false) : ∃ t fk fs, recOf k = .iface t (.agg []) ∧
    (∀ args w, (callFunc fk args).run Tryz.prog w = .ok (.enter fk args) w) ∧ (∀ (v : Value) w, (method (Tryz.prog.types.size + Made.depth) t v "loop.example/stopgate/impl.kids").run Tryz.prog w = .ok (fk, v) w) ∧ PureF Tryz.prog fk [.agg []] [.int .i64 (kidsR k)] ∧
    (∀ args w, (callFunc fs args).run Tryz.prog w = .ok (.enter fs args) w) ∧ (∀ (v : Value) w, (method (Tryz.prog.types.size + Made.depth) t v "loop.example/stopgate/impl.shape").run Tryz.prog w = .ok (fs, v) w) ∧ (∀ e : Ex, e.kind = k → PureF Tryz.prog fs [.agg [], .agg e.cs] [.bool (shapeR e)]) := by
  by_cases h1 : k = 1
  · subst h1
    refine ⟨95, 131, 133, rfl, Tryz.call131, method_run info95 Tryz.underlying95 (by simp) (by rfl) rfl rfl, kids1_ok, Tryz.call133, method_run info95 Tryz.underlying95 (by simp) (by rfl) rfl rfl, fun e he => ?_⟩
    have : shapeR e = (isNum e.n && noAddr e) := by simp [shapeR, he]
    rw [this]; exact shape1_ok e
  by_cases h2 : k = 2
  · subst h2
    refine ⟨96, 149, 151, rfl, Tryz.call149, method_run info96 Tryz.underlying96 (by simp) (by rfl) rfl rfl, kids2_ok, Tryz.call151, method_run info96 Tryz.underlying96 (by simp) (by rfl) rfl rfl, fun e he => ?_⟩
    have : shapeR e = (e.a.ok && e.n == 0) := by simp [shapeR, he]
    rw [this]; exact shape2_ok e
  by_cases h3 : isTwo k = true
  · have h10 : (k == 10) = false := by
      simp only [isTwo, Bool.and_eq_true, decide_eq_true_eq] at h3
      simp; omega
    have hk : kidsR k = 2 := by simp [kidsR, h3, h10]
    rw [hk]
    refine ⟨97, 156, 158, by simp [recOf, h1, h2, h3], Tryz.call156, method_run info97 Tryz.underlying97 (by simp) (by rfl) rfl rfl, kids3_ok, Tryz.call158, method_run info97 Tryz.underlying97 (by simp) (by rfl) rfl rfl, fun e he => ?_⟩
    have : shapeR e = (e.n == 0 && noAddr e) := by simp [shapeR, he, h1, h2]
    rw [this]; exact shape3_ok e
  have h10 : k = 10 := by
    simp only [Bool.not_eq_true] at h3
    simpa [recNil, h1, h2, h3] using hn
  subst h10
  refine ⟨98, 169, 171, rfl, Tryz.call169, method_run info98 Tryz.underlying98 (by simp) (by rfl) rfl rfl, kids4_ok, Tryz.call171, method_run info98 Tryz.underlying98 (by simp) (by rfl) rfl rfl, fun e he => ?_⟩
  have : shapeR e = (e.n == 0 && noAddr e) := by simp [shapeR, he]
  rw [this]; exact shape4_ok e
def badE (n : Int) (deep : Int) (e : Ex) : Bool := decide (n > 14) || decide (deep ≥ 6) || recNil e.kind || (e.kids.length : Int) != kidsR e.kind || !shapeR e
mutual
def vis : Ex → Nat → Nat → Option Nat
  | .mk k n a l, deep, c => if badE ((c : Int) + 1) (deep : Int) (.mk k n a l) then none else visL l (deep + 1) (c + 1)
def visL : List Ex → Nat → Nat → Option Nat
  | [], _, c => some c
  | e :: l, deep, c => match vis e deep c with
    | none => none
    | some c' => visL l deep c'
end
theorem vis_eq (e : Ex) (deep c : Nat) : vis e deep c = if badE ((c : Int) + 1) (deep : Int) e then none else visL e.kids (deep + 1) (c + 1) := by cases e; rfl
theorem visL_append (l l' : List Ex) (deep : Nat) : ∀ c, visL (l ++ l') deep c = (visL l deep c).bind (visL l' deep) := by
  induction l with
  | nil => intro c; rfl
  | cons e l ih =>
    intro c
    simp only [List.cons_append, visL]
    cases vis e deep c with
    | none => rfl
    | some c' => exact ih c'
theorem visL_take (l : List Ex) (deep c i : Nat) (h : i < l.length) : visL (l.take (i + 1)) deep c = (visL (l.take i) deep c).bind (vis (l.getD i default) deep) := by
  rw [List.take_succ_eq_append_getElem h, visL_append]
  have : l.getD i default = l[i] := by simp [List.getD, h]
  rw [this]
  congr 1
  funext c'
  simp only [visL]
  cases vis l[i] deep c' <;> rfl
theorem visL_none {l : List Ex} {deep c i : Nat} (h : visL (l.take i) deep c = none) : visL l deep c = none := by
  conv => lhs; rw [← List.take_append_drop i l]
  rw [visL_append, h]; rfl
def okSt (x : Nat) (rc : AObj) (b n : Nat) : List (Nat × AObj) :=
  [(x + 7, .cells 3 [.int .i64 (n : Int)]), (x + 5, rc), (x + 2, .cells 3 [.int .i64 (n : Int)]), (x + 1, .cells 4 [.bool false]),
   (x + 6, .cells 93 [.fn (.yield b) [] []]), (x + 8, .cells 52 [.fn (.func 57) [] [.ptr (x + 7) 0, .ptr (x + 6) 0, .ptr (x + 8) 0]])]
def okRec (x b d fn : Nat) (fv : PV) (asg body : Code) (st : LoopState) (pe : Option Code) : AObj := .loop b d st pe fn 40 [(2, .ptr (x + 1) 0), (3, .ptr (x + 2) 0), (8, fv)] #[9, 10] asg body
@[go_sem] theorem okRec_eq (x b d fn : Nat) (fv : PV) (asg body : Code) (st : LoopState) (pe : Option Code) : okRec x b d fn fv asg body st pe = .loop b d st pe fn 40 [(2, .ptr (x + 1) 0), (3, .ptr (x + 2) 0), (8, fv)] #[9, 10] asg body := rfl
@[go_sem] theorem okSt_eq (x : Nat) (rc : AObj) (b n : Nat) : okSt x rc b n = [(x + 7, .cells 3 [.int .i64 (n : Int)]), (x + 5, rc), (x + 2, .cells 3 [.int .i64 (n : Int)]), (x + 1, .cells 4 [.bool false]),
   (x + 6, .cells 93 [.fn (.yield b) [] []]), (x + 8, .cells 52 [.fn (.func 57) [] [.ptr (x + 7) 0, .ptr (x + 6) 0, .ptr (x + 8) 0]])] := rfl
def visQ (x b d fn : Nat) (fv : PV) (asg body : Code) (e : Ex) (deep cnt : Nat) (f0 : Nat → Option AObj) (B : Nat) (ex : ExitA) (s : MS) : Prop :=
  ex = .ret ∧ ((∃ cnt' M', vis e deep cnt = some cnt' ∧ cnt' ≤ 14 ∧ B ≤ M' ∧ s = ⟨[(7, .bool true)], okSt x (okRec x b d fn fv asg body .ready none) b cnt', f0, B, M', []⟩) ∨
    (∃ cnt' M', vis e deep cnt = none ∧ B ≤ M' ∧ s = ⟨[(7, .bool false)], okSt x (okRec x b d fn fv asg body .done (some .ret)) b cnt', f0, B, M', []⟩))
theorem walk_ok (x b d fn : Nat) (fv : PV) (asg body c : Code) (hcode : Tryz.f11.body.map rfs = some [(asg, body)]) (hc : Tryz.f57.body = some c) : ∀ (N : Nat) (e : Ex), e.sz ≤ N → e.sz ≤ 1099511627776 →
    ∀ (deep cnt : Nat) (dI : Int) (f0 : Nat → Option AObj) (B : Nat), dI = (deep : Int) → x + 9 ≤ B → deep ≤ 6 → cnt ≤ 14 →
      wpM Tryz.prog none 39 c ⟨envOf 0 [.agg e.cs, .int .i64 dI, .ptr (x + 7) 0, .ptr (x + 6) 0, .ptr (x + 8) 0], okSt x (okRec x b d fn fv asg body .ready none) b cnt, f0, B, B, []⟩ (visQ x b d fn fv asg body e deep cnt f0 B) := by
  have hcode' := Option.some.inj hcode
  simp only [rfs, List.nil_append, List.append_nil, List.cons.injEq, Prod.mk.injEq, and_true] at hcode'
  obtain ⟨hasg, hbody⟩ := hcode'
  obtain rfl : _ = c := Option.some.inj hc
  intro N
  induction N with
  | zero => intro e h; have := e.sz_pos; omega
  | succ N ih =>
    intro e hN hs deep cnt dI f0 B hdI hB hd hcn
    have hlen := e.kids_len
    refine wpM_wk ?_
    refine g_ [1,2,3,4,5] ?_
    refine g_ [1,2,3,4,5] ?_
    refine n_ ?_
    refine wpM_regionK [1,4,5,24] rfl fun Q1 hQ1 => ?_
    refine S_ ?_
    refine OpM_roundK (x + 5) rfl rfl rfl rfl (by simp -implicitDefEqProofs (disch := omega) only [go_sem]; rfl) rfl rfl ?_
    intro K' hK'
    refine wpM_code hasg ?_
    simp -implicitDefEqProofs (disch := omega) only [go_sem]
    refine g_ [2,3,4,10] ?_
    refine g_ [2,3,4,5] ?_
    refine ⟨d, none, fn, 40, [(2, .ptr (x + 1) 0), (3, .ptr (x + 2) 0), (8, fv)], #[9, 10], asg, body, rfl, ?_⟩
    refine wpM_code hbody ?_
    refine g_ [2,3,4,5] ?_
    refine n_ ?_
    refine wpM_regionK [2,3,4,5,6] rfl fun Q1 hQ1 => ?_
    refine S_ ?_
    refine cp_ (recOf_ok e.kind) Tryz.call31 ?_
    refine hQ1 _ _ (S_ ?_);clear hQ1 Q1
    refine n_ ?_
    refine dr_ mixed [2,39] 0 2 [x+2, B+1] [⟨[3],[0],[],[],false⟩,⟨[16],[],[],[],false⟩,⟨[17],[],[],[],false⟩,⟨[4,18],[],[],[],false⟩,⟨[18,19],[],[],[],false⟩,⟨[18,20],[],[],[],false⟩,⟨[21],[],[],[],false⟩,⟨[6,22],[],[],[],false⟩,⟨[22,23],[],[],[],false⟩,⟨[22,24],[],[],[],false⟩,⟨[25],[],[],[],false⟩,⟨[5,26],[],[],[],false⟩,⟨[26,27],[1],[],[],false⟩,⟨[26,28],[],[],[],false⟩,⟨[6,26],[],[],[],false⟩,⟨[26,30],[],[],[],true⟩,⟨[26,29,31],[],[],[],false⟩,⟨[26,32],[],[],[],false⟩,⟨[33],[],[],[],false⟩,⟨[6,34],[],[],[],false⟩,⟨[5,34],[1],[],[],false⟩,⟨[34,35,36],[],[],[],true⟩,⟨[34,37],[],[],[],false⟩,⟨[34,38],[],[],[],false⟩] [0,1,2,3,4,5,6,7,8,9,10,11,12,13,14,15,16,17,18,19,20,21,22,23] [[],[0],[0,1],[0,1,2],[0,1,2,3],[0,1,2,3,4],[0,1,2,3,4,5],[0,1,2,3,4,5,6],[0,1,2,3,4,5,6,7],[0,1,2,3,4,5,6,7,8],[0,1,2,3,4,5,6,7,8,9],[0,1,2,3,4,5,6,7,8,9,10],[0,1,2,3,4,5,6,7,8,9,10,11],[0,1,2,3,4,5,6,7,8,9,10,11,12],[0,1,2,3,4,5,6,7,8,9,10],[0,1,2,3,4,5,6,7,8,9,10,14],[0,1,2,3,4,5,6,7,8,9,10,11,12,13,14,15],[0,1,2,3,4,5,6,7,8,9,10,11,12,13,14,15,16],[0,1,2,3,4,5,6,7,8,9,10,11,12,13,14,15,16,17],[0,1,2,3,4,5,6,7,8,9,10,11,12,13,14,15,16,17,18],[0,1,2,3,4,5,6,7,8,9,10,11,12,13,14,15,16,17,18],[0,1,2,3,4,5,6,7,8,9,10,11,12,13,14,15,16,17,18,19,20],[0,1,2,3,4,5,6,7,8,9,10,11,12,13,14,15,16,17,18,19,20,21],[0,1,2,3,4,5,6,7,8,9,10,11,12,13,14,15,16,17,18,19,20,21,22]] 2 (htbl := by simp; omega) (hnm := by simp) ?_
    intro O A K hO hA hK;simp only [atL_cons,atL_nil,Nat.reduceAdd,Nat.zero_add] at hO hA
    refine SE_ ?_
    refine loudG (v := .int .i64 (kidsR e.kind)) (fun K2 hb h2 => ?_) ?_
    · have hb2 := hb
      simp only [Bool.not_eq_true', Bool.or_eq_false_iff] at hb2
      obtain ⟨t, fk, fs, hr, q1, q2, q3, q4, q5, q6⟩ := rec_meth e.kind hb2.2
      exact loudi_p (args := []) q3 q1 q2 rfl (by simp -implicitDefEqProofs (disch := omega) only [go_sem, hb, gd_of hb, hr]) rfl rfl h2
    refine SE_ ?_
    refine loudG (v := .bool (shapeR e)) (fun K2 hb h2 => ?_) ?_
    · have hb2 := hb
      simp only [Bool.not_eq_true', Bool.or_eq_false_iff] at hb2
      obtain ⟨t, fk, fs, hr, q1, q2, q3, q4, q5, q6⟩ := rec_meth e.kind hb2.1.2
      exact loudi_p (args := [.agg e.cs]) (q6 e rfl) q4 q5 rfl (by simp -implicitDefEqProofs (disch := omega) only [go_sem, hb, gd_of hb, hr]) (by simp -implicitDefEqProofs (disch := omega) only [go_sem, hb, gd_of hb]) rfl h2
    refine SE_ ?_
    refine hK _ (S_ ?_);clear hK K hO hA O A
    refine c_ (fun hc0 => ?_) fun hc0 => ?_
    ·
      refine g_ [2] ?_
      refine wpM_ret ?_
      try refine S_ ?_
      have hbad : badE ((cnt : Int) + 1) dI e = true := hc0
      refine ⟨d, .busy, none, fn, 40, [(2, .ptr (x + 1) 0), (3, .ptr (x + 2) 0), (8, fv)], #[9, 10], asg, body, by simp -implicitDefEqProofs (disch := omega) only [go_sem], ?_⟩
      refine hK' _ ?_; clear hK' K'
      simp -implicitDefEqProofs (disch := omega) only [go_sem]
      refine hQ1 _ _ ?_; clear hQ1 Q1
      simp -implicitDefEqProofs (disch := omega) only [go_sem]
      refine wpM_condK ?_
      simp -implicitDefEqProofs (disch := omega) only [go_sem]
      refine wpM_seq ?_
      refine wpM_regionK [7] rfl ?_; intro Q1 hQ1
      simp -implicitDefEqProofs (disch := omega) only [go_sem]
      refine hQ1 _ _ ?_; clear hQ1 Q1
      simp -implicitDefEqProofs (disch := omega) only [go_sem]
      refine wpM_ret ?_
      refine .of' _ _ ⟨rfl, .inr ⟨cnt + 1, _, ?_, ?_, rfl⟩⟩ ?_ ?_ ?_
      · rw [vis_eq, ← hdI, if_pos hbad]
      · first | omega | (simp -implicitDefEqProofs (disch := omega) only [go_sem]; done)
      all_goals exact L_
    refine n_ ?_
    have hbad : badE ((cnt : Int) + 1) dI e = false := hc0
    clear hc0
    have hb2 := hbad
    simp only [badE, Bool.or_eq_false_iff] at hb2
    obtain ⟨⟨⟨⟨hg1, hg2⟩, _⟩, _⟩, _⟩ := hb2
    have hg2' : deep < 6 := by simp at hg2; omega
    have hg1' : cnt + 1 ≤ 14 := by simp at hg1; omega
    refine ⟨d, .busy, none, fn, 40, [(2, .ptr (x + 1) 0), (3, .ptr (x + 2) 0), (8, fv)], #[9, 10], asg, body, by simp -implicitDefEqProofs (disch := omega) only [go_sem], ?_⟩
    refine hK' _ ?_; clear hK' K'
    simp -implicitDefEqProofs (disch := omega) only [go_sem, hg1, hg2]
    refine hQ1 _ _ (S_ ?_);clear hQ1 Q1
    refine c1_ ?_
    refine g_ [1,4,26,27,28] ?_
    refine n_ ?_
    refine wpM_loopS (fun s n s' => ∃ (i M ci : Nat), i + n = e.kids.length ∧ B + 1 ≤ M ∧ visL (e.kids.take i) (deep + 1) (cnt + 1) = some ci ∧ ci ≤ 14 ∧ s' = { s with env := setE 28 (.int .i64 (i : Nat)) s.env, l := okSt x (okRec x b d fn fv asg body .ready none) b ci ++ [(B, .cells 27 e.cs)], M := M }) (e.kids.length) ?_ ?_
    ·
      refine .of' _ _ ⟨0, _, cnt + 1, by omega, ?_, rfl, hg1', rfl⟩ ?_ ?_ ?_
      · first | omega | (simp -implicitDefEqProofs (disch := omega) only [go_sem]; done)
      all_goals exact L_
    rintro n s' ⟨i, M, ci, hi, hM, hv, hci, rfl⟩
    try refine S_ ?_
    refine g_ [1,4,26,27,28,29] ?_
    refine c_ (fun hc1 => ?_) fun hc1 => ?_
    ·
      have hl0 : i < e.kids.length := by omega
      have hks := Ex.kid_sz hl0
      refine g_ [1,4,9,26,27,28] ?_
      refine n_ ?_
      refine wpM_regionK [1,4,26,27,28,37] rfl fun Q1 hQ1 => ?_
      refine S_ ?_
      refine OpM_inlineK (first := []) (ps := [.agg (e.kids.getD i default).cs, .int .i64 (dI + 1)]) (cap := [.ptr (x + 7) 0, .ptr (x + 6) 0, .ptr (x + 8) 0]) Tryz.func57 rfl Tryz.ntmps57 (by simp) Tryz.call57 rfl rfl F_ F_ ?_
      intro K' hK'
      refine wpM_frame (okSt x (okRec x b d fn fv asg body .ready none) b ci) [(M, .cells 27 (e.kids.getD i default).cs), (B, .cells 27 e.cs)] T_ T_ T_ (by simp -implicitDefEqProofs (disch := omega) only [go_sem, true_or, or_true]) T_ ?_
      intro f1
      refine wpM_mono (ih (e.kids.getD i default) (by omega) (by omega) (deep + 1) ci (dI + 1) f1 (M + 1) (by rw [hdI]; rfl) (by omega) (by omega) hci) ?_
      rintro ex s' ⟨rfl, ⟨cnt', M', h1, h2, h3, rfl⟩ | ⟨cnt', M', h1, h3, rfl⟩⟩
      rotate_left
      · refine ⟨rfl, rfl, T_, (by simp -implicitDefEqProofs (disch := omega) only [go_sem, true_or, or_true]), ?_⟩
        refine ⟨[], rfl, trivial, [.bool false], (by rw [Tryz.results57]; simp -implicitDefEqProofs (disch := omega) only [go_sem]), ?_⟩
        refine hK' _ ?_; clear hK' K'
        simp -implicitDefEqProofs (disch := omega) only [go_sem]
        refine hQ1 _ _ ?_; clear hQ1 Q1
        simp -implicitDefEqProofs (disch := omega) only [go_sem]
        refine wpM_condK ?_
        simp -implicitDefEqProofs (disch := omega) only [go_sem]
        refine wpM_seq ?_
        refine wpM_regionK [7] rfl ?_; intro Q1 hQ1
        simp -implicitDefEqProofs (disch := omega) only [go_sem]
        refine hQ1 _ _ ?_; clear hQ1 Q1
        simp -implicitDefEqProofs (disch := omega) only [go_sem]
        refine wpM_ret ?_
        refine .of' _ _ ⟨rfl, .inr ⟨cnt', _, ?_, ?_, rfl⟩⟩ ?_ ?_ ?_
        · rw [vis_eq, ← hdI, hbad]
          exact visL_none (i := i + 1) (by rw [visL_take _ _ _ _ hl0, hv]; exact h1)
        · first | omega | (simp -implicitDefEqProofs (disch := omega) only [go_sem]; done) | (simp -implicitDefEqProofs (disch := omega) only [go_sem]; omega)
        all_goals exact L_
      refine ⟨rfl, rfl, T_, (by simp -implicitDefEqProofs (disch := omega) only [go_sem, true_or, or_true]), ?_⟩
      refine ⟨[], rfl, trivial, [.bool true], (by rw [Tryz.results57]; simp -implicitDefEqProofs (disch := omega) only [go_sem]), ?_⟩
      refine hK' _ ?_; clear hK' K'
      have hv2 : visL (e.kids.take (i + 1)) (deep + 1) (cnt + 1) = some cnt' := by rw [visL_take _ _ _ _ hl0, hv]; exact h1
      refine S_ ?_
      refine hQ1 _ _ (S_ ?_);clear hQ1 Q1
      refine c1_ ?_
      refine g_ [1,4,26,27,28] ?_
      refine .of' _ _ ⟨n - 1, by omega, i + 1, _, cnt', by omega, ?_, hv2, h2, rfl⟩ ?_ ?_ ?_
      · first | omega | (simp -implicitDefEqProofs (disch := omega) only [go_sem]; done) | (simp -implicitDefEqProofs (disch := omega) only [go_sem]; omega)
      all_goals exact L_
    refine g_ [7] ?_
    refine wpM_ret ?_
    try refine S_ ?_
    have hie : i = e.kids.length := by omega
    rw [hie, List.take_of_length_le (Nat.le_refl _)] at hv
    refine .of' _ _ ⟨rfl, .inl ⟨ci, _, ?_, hci, ?_, rfl⟩⟩ ?_ ?_ ?_
    · rw [vis_eq, ← hdI, hbad]; exact hv
    · first | omega | (simp -implicitDefEqProofs (disch := omega) only [go_sem]; done) | (simp -implicitDefEqProofs (disch := omega) only [go_sem]; omega)
    all_goals exact L_
end Go.Proofs.YtmicbfojofcigaaGreat
namespace Go.Proofs.YtmicbfojofcigaaGreat
open Go Sg
set_option linter.unusedSectionVars false
variable [Glob]
set_option maxRecDepth 100000
set_option linter.unusedSimpArgs false
set_option linter.unusedVariables false
set_option maxHeartbeats 4000000
theorem iexprOk_ok (e : Ex) (hs : e.sz ≤ 1099511627776) : PureF Tryz.prog 11 [.agg e.cs] [.bool (vis e 0 0).isSome] := by
  refine pureF_ofM Tryz.func11 rfl Tryz.ntmps11 (by simp) T_ ?_
  intro f0 B Q hQ
  obtain ⟨asg, body, hcode⟩ : ∃ asg body, Tryz.f11.body.map rfs = some [(asg, body)] := ⟨_, _, rfl⟩
  have hcode' := Option.some.inj hcode
  simp only [rfs, List.nil_append, List.append_nil, List.cons.injEq, Prod.mk.injEq, and_true] at hcode'
  obtain ⟨hasg, hbody⟩ := hcode'
  refine g_ [1,2,9,10] ?_
  refine g_ [1,2,3,9,10] ?_
  refine n_ ?_
  refine wpM_regionK [2,3,8,9,10] rfl fun Q1 hQ1 => ?_
  refine S_ ?_
  refine call_fn (l := []) (first := []) (cap := []) (ps := [.agg e.cs]) (parts_ok e) Tryz.call30 rfl rfl rfl T_ T_ ?_
  rintro out ⟨x, hns, rfl⟩
  injection hns with hn1 hns
  subst hn1
  refine S_ ?_
  refine hQ1 _ _ (S_ ?_);clear hQ1 Q1
  refine n_ ?_
  refine wpM_code (c' := Code.rangeFunc (.tmp 8) #[9, 10] asg body) (by rw [← hasg, ← hbody]) ?_
  refine wpM_rangeFunc (first := []) (cap := [.ptr (B + 3) 0]) T_ Tryz.func56 rfl Tryz.ntmps56 (by simp) Tryz.call56 ?_
  intro fn b d
  refine g_ [1,2] ?_
  refine g_ [1,2,3] ?_
  refine g_ [1,2,3,4] ?_
  refine g_ [1,4] ?_
  refine wpM_regionK [] rfl fun Q1 hQ1 => ?_
  refine S_ ?_
  simp -implicitDefEqProofs (disch := omega) only [go_sem, Nat.add_assoc]
  refine OpM_inlineK (first := []) (ps := [.agg e.cs, .int .i64 0]) (cap := [.ptr (B + 7) 0, .ptr (B + 6) 0, .ptr (B + 8) 0]) Tryz.func57 rfl Tryz.ntmps57 (by simp) Tryz.call57 rfl rfl F_ F_ ?_
  intro K' hK'
  refine wpM_frame (okSt B (okRec B b d fn (.fn (.func 56) [] [.ptr (B + 3) 0]) asg body .ready none) b 0) [(B + 4, .dfr d), (B + 3, .cells 27 e.cs), (B, .cells 27 e.cs)] (by simp -implicitDefEqProofs (disch := omega) only [go_sem, Int.natCast_zero]) T_ T_ (by simp -implicitDefEqProofs (disch := omega) only [go_sem, true_or, or_true]) T_ ?_
  intro f1
  refine wpM_mono (walk_ok B b d fn (.fn (.func 56) [] [.ptr (B + 3) 0]) asg body _ hcode rfl e.sz e (Nat.le_refl _) hs 0 0 0 f1 (B + 9) rfl (by omega) (by omega) (by omega)) ?_
  rintro ex s' ⟨rfl, ⟨cnt', M', q1, q2, q3, rfl⟩ | ⟨cnt', M', q1, q3, rfl⟩⟩
  rotate_left
  · refine ⟨rfl, rfl, T_, (by simp -implicitDefEqProofs (disch := omega) only [go_sem, true_or, or_true]), ?_⟩
    refine ⟨[], rfl, trivial, [.bool false], (by rw [Tryz.results57]; simp -implicitDefEqProofs (disch := omega) only [go_sem]), ?_⟩
    refine hK' _ ?_; clear hK' K'
    simp -implicitDefEqProofs (disch := omega) only [go_sem]
    refine hQ1 _ _ ?_; clear hQ1 Q1
    simp -implicitDefEqProofs (disch := omega) only [go_sem]
    refine ⟨[], rfl, trivial, [], (by rw [Tryz.results56]; simp -implicitDefEqProofs (disch := omega) only [go_sem]), ?_⟩
    refine ⟨d, .done, some .ret, fn, 40, [(2, .ptr (B + 1) 0), (3, .ptr (B + 2) 0), (8, .fn (.func 56) [] [.ptr (B + 3) 0])], #[9, 10], asg, body, T_, (by simp), ?_⟩
    simp -implicitDefEqProofs (disch := omega) only [go_sem, Nat.add_assoc]
    refine hQ [B + 4] _ _ rfl rfl rfl ⟨⟨by simp -implicitDefEqProofs (disch := omega) only [go_sem], ⟨d, by simp -implicitDefEqProofs (disch := omega) only [go_sem]⟩, by simp⟩, trivial⟩ (by simp -implicitDefEqProofs (disch := omega) only [go_sem, true_or]) ?_ (.inl rfl)
    rw [Tryz.results11, q1]
    simp -implicitDefEqProofs (disch := omega) only [go_sem, Option.isSome_none]
  refine ⟨rfl, rfl, T_, (by simp -implicitDefEqProofs (disch := omega) only [go_sem, true_or, or_true]), ?_⟩
  refine ⟨[], rfl, trivial, [.bool true], (by rw [Tryz.results57]; simp -implicitDefEqProofs (disch := omega) only [go_sem]), ?_⟩
  refine hK' _ ?_; clear hK' K'
  refine S_ ?_
  refine hQ1 _ _ (S_ ?_);clear hQ1 Q1
  refine ⟨[], rfl, trivial, [], (by rw [Tryz.results56]; simp -implicitDefEqProofs (disch := omega) only [go_sem]), ?_⟩
  refine ⟨d, .ready, none, fn, 40, [(2, .ptr (B + 1) 0), (3, .ptr (B + 2) 0), (8, .fn (.func 56) [] [.ptr (B + 3) 0])], #[9, 10], asg, body, T_, (by simp), ?_⟩
  simp -implicitDefEqProofs (disch := omega) only [go_sem, Nat.add_assoc]
  refine g_ [2] ?_
  refine wpM_ret ?_
  try refine S_ ?_
  refine hQ [B + 4] _ _ rfl rfl rfl ⟨⟨by simp -implicitDefEqProofs (disch := omega) only [go_sem], ⟨d, by simp -implicitDefEqProofs (disch := omega) only [go_sem]⟩, by simp⟩, trivial⟩ (by simp -implicitDefEqProofs (disch := omega) only [go_sem, true_or]) ?_ (.inl rfl)
  rw [Tryz.results11, q1]
  simp -implicitDefEqProofs (disch := omega) only [go_sem, Option.isSome_some]
end Go.Proofs.YtmicbfojofcigaaGreat
namespace Go.Proofs.YtmicbfojofcigaaGreat
open Go Sg
set_option linter.unusedSectionVars false
variable [Glob]
set_option maxRecDepth 100000
set_option linter.unusedSimpArgs false
set_option linter.unusedVariables false
set_option maxHeartbeats 4000000
end Go.Proofs.YtmicbfojofcigaaGreat
namespace Go.Proofs.YtmicbfojofcigaaGreat
open Go Sg
set_option linter.unusedSectionVars false
variable [Glob]
set_option maxRecDepth 100000
set_option linter.unusedSimpArgs false
set_option linter.unusedVariables false
set_option maxHeartbeats 4000000
def MM.flat (m : MM) : List Int := m.i ++ (m.o ++ m.v)
def MM.nth (m : MM) (i : Nat) : List Int := [m.i, m.o, m.v].getD i []
def MM.bk (m : MM) : Nat → List Int
  | 0 => List.replicate 18 0
  | n + 1 => (m.bk n).take (n * 6) ++ m.nth n ++ (m.bk n).drop (n * 6 + (m.nth n).length)
end Go.Proofs.YtmicbfojofcigaaGreat
namespace Go.Proofs.YtmicbfojofcigaaGreat
open Go Sg
set_option linter.unusedSectionVars false
variable [Glob]
set_option maxRecDepth 100000
set_option linter.unusedSimpArgs false
set_option linter.unusedVariables false
set_option maxHeartbeats 4000000
theorem puts_ok (a : AD) : PureF Tryz.prog 97 [.agg a.cs] [.bool (a.ok && a.kind != 1)] := by
  refine pureF_of Tryz.func97 rfl Tryz.ntmps97 (by simp) T_ ?_
  intro f0 B Q hQ
  refine g_ [1] ?_
  refine n_ ?_
  refine wpM_regionK [2] rfl fun Q1 hQ1 => ?_
  refine SD_ ?_
  refine cpD_ (iaddrOk_ok a) Tryz.call96 ?_
  refine hQ1 _ _ (S_ ?_);clear hQ1 Q1
  refine e_ Tryz.results97 ?_
  first
  | exact True.intro
  | rfl
end Go.Proofs.YtmicbfojofcigaaGreat
namespace Go.Proofs.YtmicbfojofcigaaGreat
open Go Sg
set_option linter.unusedSectionVars false
variable [Glob]
set_option maxRecDepth 100000
set_option linter.unusedSimpArgs false
set_option linter.unusedVariables false
set_option maxHeartbeats 4000000
def mobj (id : Nat) (m : MM) : List (Nat × AObj) := [(id, .cells 104 (ints m.flat))]
@[go_sem] theorem mobj_eq (id : Nat) (m : MM) : mobj id m = [(id, .cells 104 (ints m.flat))] := rfl
end Go.Proofs.YtmicbfojofcigaaGreat
namespace Go.Proofs.YtmicbfojofcigaaGreat
open Go Sg
set_option linter.unusedSectionVars false
variable [Glob]
set_option maxRecDepth 100000
set_option linter.unusedSimpArgs false
set_option linter.unusedVariables false
set_option maxHeartbeats 4000000
theorem loc_eq (e : Ex) : (recNil e.kind || (e.kids.length : Int) != kidsR e.kind || !shapeR e) =
    (kidsN e.kind != (e.kids.length : Int) || ((e.kind == 1 && cut e.n != e.n) || (e.kind != 1 && e.n != 0)) || ((e.kind == 2 && !e.a.ok) || (e.kind != 2 && !(e.a.kind == 0 && e.a.at' == 0)))) := by
  unfold recNil kidsR shapeR kidsN noAddr isTwo
  simp only [isNum_cut]
  have hL : 0 ≤ (e.kids.length : Int) := by omega
  generalize (e.kids.length : Int) = L at *
  generalize cut e.n = cn
  generalize e.n = n
  generalize e.a.ok = ok
  generalize e.a.kind = ak
  generalize e.a.at' = aa
  generalize e.kind = k
  by_cases h1 : k = 1
  · subst h1
    rw [Bool.eq_iff_iff]
    cases ok <;> simp <;> omega
  by_cases h2 : k = 2
  · subst h2
    rw [Bool.eq_iff_iff]
    cases ok <;> simp <;> omega
  by_cases h10 : k = 10
  · subst h10
    rw [Bool.eq_iff_iff]
    cases ok <;> simp <;> omega
  have e1 : (k == 1) = false := by simpa using h1
  have e2 : (k == 2) = false := by simpa using h2
  have e3 : (k == 10) = false := by simpa using h10
  rw [e1, e2, e3]
  by_cases h3 : 3 ≤ k ∧ k ≤ 9
  · have f1 : decide (k ≥ 3) = true := by simp; omega
    have f2 : decide (k ≤ 9) = true := by simp; omega
    rw [f1, f2, Bool.eq_iff_iff]
    cases ok <;> simp <;> omega
  · have f : (decide (k ≥ 3) && decide (k ≤ 9)) = false := by
      rw [Bool.and_eq_false_iff]; simp; omega
    have fk : ((k ≥ 3) ∧ (k ≤ 9)) = False := by simp; omega
    rw [f, Bool.eq_iff_iff]
    cases ok <;> simp [bne, h1, h2] <;> omega
theorem form_eq (d : Nat) (e : Ex) : formD (d + 1) e = (!(recNil e.kind || (e.kids.length : Int) != kidsR e.kind || !shapeR e) && e.kids.all (formD d)) := by
  rw [loc_eq, formD]
  cases (kidsN e.kind != (e.kids.length : Int)) <;> simp only [Bool.false_eq_true, if_false, if_true, Bool.true_or, Bool.false_or, Bool.not_true, Bool.false_and]
  cases ((e.kind == 1 && cut e.n != e.n) || (e.kind != 1 && e.n != 0)) <;> simp only [Bool.false_eq_true, if_false, if_true, Bool.true_or, Bool.false_or, Bool.not_true, Bool.false_and]
  cases ((e.kind == 2 && !e.a.ok) || (e.kind != 2 && !(e.a.kind == 0 && e.a.at' == 0))) <;> simp
theorem bad_eq (c deep : Nat) (e : Ex) : badE ((c : Int) + 1) (deep : Int) e = (decide (14 ≤ c) || decide (6 ≤ deep) || (recNil e.kind || (e.kids.length : Int) != kidsR e.kind || !shapeR e)) := by
  unfold badE
  have h1 : decide ((c : Int) + 1 > 14) = decide (14 ≤ c) := by simp; omega
  have h2 : decide ((deep : Int) ≥ 6) = decide (6 ≤ deep) := by simp; omega
  rw [h1, h2]
  simp only [Bool.or_assoc]
theorem vis_sound (d : Nat) : d ≤ 6 → ∀ (e : Ex) (c c' : Nat), vis e (6 - d) c = some c' → formD d e = true ∧ c' = c + manyD d e ∧ c' ≤ 14 := by
  induction d with
  | zero =>
    intro _ e c c' h
    rw [vis_eq, bad_eq] at h
    simp at h
  | succ d ih =>
    intro hd e c c' h
    have hL : ∀ (l : List Ex) (c c' : Nat), c ≤ 14 → visL l (6 - d) c = some c' → l.all (formD d) = true ∧ c' = c + (l.map (manyD d)).sum ∧ c' ≤ 14 := by
      intro l
      induction l with
      | nil => intro c c' hc h; simp [visL] at h; subst h; simp [hc]
      | cons x l ihl =>
        intro c c' hc h
        simp only [visL] at h
        split at h
        · cases h
        · rename_i c1 h1
          obtain ⟨a1, a2, a3⟩ := ih (by omega) x c c1 h1
          obtain ⟨b1, b2, b3⟩ := ihl c1 c' a3 h
          refine ⟨by simp [a1, b1], ?_, b3⟩
          simp only [List.map_cons, List.sum_cons]; omega
    rw [vis_eq, bad_eq] at h
    split at h
    · cases h
    · rename_i hb
      simp only [Bool.or_eq_true, decide_eq_true_eq, not_or] at hb
      obtain ⟨⟨hb1, hb2⟩, hb3⟩ := hb
      have hdeep : 6 - (d + 1) + 1 = 6 - d := by omega
      rw [hdeep] at h
      obtain ⟨a1, a2, a3⟩ := hL e.kids (c + 1) c' (by omega) h
      refine ⟨?_, ?_, a3⟩
      · rw [form_eq, a1]
        simp only [Bool.and_true, Bool.not_eq_true', Bool.or_eq_false_iff]
        simp only [Bool.not_eq_true] at hb3
        exact ⟨⟨hb3.1.1, hb3.1.2⟩, hb3.2⟩
      · simp only [manyD]; omega
theorem vis_complete (d : Nat) : d ≤ 6 → ∀ (e : Ex) (c : Nat), formD d e = true → c + manyD d e ≤ 14 → vis e (6 - d) c = some (c + manyD d e) := by
  induction d with
  | zero => intro _ e c h; cases h
  | succ d ih =>
    intro hd e c hf hm
    have hL : ∀ (l : List Ex) (c : Nat), l.all (formD d) = true → c + (l.map (manyD d)).sum ≤ 14 → visL l (6 - d) c = some (c + (l.map (manyD d)).sum) := by
      intro l
      induction l with
      | nil => intro c _ _; simp [visL]
      | cons x l ihl =>
        intro c hl hs
        simp only [List.all_cons, Bool.and_eq_true] at hl
        simp only [List.map_cons, List.sum_cons] at hs ⊢
        simp only [visL, ih (by omega) x c hl.1 (by omega)]
        rw [ihl _ hl.2 (by omega)]
        congr 1; omega
    rw [form_eq] at hf
    simp only [Bool.and_eq_true, Bool.not_eq_true'] at hf
    simp only [manyD] at hm ⊢
    rw [vis_eq, bad_eq, hf.1]
    have h1 : decide (14 ≤ c) = false := by simp; omega
    have h2 : decide (6 ≤ 6 - (d + 1)) = false := by simp; omega
    rw [h1, h2]
    have hdeep : 6 - (d + 1) + 1 = 6 - d := by omega
    simp only [Bool.or_self, Bool.false_eq_true, if_false, hdeep]
    rw [hL e.kids (c + 1) hf.2 (by omega)]
    congr 1; omega
theorem vis_ok (e : Ex) : (vis e 0 0).isSome = e.ok := by
  rw [Bool.eq_iff_iff, Ex.ok, Bool.and_eq_true, decide_eq_true_eq]
  constructor
  · intro h
    obtain ⟨c', hc⟩ := Option.isSome_iff_exists.1 h
    obtain ⟨a1, a2, a3⟩ := vis_sound 6 (by omega) e 0 c' hc
    exact ⟨a1, by omega⟩
  · rintro ⟨h1, h2⟩
    have := vis_complete 6 (by omega) e 0 h1 (by omega)
    simp at this
    rw [this]; rfl
end Go.Proofs.YtmicbfojofcigaaGreat
namespace Go.Proofs.YtmicbfojofcigaaGreat
open Go Sg
set_option linter.unusedSectionVars false
variable [Glob]
set_option maxRecDepth 100000
set_option linter.unusedSimpArgs false
set_option linter.unusedVariables false
set_option maxHeartbeats 4000000
inductive Sm where
  | mk (kind : Int) (to' : AD) (e : Ex) (th el : List Sm)
  deriving Inhabited
def Sm.kind : Sm → Int | .mk k _ _ _ _ => k
def Sm.to' : Sm → AD | .mk _ a _ _ _ => a
def Sm.e : Sm → Ex | .mk _ _ e _ _ => e
def Sm.th : Sm → List Sm | .mk _ _ _ l _ => l
def Sm.el : Sm → List Sm | .mk _ _ _ _ l => l
mutual
def Sm.cs : Sm → List PV
  | .mk k a e th el => [.int .i64 k, .int .i64 a.kind, .int .i64 a.at', .int .i64 e.kind, .int .i64 e.n, .int .i64 e.a.kind, .int .i64 e.a.at', .rows 27 (Ex.csL e.kids), .rows 45 (Sm.csL th), .rows 45 (Sm.csL el)]
def Sm.csL : List Sm → List (List PV)
  | [] => []
  | s :: l => s.cs :: Sm.csL l
end
mutual
def Sm.sz : Sm → Nat | .mk _ _ e th el => 1 + e.sz + Sm.szL th + Sm.szL el
def Sm.szL : List Sm → Nat | [] => 0 | s :: l => s.sz + Sm.szL l
end
@[go_sem] theorem Sm.cs_eq (s : Sm) : s.cs = [.int .i64 s.kind, .int .i64 s.to'.kind, .int .i64 s.to'.at', .int .i64 s.e.kind, .int .i64 s.e.n, .int .i64 s.e.a.kind, .int .i64 s.e.a.at', .rows 27 (Ex.csL s.e.kids), .rows 45 (Sm.csL s.th), .rows 45 (Sm.csL s.el)] := by cases s; simp only [Sm.cs, Sm.kind, Sm.to', Sm.e, Sm.th, Sm.el]
theorem Sm.csL_map (l : List Sm) : Sm.csL l = l.map Sm.cs := by
  induction l with
  | nil => rfl
  | cons e l ih => simp [Sm.csL, ih]
@[go_sem] theorem Sm.csL_len (l : List Sm) : (Sm.csL l).length = l.length := by simp [Sm.csL_map]
@[go_sem] theorem Sm.csL_get (l : List Sm) (k : Nat) (h : k < l.length) : (Sm.csL l).getD k [] = (l.getD k default).cs := by simp [Sm.csL_map, List.getD, h]
theorem Sm.sz_eq (s : Sm) : s.sz = 1 + s.e.sz + Sm.szL s.th + Sm.szL s.el := by cases s; simp only [Sm.sz, Sm.e, Sm.th, Sm.el]
theorem Sm.len_szL (l : List Sm) : l.length ≤ Sm.szL l := by
  induction l with
  | nil => simp
  | cons s l ih => simp only [List.length_cons, Sm.szL]; have := s.sz_eq; omega
theorem Sm.get_szL (l : List Sm) (k : Nat) (h : k < l.length) : (l.getD k default).sz ≤ Sm.szL l := by
  induction l generalizing k with
  | nil => simp at h
  | cons e l ih =>
    simp only [Sm.szL]
    cases k with
    | zero => simp
    | succ k =>
      have := ih k (by simpa using h)
      simp only [List.getD_cons_succ]; omega
theorem Sm.get_in {l : List Sm} {k : Nat} (h : k < l.length) : (l.getD k default).e.sz + Sm.szL (l.getD k default).th + Sm.szL (l.getD k default).el < Sm.szL l := by
  have h1 := Sm.get_szL l k h
  have h2 := (l.getD k default).sz_eq
  omega
def manyS : Nat → List Sm → Nat
  | 0, l => l.length
  | d + 1, l => l.length + (l.map fun s => manyS d s.th + manyS d s.el).sum
theorem manyS_le (d : Nat) : ∀ l : List Sm, manyS d l ≤ Sm.szL l := by
  induction d with
  | zero => intro l; exact Sm.len_szL l
  | succ d ih =>
    intro l
    simp only [manyS]
    induction l with
    | nil => simp
    | cons s l ihl => simp only [List.length_cons, List.map_cons, List.sum_cons, Sm.szL]; have h1 := ih s.th; have h2 := ih s.el; have := s.sz_eq; omega
theorem l4Many_ok (d : Nat) : ∀ (l : List Sm) (deep : Int), deep.toNat = d → deep ≤ 1000000 → Sm.szL l ≤ 1099511627776 → PureF Tryz.prog 108 [.rows 45 (Sm.csL l), .int .i64 deep] [.int .i64 (manyS d l : Nat)] := by
  induction d with
  | zero =>
    intro l deep hd hdl hs
    have hlen := Sm.len_szL l
    refine pureF_of Tryz.func108 rfl Tryz.ntmps108 (by simp) T_ ?_
    intro f0 B Q hQ
    have hlt : decide (deep > 0) = false := by simp; omega
    refine g_ [0,1] ?_
    refine g_ [0,1,5] ?_
    refine g_ [0,1,5,6] ?_
    refine n_ ?_
    refine wpM_loopS (fun s n s' => s' = s) (0) ?_ ?_
    ·
      exact .here rfl
    rintro n s' rfl
    try refine S_ ?_
    refine gD_ [0,1,5,6,16] ?_
    refine c_ (fun hc0 => ?_) fun hc0 => ?_
    · simp [hlt] at hc0
    refine g_ [4] ?_
    refine e_ Tryz.results108 ?_
    first
    | exact True.intro
    | rfl
  | succ d ih =>
    intro l deep hd hdl hs
    have hlen := Sm.len_szL l
    refine pureF_of Tryz.func108 rfl Tryz.ntmps108 (by simp) T_ ?_
    intro f0 B Q hQ
    have hlt : decide (deep > 0) = true := by simp; omega
    have hmx := manyS_le (d + 1) l
    refine g_ [0,1] ?_
    refine g_ [0,1,5] ?_
    refine g_ [0,1,5,6] ?_
    refine n_ ?_
    refine wpM_loopS (fun s n s' => ∃ i M : Nat, i + n = l.length ∧ s.M ≤ M ∧ s' = { s with env := setE 6 (.int .i64 (i : Nat)) (setE 5 (.int .i64 ((l.length + ((l.take i).map fun s => manyS d s.th + manyS d s.el).sum : Nat) : Int)) s.env), M := M }) (l.length) ?_ ?_
    ·
      refine .of ⟨0, _, by omega, Nat.le_refl _, rfl⟩ ?_ ?_ ?_ rfl rfl (Nat.le_refl _) rfl <;> exact L_
    rintro n s' ⟨i, M, hi, hM, rfl⟩
    try refine S_ ?_
    refine n_ ?_
    refine wpM_regionK [0,1,5,6,16] rfl fun Q1 hQ1 => ?_
    simp (contextual := true) (maxSteps := 1000000) (implicitDefEqProofs := false) (disch := first | omega | (simp only [decide_eq_true_eq, decide_eq_false_iff_not, Bool.and_eq_true, Bool.or_eq_false_iff, Bool.not_eq_true'] at *; omega)) only [go_sem, hlt, Bool.and_true]
    refine hQ1 _ _ (S_ ?_);clear hQ1 Q1
    refine c_ (fun hc0 => ?_) fun hc0 => ?_
    ·
      have hi2 : i < l.length := by omega
      have hin := Sm.get_in hi2
      have hsum := take_sum (fun s : Sm => manyS d s.th + manyS d s.el) l i hi2
      have hle := take_sum_le (fun s : Sm => manyS d s.th + manyS d s.el) l (i + 1)
      simp only [manyS] at hmx
      rw [hsum] at hle
      refine n_ ?_
      refine dr_ mixed [0,1,5,6] 0 0 [] [⟨[5],[],[],[],false⟩,⟨[0],[],[],[],false⟩,⟨[6],[],[],[],false⟩,⟨[20,21],[],[],[],false⟩,⟨[22],[],[],[],false⟩,⟨[23],[],[],[],false⟩,⟨[1],[],[],[],false⟩,⟨[25],[],[],[],false⟩,⟨[24,26],[],[],[],true⟩,⟨[19,27],[],[],[],false⟩,⟨[0],[],[],[],false⟩,⟨[6],[],[],[],false⟩,⟨[29,30],[],[],[],false⟩,⟨[31],[],[],[],false⟩,⟨[32],[],[],[],false⟩,⟨[1],[],[],[],false⟩,⟨[34],[],[],[],false⟩,⟨[33,35],[],[],[],true⟩,⟨[28,36],[],[],[],false⟩,⟨[37],[],[],[],false⟩] [0,1,2,3,4,5,6,7,10,11,12,13,14,15,16,8,9,17,18,19] [[],[],[],[1,2],[1,2,3],[1,2,3,4],[],[6],[1,2,3,4,5,6,7],[0,1,2,3,4,5,6,7,8],[],[],[10,11],[10,11,12],[10,11,12,13],[],[15],[1,2,3,4,5,6,7,8,10,11,12,13,14,15,16],[0,1,2,3,4,5,6,7,8,9,10,11,12,13,14,15,16,17],[0,1,2,3,4,5,6,7,8,9,10,11,12,13,14,15,16,17,18]] 0 ?_
      intro O A K hO hA hK;simp only [atL_cons,atL_nil,Nat.reduceAdd,Nat.zero_add] at hO hA
      refine SO_ ?_
      refine lp_ (ih (l.getD i default).th (deep - 1) (by omega) (by omega) (by omega)) Tryz.call108 ?_
      refine lp_ (ih (l.getD i default).el (deep - 1) (by omega) (by omega) (by omega)) Tryz.call108 ?_
      refine hK _ (S_ ?_);clear hK K hO hA O A
      refine g_ [0,1,5,6] ?_
      refine .of ⟨n - 1, by omega, i + 1, M, by omega, hM, rfl⟩ ?_ ?_ ?_ rfl rfl (Nat.le_refl _) rfl
      · simp -implicitDefEqProofs (disch := omega) only [go_sem, PV.int.injEq]
        rw [hsum]
        constructor <;> omega
      all_goals exact L_
    refine g_ [4] ?_
    refine e_ Tryz.results108 ?_
    first
    | exact True.intro
    | have hie : i = l.length := by omega
      simp only [manyS]
      rw [hie, List.take_of_length_le (Nat.le_refl _)]
def Sm.plain (s : Sm) : Bool := if s.kind == 1 then s.to'.ok && s.to'.kind != 1 && (s.th.length : Int) == 0 && (s.el.length : Int) == 0
  else if s.kind == 2 then s.to'.kind == 0 && s.to'.at' == 0
  else if s.kind == 3 then s.to'.kind == 0 && s.to'.at' == 0 && (s.el.length : Int) == 0 else false
def formS : Nat → List Sm → Bool
  | 0, l => l.length == 0
  | d + 1, l => l.all fun s => s.plain && s.e.ok && formS d s.th && formS d s.el
theorem l4Form_ok (d : Nat) : ∀ (l : List Sm) (deep : Int), deep.toNat = d → deep ≤ 1000000 → Sm.szL l ≤ 1099511627776 → PureF Tryz.prog 109 [.rows 45 (Sm.csL l), .int .i64 deep] [.bool (formS d l)] := by
  induction d with
  | zero =>
    intro l deep hd hdl hs
    have hlen := Sm.len_szL l
    refine pureF_of Tryz.func109 rfl Tryz.ntmps109 (by simp) T_ ?_
    intro f0 B Q hQ
    have hlt : decide (deep < 1) = true := by simp; omega
    refine g_ [0,1] ?_
    refine n_ ?_
    refine wpM_regionK [0,1,14] rfl fun Q1 hQ1 => ?_
    simp (contextual := true) (maxSteps := 1000000) (implicitDefEqProofs := false) (disch := first | omega | (simp only [decide_eq_true_eq, decide_eq_false_iff_not, Bool.and_eq_true, Bool.or_eq_false_iff, Bool.not_eq_true'] at *; omega)) only [go_sem, hlt, Bool.and_true]
    refine hQ1 _ _ (S_ ?_);clear hQ1 Q1
    refine c_ (fun hc0 => ?_) fun hc0 => ?_
    ·
      refine g_ [4] ?_
      refine e_ Tryz.results109 ?_
      first
      | exact True.intro
      | first | rfl | (simp only [formS]; symm; rw [beq_eq_false_iff_ne]; omega)
    have hl0 : l = [] := by cases l with
      | nil => rfl
      | cons x y => simp at hc0
    subst hl0
    refine g_ [0,1,5] ?_
    refine n_ ?_
    refine wpM_loopS (fun s n s' => s' = s) (0) ?_ ?_
    ·
      exact .here rfl
    rintro n s' rfl
    try refine S_ ?_
    refine g_ [0,1,5,18] ?_
    refine c_ (fun hc1 => ?_) fun hc1 => ?_
    · simp at hc1
    refine g_ [4] ?_
    refine e_ Tryz.results109 ?_
    first
    | exact True.intro
    | first | rfl | (simp only [formS]; symm; rw [beq_eq_false_iff_ne]; omega)
  | succ d ih =>
    intro l deep hd hdl hs
    have hlen := Sm.len_szL l
    refine pureF_of Tryz.func109 rfl Tryz.ntmps109 (by simp) T_ ?_
    intro f0 B Q hQ
    have hlt : decide (deep < 1) = false := by simp; omega
    refine g_ [0,1] ?_
    refine n_ ?_
    refine wpM_regionK [0,1,14] rfl fun Q1 hQ1 => ?_
    simp (contextual := true) (maxSteps := 1000000) (implicitDefEqProofs := false) (disch := first | omega | (simp only [decide_eq_true_eq, decide_eq_false_iff_not, Bool.and_eq_true, Bool.or_eq_false_iff, Bool.not_eq_true'] at *; omega)) only [go_sem, hlt, Bool.and_false]
    refine hQ1 _ _ (S_ ?_);clear hQ1 Q1
    refine c1_ ?_
    refine g_ [0,1,5] ?_
    refine n_ ?_
    refine wpM_loopS (fun s n s' => ∃ i M : Nat, i + n = l.length ∧ s.M ≤ M ∧ (l.take i).all (fun s => s.plain && s.e.ok && formS d s.th && formS d s.el) = true ∧ s' = { s with env := setE 5 (.int .i64 i) s.env, M := M }) (l.length) ?_ ?_
    ·
      refine .of ⟨0, _, by omega, Nat.le_refl _, by simp, rfl⟩ ?_ ?_ ?_ rfl rfl (Nat.le_refl _) rfl <;> exact L_
    rintro n s' ⟨i, M, hi, hM, hall, rfl⟩
    try refine S_ ?_
    refine g_ [0,1,5,18] ?_
    refine c_ (fun hc1 => ?_) fun hc1 => ?_
    ·
      have hi2 : i < l.length := by omega
      have hin := Sm.get_in hi2
      refine g_ [0,1,5,6] ?_
      refine g_ [0,1,5,6,7] ?_
      refine g_ [0,1,5,6,7,26] ?_
      refine g_ [0,1,5,6,7,26,27] ?_
      refine c_ (fun hc2 => ?_) fun hc2 => ?_
      ·
        refine wpM_regionK [0,1,5,6,7] rfl fun Q1 hQ1 => ?_
        refine SD_ ?_
        refine cpD_ (addrOk_ok (l.getD i default).to') Tryz.call53 ?_
        refine hQ1 _ _ (S_ ?_);clear hQ1 Q1
        refine n_ ?_
        refine wpM_regionK [0,1,5,91] rfl fun Q1 hQ1 => ?_
        refine SD_ ?_
        first | refine cg_ (fun hb => exprOk_ok (l.getD i default).e (by omega)) Tryz.call9 ?_ | refine cpD_ (exprOk_ok (l.getD i default).e (by omega)) Tryz.call9 ?_
        first | refine cg_ (fun hb => ih (l.getD i default).th (deep - 1) (by omega) (by omega) (by omega)) Tryz.call109 ?_ | refine cpD_ (ih (l.getD i default).th (deep - 1) (by omega) (by omega) (by omega)) Tryz.call109 ?_
        first | refine cg_ (fun hb => ih (l.getD i default).el (deep - 1) (by omega) (by omega) (by omega)) Tryz.call109 ?_ | refine cpD_ (ih (l.getD i default).el (deep - 1) (by omega) (by omega) (by omega)) Tryz.call109 ?_
        refine hQ1 _ _ (S_ ?_);clear hQ1 Q1
        refine c_ (fun hc3 => ?_) fun hc3 => ?_
        ·
          refine g_ [4] ?_
          refine e_ Tryz.results109 ?_
          first
          | exact True.intro
          | first
            | (simp only [formS]; exact (all_yes hi hc1 hall).symm)
            | (simp only [formS]; refine (all_no hi2 ?_).symm
               try simp only [Bool.not_and, Bool.or_assoc] at hc3
               try simp only [Bool.not_and, Bool.or_assoc] at hc5
               try simp only [Bool.not_and, Bool.or_assoc] at hc7
               simp only [Sm.plain, *, ↓reduceIte, Bool.false_eq_true, Bool.not_and, Bool.or_assoc])
        refine g_ [0,1,5] ?_
        refine .of ⟨n - 1, by omega, i + 1, M + 1, by omega, Nat.le_succ_of_le hM, ?_, rfl⟩ ?_ ?_ ?_ rfl rfl (Nat.le_refl _) rfl
        · rw [take_all _ _ _ hi2, hall, Bool.true_and]
          try simp only [Bool.or_eq_false_iff, Bool.not_eq_false', Bool.and_eq_true] at hc3
          try simp only [Bool.or_eq_false_iff, Bool.not_eq_false', Bool.and_eq_true] at hc5
          try simp only [Bool.or_eq_false_iff, Bool.not_eq_false', Bool.and_eq_true] at hc7
          simp only [Sm.plain, *, ↓reduceIte, Bool.false_eq_true, Bool.and_self]
        all_goals exact L_
      refine g_ [0,1,5,6,7,26,50] ?_
      refine c_ (fun hc4 => ?_) fun hc4 => ?_
      ·
        refine g_ [0,1,5,6,7] ?_
        refine n_ ?_
        refine wpM_regionK [0,1,5,91] rfl fun Q1 hQ1 => ?_
        refine SD_ ?_
        first | refine cg_ (fun hb => exprOk_ok (l.getD i default).e (by omega)) Tryz.call9 ?_ | refine cpD_ (exprOk_ok (l.getD i default).e (by omega)) Tryz.call9 ?_
        first | refine cg_ (fun hb => ih (l.getD i default).th (deep - 1) (by omega) (by omega) (by omega)) Tryz.call109 ?_ | refine cpD_ (ih (l.getD i default).th (deep - 1) (by omega) (by omega) (by omega)) Tryz.call109 ?_
        first | refine cg_ (fun hb => ih (l.getD i default).el (deep - 1) (by omega) (by omega) (by omega)) Tryz.call109 ?_ | refine cpD_ (ih (l.getD i default).el (deep - 1) (by omega) (by omega) (by omega)) Tryz.call109 ?_
        refine hQ1 _ _ (S_ ?_);clear hQ1 Q1
        refine c_ (fun hc5 => ?_) fun hc5 => ?_
        ·
          refine g_ [4] ?_
          refine e_ Tryz.results109 ?_
          first
          | exact True.intro
          | first
            | (simp only [formS]; exact (all_yes hi hc1 hall).symm)
            | (simp only [formS]; refine (all_no hi2 ?_).symm
               try simp only [Bool.not_and, Bool.or_assoc] at hc3
               try simp only [Bool.not_and, Bool.or_assoc] at hc5
               try simp only [Bool.not_and, Bool.or_assoc] at hc7
               simp only [Sm.plain, *, ↓reduceIte, Bool.false_eq_true, Bool.not_and, Bool.or_assoc])
        refine g_ [0,1,5] ?_
        refine .of ⟨n - 1, by omega, i + 1, M + 1, by omega, Nat.le_succ_of_le hM, ?_, rfl⟩ ?_ ?_ ?_ rfl rfl (Nat.le_refl _) rfl
        · rw [take_all _ _ _ hi2, hall, Bool.true_and]
          try simp only [Bool.or_eq_false_iff, Bool.not_eq_false', Bool.and_eq_true] at hc3
          try simp only [Bool.or_eq_false_iff, Bool.not_eq_false', Bool.and_eq_true] at hc5
          try simp only [Bool.or_eq_false_iff, Bool.not_eq_false', Bool.and_eq_true] at hc7
          simp only [Sm.plain, *, ↓reduceIte, Bool.false_eq_true, Bool.and_self]
        all_goals exact L_
      refine g_ [0,1,5,6,7,56] ?_
      refine c_ (fun hc6 => ?_) fun hc6 => ?_
      ·
        refine gD_ [0,1,5,6,7] ?_
        refine n_ ?_
        refine wpM_regionK [0,1,5,91] rfl fun Q1 hQ1 => ?_
        refine SD_ ?_
        first | refine cg_ (fun hb => exprOk_ok (l.getD i default).e (by omega)) Tryz.call9 ?_ | refine cpD_ (exprOk_ok (l.getD i default).e (by omega)) Tryz.call9 ?_
        first | refine cg_ (fun hb => ih (l.getD i default).th (deep - 1) (by omega) (by omega) (by omega)) Tryz.call109 ?_ | refine cpD_ (ih (l.getD i default).th (deep - 1) (by omega) (by omega) (by omega)) Tryz.call109 ?_
        first | refine cg_ (fun hb => ih (l.getD i default).el (deep - 1) (by omega) (by omega) (by omega)) Tryz.call109 ?_ | refine cpD_ (ih (l.getD i default).el (deep - 1) (by omega) (by omega) (by omega)) Tryz.call109 ?_
        refine hQ1 _ _ (S_ ?_);clear hQ1 Q1
        refine c_ (fun hc7 => ?_) fun hc7 => ?_
        ·
          refine g_ [4] ?_
          refine e_ Tryz.results109 ?_
          first
          | exact True.intro
          | first
            | (simp only [formS]; exact (all_yes hi hc1 hall).symm)
            | (simp only [formS]; refine (all_no hi2 ?_).symm
               try simp only [Bool.not_and, Bool.or_assoc] at hc3
               try simp only [Bool.not_and, Bool.or_assoc] at hc5
               try simp only [Bool.not_and, Bool.or_assoc] at hc7
               simp only [Sm.plain, *, ↓reduceIte, Bool.false_eq_true, Bool.not_and, Bool.or_assoc])
        refine g_ [0,1,5] ?_
        refine .of ⟨n - 1, by omega, i + 1, M + 1, by omega, Nat.le_succ_of_le hM, ?_, rfl⟩ ?_ ?_ ?_ rfl rfl (Nat.le_refl _) rfl
        · rw [take_all _ _ _ hi2, hall, Bool.true_and]
          try simp only [Bool.or_eq_false_iff, Bool.not_eq_false', Bool.and_eq_true] at hc3
          try simp only [Bool.or_eq_false_iff, Bool.not_eq_false', Bool.and_eq_true] at hc5
          try simp only [Bool.or_eq_false_iff, Bool.not_eq_false', Bool.and_eq_true] at hc7
          simp only [Sm.plain, *, ↓reduceIte, Bool.false_eq_true, Bool.and_self]
        all_goals exact L_
      refine wpM_skip ?_
      refine S_ ?_
      refine wpM_seq ?_
      refine wpM_regionK [0, 1, 5, 91] rfl ?_; intro Q1 hQ1
      refine SD_ ?_
      refine hQ1 _ _ ?_; clear hQ1 Q1
      refine S_ ?_
      refine wpM_condK ?_
      refine S_ ?_
      refine wpM_seq ?_
      refine wpM_regionK [4] rfl ?_; intro Q1 hQ1
      refine S_ ?_
      refine hQ1 _ _ ?_; clear hQ1 Q1
      refine S_ ?_
      refine wpM_ret ?_
      try refine S_ ?_
      refine hQ _ _ rfl rfl rfl (by simp -implicitDefEqProofs (disch := omega) only [go_sem, le_yes, true_or]) ?_ (.inl rfl)
      rw [Tryz.results109]
      try simp -implicitDefEqProofs (disch := omega) only [go_sem, List.cons.injEq, PV.bool.injEq, PV.int.injEq, PV.agg.injEq]
      all_goals
        simp only [formS]; refine (all_no hi2 ?_).symm
        simp only [Sm.plain, hc2, hc4, hc6, ↓reduceIte, Bool.false_eq_true, Bool.false_and, Bool.not_false]
    refine g_ [4] ?_
    refine e_ Tryz.results109 ?_
    first
    | exact True.intro
    | first
      | (simp only [formS]; exact (all_yes hi hc1 hall).symm)
      | (simp only [formS]; refine (all_no hi2 ?_).symm
         try simp only [Bool.not_and, Bool.or_assoc] at hc3
         try simp only [Bool.not_and, Bool.or_assoc] at hc5
         try simp only [Bool.not_and, Bool.or_assoc] at hc7
         simp only [Sm.plain, *, ↓reduceIte, Bool.false_eq_true, Bool.not_and, Bool.or_assoc])
def okS (l : List Sm) : Bool := decide (manyS 4 l ≤ 16) && formS 4 l
theorem stmtsOk_ok (l : List Sm) (hs : Sm.szL l ≤ 1099511627776) : PureF Tryz.prog 93 [.rows 45 (Sm.csL l)] [.bool (okS l)] := by
  refine pureF_of Tryz.func93 rfl Tryz.ntmps93 (by simp) T_ ?_
  intro f0 B Q hQ
  refine g_ [0] ?_
  refine n_ ?_
  refine wpM_regionK [2] rfl fun Q1 hQ1 => ?_
  refine SD_ ?_
  refine cpD_ (l4Many_ok 4 l 4 rfl (by omega) hs) Tryz.call108 ?_
  first | refine cg_ (fun hb => l4Form_ok 4 l 4 rfl (by omega) hs) Tryz.call109 ?_ | refine cpD_ (l4Form_ok 4 l 4 rfl (by omega) hs) Tryz.call109 ?_
  refine hQ1 _ _ (S_ ?_);clear hQ1 Q1
  refine e_ Tryz.results93 ?_
  first
  | exact True.intro
  | have : decide ((manyS 4 l : Int) ≤ 16) = decide (manyS 4 l ≤ 16) := by simp; omega
    simp only [okS, this]
end Go.Proofs.YtmicbfojofcigaaGreat
namespace Go.Proofs.YtmicbfojofcigaaGreat
open Go Sg
set_option linter.unusedSectionVars false
variable [Glob]
set_option maxRecDepth 100000
set_option linter.unusedSimpArgs false
set_option linter.unusedVariables false
set_option maxHeartbeats 4000000
def doOf (s : Sm) : PV :=
  if s.kind == 1 then .iface 148 (.agg [.int .i64 s.to'.kind, .int .i64 s.to'.at', .int .i64 s.e.kind, .int .i64 s.e.n, .int .i64 s.e.a.kind, .int .i64 s.e.a.at', .rows 27 (Ex.csL s.e.kids)])
  else if s.kind == 2 then .iface 150 (.agg [.int .i64 s.e.kind, .int .i64 s.e.n, .int .i64 s.e.a.kind, .int .i64 s.e.a.at', .rows 27 (Ex.csL s.e.kids), .rows 45 (Sm.csL s.th), .rows 45 (Sm.csL s.el)])
  else if s.kind == 3 then .iface 152 (.agg [.int .i64 s.e.kind, .int .i64 s.e.n, .int .i64 s.e.a.kind, .int .i64 s.e.a.at', .rows 27 (Ex.csL s.e.kids), .rows 45 (Sm.csL s.th)]) else .nilif
theorem doOf_pure (s : Sm) : (doOf s).pure = true := by
  unfold doOf
  repeat' split
  all_goals rfl
theorem doOf_ok (s : Sm) : PureF Tryz.prog 98 [.agg s.cs] [doOf s] := by
  refine pureF_of Tryz.func98 rfl Tryz.ntmps98 (by simp) (by simp [PV.pureL, doOf_pure]) ?_
  intro f0 B Q hQ
  refine g_ [1] ?_
  refine g_ [1,4] ?_
  refine g_ [1,4,5] ?_
  refine c_ (fun hc0 => ?_) fun hc0 => ?_
  ·
    refine g_ [2] ?_
    refine e_ Tryz.results98 ?_
    first
    | exact True.intro
    | simp only [doOf, *, ↓reduceIte, Bool.false_eq_true]
  refine g_ [1,4,13] ?_
  refine c_ (fun hc1 => ?_) fun hc1 => ?_
  ·
    refine g_ [2] ?_
    refine e_ Tryz.results98 ?_
    first
    | exact True.intro
    | simp only [doOf, *, ↓reduceIte, Bool.false_eq_true]
  refine g_ [1,23] ?_
  refine c_ (fun hc2 => ?_) fun hc2 => ?_
  ·
    refine g_ [2] ?_
    refine e_ Tryz.results98 ?_
    first
    | exact True.intro
    | simp only [doOf, *, ↓reduceIte, Bool.false_eq_true]
  refine g_ [2] ?_
  refine e_ Tryz.results98 ?_
  first
  | exact True.intro
  | simp only [doOf, *, ↓reduceIte, Bool.false_eq_true]
theorem plain1_ok (s : Sm) (v : List PV) (hv : v.all PV.cell = true) : PureF Tryz.prog 174 [.agg v, .agg s.cs] [.bool (s.to'.ok && s.to'.kind != 1 && (s.th.length : Int) == 0 && (s.el.length : Int) == 0)] := by
  refine pureF_of Tryz.func174 rfl Tryz.ntmps174 (by simp) T_ ?_
  intro f0 B Q hQ
  refine n_ ?_
  refine wpM_regionK [3] rfl fun Q1 hQ1 => ?_
  simp -implicitDefEqProofs (disch := omega) only [go_sem, hv, true_and]
  refine hQ1 _ _ (S_ ?_);clear hQ1 Q1
  refine n_ ?_
  refine wpM_regionK [4] rfl fun Q1 hQ1 => ?_
  refine SD_ ?_
  refine cpD_ (puts_ok s.to') Tryz.call97 ?_
  refine hQ1 _ _ (S_ ?_);clear hQ1 Q1
  refine e_ Tryz.results174 ?_
  first
  | exact True.intro
  | rfl
theorem plain2_ok (s : Sm) (v : List PV) (hv : v.all PV.cell = true) : PureF Tryz.prog 177 [.agg v, .agg s.cs] [.bool (s.to'.kind == 0 && s.to'.at' == 0)] := by
  refine pureF_of Tryz.func177 rfl Tryz.ntmps177 (by simp) T_ ?_
  intro f0 B Q hQ
  refine n_ ?_
  refine wpM_regionK [3] rfl fun Q1 hQ1 => ?_
  simp -implicitDefEqProofs (disch := omega) only [go_sem, hv, true_and]
  refine hQ1 _ _ (S_ ?_);clear hQ1 Q1
  refine g_ [4] ?_
  refine e_ Tryz.results177 ?_
  first
  | exact True.intro
  | rfl
theorem plain3_ok (s : Sm) (v : List PV) (hv : v.all PV.cell = true) : PureF Tryz.prog 180 [.agg v, .agg s.cs] [.bool (s.to'.kind == 0 && s.to'.at' == 0 && (s.el.length : Int) == 0)] := by
  refine pureF_of Tryz.func180 rfl Tryz.ntmps180 (by simp) T_ ?_
  intro f0 B Q hQ
  refine n_ ?_
  refine wpM_regionK [3] rfl fun Q1 hQ1 => ?_
  simp -implicitDefEqProofs (disch := omega) only [go_sem, hv, true_and]
  refine hQ1 _ _ (S_ ?_);clear hQ1 Q1
  refine gD_ [4] ?_
  refine e_ Tryz.results180 ?_
  first
  | exact True.intro
  | rfl
def doNil (s : Sm) : Bool := !(s.kind == 1 || s.kind == 2 || s.kind == 3)
@[go_sem] theorem eql_do (x : Operand) (v : Value) (s : Sm) : binOpA Tryz.prog .eql 134 x (.const v) (doOf s) .nilif = some (.bool (doNil s)) := by
  unfold doOf doNil
  cases h1 : s.kind == 1 <;> cases h2 : s.kind == 2 <;> cases h3 : s.kind == 3 <;> simp [binOpA, eqPair, eqA, Tryz.underlying134, isConstOp]
theorem do_plain (s : Sm) (hn : doNil s = false) : ∃ t v fp, doOf s = .iface t v ∧ (∀ args w, (callFunc fp args).run Tryz.prog w = .ok (.enter fp args) w) ∧
    (∀ (u : Value) w, (method (Tryz.prog.types.size + Made.depth) t u "loop.example/stopgate/impl.plain").run Tryz.prog w = .ok (fp, u) w) ∧ PureF Tryz.prog fp [v, .agg s.cs] [.bool s.plain] := by
  by_cases h1 : s.kind = 1
  · refine ⟨148, _, 174, by simp only [doOf, h1, beq_self_eq_true, if_true]; rfl, Tryz.call174, method_run info148 Tryz.underlying148 (by simp) (by rfl) rfl rfl, ?_⟩
    have := plain1_ok s
    simp only [Sm.plain, h1, beq_self_eq_true, if_true]
    exact this _ (by rfl)
  by_cases h2 : s.kind = 2
  · refine ⟨150, _, 177, by simp only [doOf, h2, beq_self_eq_true, if_true]; rfl, Tryz.call177, method_run info150 Tryz.underlying150 (by simp) (by rfl) rfl rfl, ?_⟩
    have := plain2_ok s
    simp only [Sm.plain, h2, beq_self_eq_true, if_true]
    exact this _ (by rfl)
  have h3 : s.kind = 3 := by simpa [doNil, h1, h2] using hn
  refine ⟨152, _, 180, by simp only [doOf, h3, beq_self_eq_true, if_true]; rfl, Tryz.call180, method_run info152 Tryz.underlying152 (by simp) (by rfl) rfl rfl, ?_⟩
  have := plain3_ok s
  simp only [Sm.plain, h3, beq_self_eq_true, if_true]
  exact this _ (by rfl)
def badS (n : Int) (deep : Int) (s : Sm) : Bool := decide (n > 16) || decide (deep ≥ 4) || doNil s || !s.plain || !(vis s.e 0 0).isSome
mutual
def Sm.vis : Sm → Nat → Nat → Option Nat
  | .mk k a e th el, d, c => if badS ((c : Int) + 1) (d : Int) (.mk k a e th el) then none else match Sm.visL th (d + 1) (c + 1) with
    | some c2 => Sm.visL el (d + 1) c2
    | none => none
def Sm.visL : List Sm → Nat → Nat → Option Nat
  | [], _, c => some c
  | s :: l, d, c => match s.vis d c with
    | some c2 => Sm.visL l d c2
    | none => none
end
end Go.Proofs.YtmicbfojofcigaaGreat
namespace Go.Proofs.YtmicbfojofcigaaGreat
open Go Sg
set_option linter.unusedSectionVars false
variable [Glob]
set_option maxRecDepth 100000
set_option linter.unusedSimpArgs false
set_option linter.unusedVariables false
set_option maxHeartbeats 4000000
theorem Sm.vis_eq (s : Sm) (d c : Nat) : s.vis d c = if badS ((c : Int) + 1) (d : Int) s then none else match Sm.visL s.th (d + 1) (c + 1) with
    | some c2 => Sm.visL s.el (d + 1) c2
    | none => none := by cases s; simp only [Sm.vis, Sm.th, Sm.el] <;> rfl
theorem Sm.visL_app (l : List Sm) : ∀ (r : List Sm) (d c : Nat), Sm.visL (l ++ r) d c = match Sm.visL l d c with
    | some c2 => Sm.visL r d c2
    | none => none := by
  induction l with
  | nil => intro r d c; rfl
  | cons s l ih =>
    intro r d c
    simp only [List.cons_append, Sm.visL]
    cases s.vis d c with
    | none => rfl
    | some c2 => exact ih r d c2
theorem Sm.visL_take (l : List Sm) (d c i : Nat) (h : i < l.length) : Sm.visL (l.take (i + 1)) d c = match Sm.visL (l.take i) d c with
    | some c2 => (l.getD i default).vis d c2
    | none => none := by
  rw [List.take_succ_eq_append_getElem h, Sm.visL_app]
  cases Sm.visL (l.take i) d c with
  | none => rfl
  | some c2 =>
    simp only [Sm.visL, List.getD, List.getElem?_eq_getElem h, Option.getD_some]
    cases (l[i]).vis d c2 <;> rfl
theorem Sm.visL_none {l : List Sm} {d c i : Nat} (h : Sm.visL (l.take i) d c = none) : Sm.visL l d c = none := by
  have := Sm.visL_app (l.take i) (l.drop i) d c
  rw [List.take_append_drop, h] at this
  exact this
def CntO (id : Nat) (l : List Sm) (d c : Nat) (_ : List Nat) (o : COut) : Prop :=
  ∃ (r : Option Nat) (c' : Nat), Sm.visL l d c = r ∧ c' ≤ 17 ∧ (∀ k, r = some k → c' = k ∧ k ≤ 16) ∧ o = { rs := [.bool r.isSome], u := [(id, some (.cells 3 [.int .i64 (c' : Nat)]))] }
def CntF (id : Nat) (l : List Sm) (d c : Nat) : Prop := CallF Tryz.prog 74 [.rows 45 (Sm.csL l), .int .i64 (d : Nat), .ptr id 0] [(id, .cells 3 [.int .i64 (c : Nat)])] 0 (CntO id l d c)
end Go.Proofs.YtmicbfojofcigaaGreat
namespace Go.Proofs.YtmicbfojofcigaaGreat
open Go Sg
set_option linter.unusedSectionVars false
variable [Glob]
set_option maxRecDepth 100000
set_option linter.unusedSimpArgs false
set_option linter.unusedVariables false
set_option maxHeartbeats 4000000
theorem count_ok (id : Nat) : ∀ (N : Nat) (l : List Sm), Sm.szL l ≤ N → Sm.szL l ≤ 1099511627776 → ∀ d c : Nat, d ≤ 4 → c ≤ 16 → CntF id l d c := by
  intro N
  induction N with
  | zero =>
    intro l hN
    have h0 : l.length = 0 := by have := Sm.len_szL l; omega
    obtain rfl : l = [] := List.eq_nil_of_length_eq_zero h0
    intro hs d c hd hc
    refine callF_of' Tryz.func74 rfl Tryz.ntmps74 (by simp) ?_
    intro f0 B ns Q hB hns hQ
    have hid : id < B := hB id (by simp [hasKey, lk])
    obtain rfl : ns = [] := List.eq_nil_of_length_eq_zero hns
    refine g_ [0,1,2] ?_
    refine g_ [1,2,10,11,12] ?_
    refine n_ ?_
    refine wpM_loopS (fun s n s' => s' = s) (0) ?_ ?_
    ·
      exact .here rfl
    rintro n s' rfl
    try refine S_ ?_
    refine g_ [1,2,10,11,12,13] ?_
    refine c_ (fun hc0 => ?_) fun hc0 => ?_
    · simp at hc0
    refine g_ [6] ?_
    refine wpM_ret ?_
    try refine S_ ?_
    refine hQ _ _ (ret0 [(id, some (.cells 3 [.int .i64 (c : Nat)]))] rfl rfl rfl (by rw [Tryz.results74] <;> simp (maxSteps := 1000000) -implicitDefEqProofs (disch := omega) only [go_sem] <;> rfl) ⟨some c, c, rfl, by omega, fun k hk => (by injection hk with hk; omega), rfl⟩ ?_ ?_ ?_ ?_)
    all_goals simp -implicitDefEqProofs (disch := omega) only [go_sem, true_or, or_true]
  | succ N ih =>
    intro l hN hs d c hd hc
    have hlen := Sm.len_szL l
    refine callF_of' Tryz.func74 rfl Tryz.ntmps74 (by simp) ?_
    intro f0 B ns Q hB hns hQ
    have hid : id < B := hB id (by simp [hasKey, lk])
    obtain rfl : ns = [] := List.eq_nil_of_length_eq_zero hns
    have hT : Tryz.prog.cellsOf 3 = 1 := cellsOf3
    refine g_ [0,1,2] ?_
    refine g_ [1,2,10,11,12] ?_
    refine n_ ?_
    refine wpM_loopS (fun s n s' => ∃ (i M ci : Nat), i + n = l.length ∧ B ≤ M ∧ Sm.visL (l.take i) d c = some ci ∧ ci ≤ 16 ∧ s' = { s with env := setE 12 (.int .i64 (i : Nat)) s.env, l := [(id, .cells 3 [.int .i64 (ci : Nat)])], M := M }) (l.length) ?_ ?_
    ·
      refine .of' _ _ ⟨0, _, c, by omega, Nat.le_refl _, rfl, hc, rfl⟩ ?_ ?_ ?_ <;> exact L_
    rintro n s' ⟨i, M, ci, hi, hM, hv, hci, rfl⟩
    try refine S_ ?_
    refine g_ [1,2,10,11,12,13] ?_
    refine c_ (fun hc0 => ?_) fun hc0 => ?_
    ·
      have hi2 : i < l.length := by omega
      have hin := Sm.get_in hi2
      refine g_ [1,2,8,10,11,12] ?_
      refine g_ [1,2,8,10,11,12] ?_
      refine n_ ?_
      refine wpM_regionK [1,2,8,9,10,11,12] rfl fun Q1 hQ1 => ?_
      refine S_ ?_
      refine cp_ (doOf_ok (l.getD i default)) Tryz.call98 ?_
      refine hQ1 _ _ (S_ ?_);clear hQ1 Q1
      refine n_ ?_
      refine wpM_regionK [1,2,8,10,11,12,46] rfl fun Q1 hQ1 => ?_
      refine SD_ ?_
      refine callG (v := .bool (l.getD i default).plain) (fun _ _ hb hk' => ?_) ?_
      · have hb2 := hb
        simp only [Bool.not_eq_true', Bool.or_eq_false_iff] at hb2
        obtain ⟨t, v, fp, hr, q1, q2, q3⟩ := do_plain _ hb2.2
        exact inv_p (args := [.agg (l.getD i default).cs]) q3 q1 q2 rfl rfl (by simp -implicitDefEqProofs (disch := omega) only [go_sem, hb, gd_of hb, hr]) (by simp -implicitDefEqProofs (disch := omega) only [go_sem, hb, gd_of hb]) hk'
      refine SD_ ?_
      first | refine cg_ (fun hb => iexprOk_ok (l.getD i default).e (by omega)) Tryz.call11 ?_ | refine cpD_ (iexprOk_ok (l.getD i default).e (by omega)) Tryz.call11 ?_
      refine hQ1 _ _ (S_ ?_);clear hQ1 Q1
      refine c_ (fun hc1 => ?_) fun hc1 => ?_
      ·
        refine g_ [6] ?_
        refine wpM_ret ?_
        try refine S_ ?_
        refine hQ _ _ (ret0 [(id, some (.cells 3 [.int .i64 ((ci + 1 : Nat) : Int)]))] rfl rfl rfl (by rw [Tryz.results74] <;> simp (maxSteps := 1000000) -implicitDefEqProofs (disch := omega) only [go_sem] <;> rfl) ⟨none, ci + 1, ?_, by omega, fun k hk => (by cases hk), rfl⟩ ?_ ?_ ?_ ?_)
        · refine Sm.visL_none (i := i + 1) ?_
          rw [Sm.visL_take l d c i hi2, hv]
          have hbad : badS ((ci : Int) + 1) (d : Int) (l.getD i default) = true := hc1
          simp only [Sm.vis_eq, hbad, if_true]
        all_goals simp -implicitDefEqProofs (disch := omega) only [go_sem, true_or, or_true]
        rfl
      have hbad : badS ((ci : Int) + 1) (d : Int) (l.getD i default) = false := hc1
      have hdd : d + 1 ≤ 4 := by
        simp only [badS, Bool.or_eq_false_iff, decide_eq_false_iff_not] at hbad; omega
      have hcc : ci + 1 ≤ 16 := by
        simp only [badS, Bool.or_eq_false_iff, decide_eq_false_iff_not] at hbad; omega
      refine n_ ?_
      refine wpM_regionK [1,2,10,11,12,62] rfl fun Q1 hQ1 => ?_
      refine SD_ ?_
      refine call_fn (l := [(id, .cells 3 [.int .i64 ((ci + 1 : Nat) : Int)])]) (first := []) (cap := []) (ps := [.rows 45 (Sm.csL (l.getD i default).th), .int .i64 ((d + 1 : Nat) : Int), .ptr id 0]) (ih (l.getD i default).th (by omega) (by omega) (d + 1) (ci + 1) hdd hcc) Tryz.call74 rfl rfl rfl (by simp -implicitDefEqProofs (disch := omega) only [go_sem] <;> rfl) (by simp -implicitDefEqProofs (disch := omega) only [go_sem] <;> rfl) ?_
      rintro out ⟨r1, c1, hr1, hc1', hk1, rfl⟩
      rcases r1 with _ | k1
      · refine S_ ?_
        refine hQ1 _ _ (S_ ?_)
        refine c1_ ?_
        refine g_ [6] ?_
        refine n_ ?_
        refine wpM_ret ?_
        try refine S_ ?_
        refine hQ _ _ (ret0 [(id, some (.cells 3 [.int .i64 (c1 : Nat)]))] rfl rfl rfl (by rw [Tryz.results74] <;> simp (maxSteps := 1000000) -implicitDefEqProofs (disch := omega) only [go_sem] <;> rfl) ⟨none, c1, ?_, hc1', fun k hk => (by cases hk), rfl⟩ ?_ ?_ ?_ ?_)
        · refine Sm.visL_none (i := i + 1) ?_
          rw [Sm.visL_take l d c i hi2, hv]
          simp only [Sm.vis_eq, hbad, hr1, Bool.false_eq_true, if_false]
        all_goals simp -implicitDefEqProofs (disch := omega) only [go_sem, true_or, or_true]
      obtain ⟨rfl, hk1⟩ := hk1 k1 rfl
      refine SD_ ?_
      refine call_fn (l := [(id, .cells 3 [.int .i64 (c1 : Nat)])]) (first := []) (cap := []) (ps := [.rows 45 (Sm.csL (l.getD i default).el), .int .i64 ((d + 1 : Nat) : Int), .ptr id 0]) (ih (l.getD i default).el (by omega) (by omega) (d + 1) c1 hdd hk1) Tryz.call74 rfl rfl rfl (by simp -implicitDefEqProofs (disch := omega) only [go_sem] <;> rfl) T_ ?_
      rintro out ⟨r2, c2, hr2, hc2', hk2, rfl⟩
      refine SD_ ?_
      refine hQ1 _ _ (S_ ?_);clear hQ1 Q1
      refine c_ (fun hc2 => ?_) fun hc2 => ?_
      ·
        refine g_ [6] ?_
        refine wpM_ret ?_
        try refine S_ ?_
        obtain rfl : r2 = none := by
          cases r2 with
          | none => rfl
          | some k2 => simp at hc2
        refine hQ _ _ (ret0 [(id, some (.cells 3 [.int .i64 (c2 : Nat)]))] rfl rfl rfl (by rw [Tryz.results74] <;> simp (maxSteps := 1000000) -implicitDefEqProofs (disch := omega) only [go_sem] <;> rfl) ⟨none, c2, ?_, hc2', fun k hk => (by cases hk), rfl⟩ ?_ ?_ ?_ ?_)
        · refine Sm.visL_none (i := i + 1) ?_
          rw [Sm.visL_take l d c i hi2, hv]
          simp only [Sm.vis_eq, hbad, hr1, hr2, Bool.false_eq_true, if_false]
        all_goals simp -implicitDefEqProofs (disch := omega) only [go_sem, true_or, or_true]
      refine g_ [1,2,10,11,12] ?_
      obtain ⟨k2, rfl⟩ : ∃ k2, r2 = some k2 := by
        cases r2 with
        | none => simp at hc2
        | some k2 => exact ⟨k2, rfl⟩
      obtain ⟨rfl, hk2⟩ := hk2 k2 rfl
      refine .of' _ _ ⟨n - 1, by omega, i + 1, _, c2, by omega, ?_, ?_, hk2, rfl⟩ ?_ ?_ ?_
      · exact M_
      · rw [Sm.visL_take l d c i hi2, hv]
        simp only [Sm.vis_eq, hbad, hr1, hr2, Bool.false_eq_true, if_false]
      all_goals exact L_
    refine g_ [6] ?_
    refine wpM_ret ?_
    try refine S_ ?_
    obtain rfl : i = l.length := by omega
    rw [List.take_of_length_le (Nat.le_refl _)] at hv
    refine hQ _ _ (ret0 [(id, some (.cells 3 [.int .i64 (ci : Nat)]))] rfl rfl rfl (by rw [Tryz.results74] <;> simp (maxSteps := 1000000) -implicitDefEqProofs (disch := omega) only [go_sem] <;> rfl) ⟨some ci, ci, hv, by omega, fun k hk => (by injection hk with hk; omega), rfl⟩ ?_ ?_ ?_ ?_)
    all_goals simp -implicitDefEqProofs (disch := omega) only [go_sem, true_or, or_true]
end Go.Proofs.YtmicbfojofcigaaGreat
namespace Go.Proofs.YtmicbfojofcigaaGreat
open Go Sg
set_option maxRecDepth 100000
set_option linter.unusedSimpArgs false
set_option linter.unusedVariables false
set_option linter.unusedSectionVars false
set_option maxHeartbeats 4000000
variable [Tab]
end Go.Proofs.YtmicbfojofcigaaGreat
namespace Go.Proofs.YtmicbfojofcigaaGreat
open Go Sg
set_option maxRecDepth 100000
set_option linter.unusedSimpArgs false
set_option linter.unusedVariables false
set_option linter.unusedSectionVars false
set_option maxHeartbeats 4000000
variable [Tab]
def wh (c : MM → Bool) (b : MM → Nat → MM × Nat × Bool) : Nat → MM → Nat → MM × Nat × Bool
  | 0, m, _ => (m, 0, true)
  | g + 1, m, F => if c m then (if (b m F).2.2 then b m F else if (b m F).2.1 = 0 then ((b m F).1, 0, true) else wh c b g (b m F).1 ((b m F).2.1 - 1)) else (m, F, false)
mutual
def Sm.ex : Sm → MM → Nat → MM × Nat × Bool
  | .mk k a e th el, m, F => if k == 1 then (m.put a (e.of m), F, false)
    else if k == 3 then wh (fun m => e.of m != 0) (fun m F => Sm.exL th m F) (F + 1) m F
    else if e.of m != 0 then Sm.exL th m F else Sm.exL el m F
def Sm.exL : List Sm → MM → Nat → MM × Nat × Bool
  | [], m, F => (m, F, false)
  | s :: l, m, F => if (s.ex m F).2.2 then s.ex m F else Sm.exL l (s.ex m F).1 (s.ex m F).2.1
end
theorem wh_le {c : MM → Bool} {b : MM → Nat → MM × Nat × Bool} (h : ∀ m F, (b m F).2.1 ≤ F) : ∀ g m F, (wh c b g m F).2.1 ≤ F
  | 0, m, F => by simp [wh]
  | g + 1, m, F => by
    simp only [wh]
    split
    · split
      · exact h m F
      · split
        · simp
        · exact Nat.le_trans (wh_le h g _ _) (by have := h m F; omega)
    · simp
theorem wh_six {c : MM → Bool} {b : MM → Nat → MM × Nat × Bool} (h : ∀ m F, m.Six → (b m F).1.Six) : ∀ g m F, m.Six → (wh c b g m F).1.Six
  | 0, m, F => fun hm => hm
  | g + 1, m, F => fun hm => by
    simp only [wh]
    split
    · split
      · exact h m F hm
      · split
        · exact h m F hm
        · exact wh_six h g _ _ (h m F hm)
    · exact hm
mutual
theorem Sm.ex_le : (s : Sm) → (m : MM) → (F : Nat) → (s.ex m F).2.1 ≤ F
  | .mk k a e th el, m, F => by
    simp only [Sm.ex]
    split
    · simp
    · split
      · exact wh_le (fun m F => Sm.exL_le th m F) _ _ _
      · split
        · exact Sm.exL_le th m F
        · exact Sm.exL_le el m F
theorem Sm.exL_le : (l : List Sm) → (m : MM) → (F : Nat) → (Sm.exL l m F).2.1 ≤ F
  | [], m, F => by simp [Sm.exL]
  | s :: l, m, F => by
    simp only [Sm.exL]
    split
    · exact Sm.ex_le s m F
    · exact Nat.le_trans (Sm.exL_le l _ _) (Sm.ex_le s m F)
end
mutual
theorem Sm.ex_six : (s : Sm) → (m : MM) → (F : Nat) → m.Six → (s.ex m F).1.Six
  | .mk k a e th el, m, F => fun hm => by
    simp only [Sm.ex]
    split
    · exact MM.put_six hm _ _
    · split
      · exact wh_six (fun m F hm => Sm.exL_six th m F hm) _ _ _ hm
      · split
        · exact Sm.exL_six th m F hm
        · exact Sm.exL_six el m F hm
theorem Sm.exL_six : (l : List Sm) → (m : MM) → (F : Nat) → m.Six → (Sm.exL l m F).1.Six
  | [], m, F => fun hm => hm
  | s :: l, m, F => fun hm => by
    simp only [Sm.exL]
    split
    · exact Sm.ex_six s m F hm
    · exact Sm.exL_six l _ _ (Sm.ex_six s m F hm)
end
theorem pair3 {x : MM × Nat × Bool} (h : x.2.2 = false) : (x.1, x.2.1, false) = x := by rw [← h]
theorem Sm.exL_app (l r : List Sm) (m : MM) (F : Nat) : Sm.exL (l ++ r) m F = if (Sm.exL l m F).2.2 then Sm.exL l m F else Sm.exL r (Sm.exL l m F).1 (Sm.exL l m F).2.1 := by
  induction l generalizing m F with
  | nil => simp [Sm.exL]
  | cons s l ih =>
    simp only [List.cons_append, Sm.exL]
    split
    · rfl
    · rw [ih]
theorem Sm.exL_take (l : List Sm) (m : MM) (F i : Nat) (h : i < l.length) : Sm.exL (l.take (i + 1)) m F = if (Sm.exL (l.take i) m F).2.2 then Sm.exL (l.take i) m F else (l.getD i default).ex (Sm.exL (l.take i) m F).1 (Sm.exL (l.take i) m F).2.1 := by
  rw [List.take_succ_eq_append_getElem h, Sm.exL_app]
  split
  · rfl
  · simp only [Sm.exL, List.getD, List.getElem?_eq_getElem h, Option.getD_some]
    split
    · rfl
    · rename_i h1; rw [Bool.not_eq_true] at h1; exact pair3 h1
theorem formS_at {d : Nat} {l : List Sm} (h : formS d l = true) {i : Nat} (hi : i < l.length) : (l.getD i default).plain = true ∧ (l.getD i default).e.ok = true ∧ ∃ d', formS d' (l.getD i default).th = true ∧ formS d' (l.getD i default).el = true := by
  cases d with
  | zero => simp only [formS, beq_iff_eq] at h; omega
  | succ d =>
    simp only [formS, List.all_eq_true] at h
    have := h (l.getD i default) (by simp [List.getD, hi])
    simp only [Bool.and_eq_true] at this
    exact ⟨this.1.1.1, this.1.1.2, d, this.1.2, this.2⟩
theorem ok_form {e : Ex} (h : e.ok = true) : formD 6 e = true := by
  simp only [Ex.ok, Bool.and_eq_true] at h; first | exact h.1 | exact h.2
def rfoot (r id F : Nat) (m : MM) : List (Nat × AObj) := [(r, .cells 194 [.ptr id 0, .int .i64 (F : Int)]), (id, .cells 104 (ints m.flat))]
@[go_sem] theorem rfoot_eq (r id F : Nat) (m : MM) : rfoot r id F m = [(r, .cells 194 [.ptr id 0, .int .i64 (F : Int)]), (id, .cells 104 (ints m.flat))] := rfl
def ru (r id : Nat) (x : MM × Nat × Bool) : List (Nat × Option AObj) := [(r, some (.cells 194 [.ptr id 0, .int .i64 (x.2.1 : Int)])), (id, some (.cells 104 (ints x.1.flat)))]
@[go_sem] theorem ru_eq (r id : Nat) (x : MM × Nat × Bool) : ru r id x = [(r, some (.cells 194 [.ptr id 0, .int .i64 (x.2.1 : Int)])), (id, some (.cells 104 (ints x.1.flat)))] := rfl
end Go.Proofs.YtmicbfojofcigaaGreat
namespace Go.Proofs.YtmicbfojofcigaaGreat
open Go Sg
set_option maxRecDepth 100000
set_option linter.unusedSimpArgs false
set_option linter.unusedVariables false
set_option linter.unusedSectionVars false
set_option maxHeartbeats 4000000
variable [Tab]
theorem badS_eq (n d : Int) (s : Sm) : badS n d s = (decide (n > 16) || decide (d ≥ 4) || !(s.plain && s.e.ok)) := by
  unfold badS
  rw [vis_ok]
  cases hp : s.plain
  · simp
  · have : doNil s = false := by
      unfold Sm.plain at hp
      unfold doNil
      cases h1 : s.kind == 1 <;> cases h2 : s.kind == 2 <;> cases h3 : s.kind == 3 <;> simp_all
    rw [this]
    cases s.e.ok <;> simp
theorem manyS_cons (k : Nat) (s : Sm) (l : List Sm) : manyS (k + 1) (s :: l) = 1 + manyS k s.th + manyS k s.el + manyS (k + 1) l := by
  simp only [manyS, List.length_cons, List.map_cons, List.sum_cons]; omega
theorem formS_cons (k : Nat) (s : Sm) (l : List Sm) : formS (k + 1) (s :: l) = (s.plain && s.e.ok && formS k s.th && formS k s.el && formS (k + 1) l) := by
  simp only [formS, List.all_cons]
theorem manyS_nil (k : Nat) : manyS k [] = 0 := by cases k <;> rfl
theorem formS_nil (k : Nat) : formS k [] = true := by cases k <;> rfl
theorem visL_eq (k : Nat) : ∀ (l : List Sm) (d c : Nat), d + k = 4 → c ≤ 16 → Sm.visL l d c = if formS k l = true ∧ c + manyS k l ≤ 16 then some (c + manyS k l) else none := by
  induction k with
  | zero =>
    intro l d c hd hc
    cases l with
    | nil => simp [Sm.visL, formS, manyS, hc]
    | cons s l =>
      simp only [Sm.visL, Sm.vis_eq, badS_eq]
      have : decide ((d : Int) ≥ 4) = true := by simp; omega
      simp [this, formS]
  | succ k ih =>
    intro l
    induction l with
    | nil => intro d c hd hc; simp [Sm.visL, formS_nil, manyS_nil, hc]
    | cons s l ihl =>
      intro d c hd hc
      simp only [Sm.visL, Sm.vis_eq, badS_eq]
      have hd4 : decide ((d : Int) ≥ 4) = false := by simp; omega
      rw [manyS_cons, formS_cons, hd4, Bool.or_false]
      by_cases h16 : c + 1 > 16
      · have : decide (((c : Int) + 1) > 16) = true := by simp; omega
        rw [this, Bool.true_or, if_pos rfl, if_neg (by omega)]
      · have : decide (((c : Int) + 1) > 16) = false := by simp; omega
        rw [this, Bool.false_or]
        cases hp : (s.plain && s.e.ok)
        · simp
        · simp only [Bool.not_true, Bool.false_eq_true, if_false, Bool.true_and]
          rw [ih s.th (d + 1) (c + 1) (by omega) (by omega)]
          by_cases h1 : formS k s.th = true ∧ c + 1 + manyS k s.th ≤ 16
          · rw [if_pos h1]
            dsimp only
            rw [ih s.el (d + 1) _ (by omega) h1.2]
            by_cases h2 : formS k s.el = true ∧ c + 1 + manyS k s.th + manyS k s.el ≤ 16
            · rw [if_pos h2]
              dsimp only
              rw [ihl d _ hd h2.2]
              rw [h1.1, h2.1]
              simp only [Bool.true_and]
              have e : c + 1 + manyS k s.th + manyS k s.el + manyS (k + 1) l = c + (1 + manyS k s.th + manyS k s.el + manyS (k + 1) l) := by omega
              rw [e]
            · rw [if_neg h2, if_neg]
              rintro ⟨g1, g2⟩
              simp only [Bool.and_eq_true] at g1
              exact h2 ⟨g1.1.2, by omega⟩
          · rw [if_neg h1, if_neg]
            rintro ⟨g1, g2⟩
            simp only [Bool.and_eq_true] at g1
            exact h1 ⟨g1.1.1, by omega⟩
theorem visL_ok (l : List Sm) : Sm.visL l 0 0 = if okS l = true then some (manyS 4 l) else none := by
  rw [visL_eq 4 l 0 0 rfl (by omega)]
  simp only [Nat.zero_add, okS, Bool.and_eq_true, decide_eq_true_eq, and_comm]
theorem visL_is (l : List Sm) : (Sm.visL l 0 0).isSome = okS l := by
  rw [visL_ok]; cases okS l <;> rfl
theorem okS_form {l : List Sm} (h : okS l = true) : formS 4 l = true ∧ manyS 4 l ≤ 16 := by
  simpa [okS, and_comm] using h
theorem istmtsOk_ok (l : List Sm) (hs : Sm.szL l ≤ 1099511627776) : PureF Tryz.prog 41 [.rows 45 (Sm.csL l)] [.bool (okS l)] := by
  refine pureF_of Tryz.func41 rfl Tryz.ntmps41 (by simp) T_ ?_
  intro f0 B Q hQ
  have hv := visL_is l
  refine g_ [0] ?_
  refine g_ [0,3] ?_
  refine n_ ?_
  refine wpM_regionK [2] rfl fun Q1 hQ1 => ?_
  refine S_ ?_
  refine call_fn (l := [(B, .cells 3 [.int .i64 ((0 : Nat) : Int)])]) (first := []) (cap := []) (ps := [.rows 45 (Sm.csL l), .int .i64 ((0 : Nat) : Int), .ptr B 0]) (count_ok B _ l (Nat.le_refl _) hs 0 0 (by omega) (by omega)) Tryz.call74 rfl rfl rfl G_ (by simp -implicitDefEqProofs (disch := omega) only [go_sem, Int.natCast_zero]) ?_
  rintro out ⟨r1, c1, hr1, hc1, hk1, rfl⟩
  refine S_ ?_
  refine hQ1 _ _ (S_ ?_);clear hQ1 Q1
  refine e_ Tryz.results41 ?_
  first
  | exact True.intro
  | rw [← hr1, hv]
end Go.Proofs.YtmicbfojofcigaaGreat
namespace Go.Proofs.YtmicbfojofcigaaGreat
open Go Sg
set_option maxRecDepth 100000
set_option linter.unusedSimpArgs false
set_option linter.unusedVariables false
set_option linter.unusedSectionVars false
set_option maxHeartbeats 4000000
variable [Tab]
end Go.Proofs.YtmicbfojofcigaaGreat
namespace Go.Proofs.YtmicbfojofcigaaGreat
open Go Sg
set_option linter.unusedSectionVars false
variable [Glob]
set_option maxRecDepth 100000
set_option linter.unusedSimpArgs false
set_option linter.unusedVariables false
set_option linter.unusedSectionVars false
set_option maxHeartbeats 4000000
structure GI where
  op : Int
  n : Int
  a : AD
  deriving Inhabited
def GI.cs (i : GI) : List PV := [.int .i64 i.op, .int .i64 i.n, .int .i64 i.a.kind, .int .i64 i.a.at']
@[go_sem] theorem GI.cs_eq (i : GI) : i.cs = [.int .i64 i.op, .int .i64 i.n, .int .i64 i.a.kind, .int .i64 i.a.at'] := rfl
def insR (l : List GI) : List (List PV) := l.map GI.cs
@[go_sem] theorem insR_len (l : List GI) : (insR l).length = l.length := by simp [insR]
@[go_sem] theorem insR_get (l : List GI) (k : Nat) (h : k < l.length) : (insR l).getD k [] = (l.getD k default).cs := by simp [insR, List.getD, h]
def insC (l : List GI) : List PV := (insR l).flatten
@[go_sem] theorem insR_flat (l : List GI) : (insR l).flatten = insC l := rfl
@[go_sem] theorem insC_len (l : List GI) : (insC l).length = l.length * 4 := by
  induction l with
  | nil => rfl
  | cons x l ih => simp only [insC, insR, List.map_cons, List.flatten_cons, List.length_append, List.length_cons] at ih ⊢; rw [ih]; simp [GI.cs]; omega
theorem insC_app (l r : List GI) : insC (l ++ r) = insC l ++ insC r := by simp [insC, insR]
theorem insC_one (i : GI) : insC [i] = i.cs := by simp [insC, insR]
@[go_sem] theorem insC_snoc (l : List GI) (x y z w : Int) : insC l ++ [.int .i64 x, .int .i64 y, .int .i64 z, .int .i64 w] = insC (l ++ [⟨x, y, ⟨z, w⟩⟩]) := by rw [insC_app, insC_one]; rfl
@[go_sem] theorem insC_cat (l r : List GI) : insC l ++ insC r = insC (l ++ r) := (insC_app l r).symm
@[go_sem] theorem idsL_insC (p : Nat → Prop) (l : List GI) : PV.idsL p (insC l) = True := by
  induction l with
  | nil => simp [insC, insR, PV.idsL]
  | cons x l ih => simp only [insC, insR, List.map_cons, List.flatten_cons, GI.cs, List.cons_append, List.nil_append, PV.idsL, PV.ids, true_and] at ih ⊢; exact ih
@[go_sem] theorem renL_insC (p : Nat → Nat) (l : List GI) : PV.renL p (insC l) = insC l := by
  induction l with
  | nil => rfl
  | cons x l ih => simp only [insC, insR, List.map_cons, List.flatten_cons, GI.cs, List.cons_append, List.nil_append, PV.renL, PV.ren] at ih ⊢; rw [ih]
@[go_sem] theorem insC_nil : insC [] = [] := rfl
@[go_sem] theorem insC_all (l : List GI) : List.take (l.length * 4) (insC l) = insC l := List.take_of_length_le (by rw [insC_len]; omega)
theorem rowsOf_insC {f : Nat → Option AObj} {id n : Nat} {T : TypeId} {l : List GI} (h : f id = some (.cells T (insC l))) (hn : l.length = n) : RowsOf Tryz.prog f 110 id 0 n (insR l) := by
  subst hn
  refine ⟨by rw [cellsOf110]; omega, by simp [insR], ?_, T, _, h, ?_, ?_⟩
  · intro c hc
    simp only [insR, List.mem_map] at hc
    obtain ⟨x, _, rfl⟩ := hc
    rw [cellsOf110]; exact ⟨rfl, rfl⟩
  · rw [cellsOf110, insC_len]; omega
  · rw [cellsOf110, insR_flat, List.drop_zero, List.take_of_length_le (by rw [insC_len]; omega)]
theorem insC_set (l : List GI) (k : Nat) (x : Int) (h : k < l.length) : splice (insC l) (k * 4 + 1) [.int .i64 x] = insC (l.set k { l.getD k default with n := x }) := by
  induction l generalizing k with
  | nil => simp at h
  | cons i l ih =>
    cases k with
    | zero => simp [insC, insR, splice, GI.cs, List.getD]
    | succ k =>
      have h' : k < l.length := by simpa using h
      have := ih k h'
      simp only [splice, List.length_cons, List.length_nil] at this ⊢
      have e1 : insC (i :: l) = i.cs ++ insC l := by rw [← insC_one i, ← insC_app]; rfl
      have e2 : (k + 1) * 4 + 1 = i.cs.length + (k * 4 + 1) := by show _ = 4 + _; omega
      have e3 : (k + 1) * 4 + 1 + (0 + 1) = i.cs.length + (k * 4 + 1 + (0 + 1)) := by show _ = 4 + _; omega
      rw [e1, e3, e2, List.take_length_add_append, List.drop_length_add_append, List.append_assoc, List.append_assoc]
      rw [List.append_assoc] at this
      rw [this]
      simp only [List.getD_cons_succ, List.set_cons_succ]
      rw [← insC_one i, ← insC_app]; rfl
def A0 : AD := ⟨0, 0⟩
@[go_sem] theorem A0_kind : A0.kind = 0 := rfl
@[go_sem] theorem A0_at : A0.at' = 0 := rfl
@[go_sem] theorem cast_pred (n : Nat) : ((n + 1 : Nat) : Int) - 1 = n := by omega
def lastI (e : Ex) : GI := if e.kind == 1 then ⟨1, e.n, A0⟩ else if e.kind == 2 then ⟨2, 0, e.a⟩ else if e.kind == 10 then ⟨5, 0, A0⟩ else ⟨4, e.kind, A0⟩
mutual
def Ex.cd : Ex → List GI
  | .mk k n a l => Ex.cdL l ++ [lastI (.mk k n a l)]
def Ex.cdL : List Ex → List GI
  | [] => []
  | e :: l => e.cd ++ Ex.cdL l
end
theorem Ex.cd_eq (e : Ex) : e.cd = Ex.cdL e.kids ++ [lastI e] := by cases e; simp only [Ex.cd, Ex.kids]
theorem Ex.cdL_app (l r : List Ex) : Ex.cdL (l ++ r) = Ex.cdL l ++ Ex.cdL r := by
  induction l with
  | nil => rfl
  | cons e l ih => simp only [List.cons_append, Ex.cdL, ih, List.append_assoc]
theorem Ex.cdL_take (l : List Ex) (i : Nat) (h : i < l.length) : Ex.cdL (l.take (i + 1)) = Ex.cdL (l.take i) ++ (l.getD i default).cd := by
  rw [List.take_succ_eq_append_getElem h, Ex.cdL_app]
  simp [Ex.cdL, List.getD, h]
mutual
theorem Ex.cd_len : (e : Ex) → e.cd.length = e.sz
  | .mk k n a l => by simp only [Ex.cd, Ex.sz, List.length_append, List.length_cons, List.length_nil, Ex.cdL_len l]; omega
theorem Ex.cdL_len : (l : List Ex) → (Ex.cdL l).length = Ex.szL l
  | [] => rfl
  | e :: l => by simp only [Ex.cdL, Ex.szL, List.length_append, Ex.cd_len e, Ex.cdL_len l]
end
mutual
def Sm.cd : Sm → Nat → List GI
  | .mk k a e th el, at' =>
    let E := e.cd
    let A := Sm.cdL th (at' + E.length + 1)
    if k == 1 then E ++ [⟨3, 0, a⟩]
    else if k == 2 then
      let B := Sm.cdL el (at' + E.length + 1 + A.length + 1)
      E ++ [⟨6, (at' + E.length + 1 + A.length + 1 : Nat), A0⟩] ++ A ++ [⟨7, (at' + E.length + 1 + A.length + 1 + B.length : Nat), A0⟩] ++ B
    else if k == 3 then E ++ [⟨6, (at' + E.length + 1 + A.length + 1 : Nat), A0⟩] ++ A ++ [⟨8, (at' : Nat), A0⟩]
    else E
def Sm.cdL : List Sm → Nat → List GI
  | [], _ => []
  | s :: l, at' => s.cd at' ++ Sm.cdL l (at' + (s.cd at').length)
end
theorem Sm.cdL_app (l r : List Sm) (k : Nat) : Sm.cdL (l ++ r) k = Sm.cdL l k ++ Sm.cdL r (k + (Sm.cdL l k).length) := by
  induction l generalizing k with
  | nil => rfl
  | cons s l ih => simp only [List.cons_append, Sm.cdL, ih, List.append_assoc, List.length_append, Nat.add_assoc]
theorem Sm.cdL_take (l : List Sm) (k i : Nat) (h : i < l.length) : Sm.cdL (l.take (i + 1)) k = Sm.cdL (l.take i) k ++ (l.getD i default).cd (k + (Sm.cdL (l.take i) k).length) := by
  rw [List.take_succ_eq_append_getElem h, Sm.cdL_app]
  simp [Sm.cdL, List.getD, h]
theorem Sm.cd_eq (s : Sm) (k : Nat) : s.cd k =
    if s.kind == 1 then s.e.cd ++ [⟨3, 0, s.to'⟩]
    else if s.kind == 2 then s.e.cd ++ [⟨6, (k + s.e.cd.length + 1 + (Sm.cdL s.th (k + s.e.cd.length + 1)).length + 1 : Nat), A0⟩] ++ Sm.cdL s.th (k + s.e.cd.length + 1) ++ [⟨7, (k + s.e.cd.length + 1 + (Sm.cdL s.th (k + s.e.cd.length + 1)).length + 1 + (Sm.cdL s.el (k + s.e.cd.length + 1 + (Sm.cdL s.th (k + s.e.cd.length + 1)).length + 1)).length : Nat), A0⟩] ++ Sm.cdL s.el (k + s.e.cd.length + 1 + (Sm.cdL s.th (k + s.e.cd.length + 1)).length + 1)
    else if s.kind == 3 then s.e.cd ++ [⟨6, (k + s.e.cd.length + 1 + (Sm.cdL s.th (k + s.e.cd.length + 1)).length + 1 : Nat), A0⟩] ++ Sm.cdL s.th (k + s.e.cd.length + 1) ++ [⟨8, (k : Nat), A0⟩]
    else s.e.cd := by cases s; simp only [Sm.cd, Sm.kind, Sm.to', Sm.e, Sm.th, Sm.el] <;> rfl
mutual
theorem Sm.cd_len : (s : Sm) → (k : Nat) → (s.cd k).length ≤ 2 * s.sz
  | .mk k a e th el, at' => by
    simp only [Sm.cd, Sm.sz]
    have h1 := Ex.cd_len e
    have h2 := Sm.cdL_len th (at' + e.cd.length + 1)
    have h3 := Sm.cdL_len el (at' + e.cd.length + 1 + (Sm.cdL th (at' + e.cd.length + 1)).length + 1)
    split
    · simp; omega
    · split
      · simp; omega
      · split
        · simp; omega
        · omega
theorem Sm.cdL_len : (l : List Sm) → (k : Nat) → (Sm.cdL l k).length ≤ 2 * Sm.szL l
  | [], k => by simp [Sm.cdL]
  | s :: l, k => by
    simp only [Sm.cdL, Sm.szL, List.length_append]
    have h1 := Sm.cd_len s k
    have h2 := Sm.cdL_len l (k + (s.cd k).length)
    omega
end
def landL (l : List GI) (k : Nat) : List GI := l.set k ⟨(l.getD k default).op, l.length, (l.getD k default).a⟩
@[go_sem] theorem landL_len (l : List GI) (k : Nat) : (landL l k).length = l.length := by simp [landL]
def cobj (y : Nat) (n : Nat) : AObj := .cells 78 [.sl 110 y 0 n]
@[go_sem] theorem cobj_eq (y n : Nat) : cobj y n = .cells 78 [.sl 110 y 0 n] := rfl
def cfoot (c y : Nat) (l : List GI) : List (Nat × AObj) := [(c, cobj y l.length), (y, .cells 110 (insC l))]
@[go_sem] theorem cfoot_eq (c y : Nat) (l : List GI) : cfoot c y l = [(c, cobj y l.length), (y, .cells 110 (insC l))] := rfl
def COk (c y : Nat) (l' : List GI) (rs : List PV) (ns : List Nat) (o : COut) : Prop := ∃ z, ns = [z] ∧ o = { rs := rs, u := [(c, some (cobj z l'.length)), (y, none)], nw := [(z, .cells 110 (insC l'))] }
theorem cadd_ok (c y : Nat) (hcy : c ≠ y) (l : List GI) (i : GI) (hl : l.length ≤ 1099511627776) : CallF Tryz.prog 76 [.ptr c 0, .agg i.cs] (cfoot c y l) 1 (COk c y (l ++ [i]) [.int .i64 (l.length : Nat)]) := by
  refine callF_ofC' Tryz.func76 rfl Tryz.ntmps76 (by simp) ?_
  intro f0 B ns Q hB hns hQ
  have hc : c < B := hB c (by simp [hasKey, lk, cfoot])
  have hy : y < B := hB y (by simp [hasKey, lk, cfoot, hcy])
  obtain ⟨z, rfl⟩ : ∃ z, ns = [z] := by
    match ns, hns with
    | [x], _ => exact ⟨x, rfl⟩
  refine g_ [0,3] ?_
  refine n_ ?_
  refine dr_ mixed [0] 2 3 [B, c, y, B + 1, B + 2] [⟨[0],[],[],[],false⟩,⟨[0],[],[],[],false⟩,⟨[6],[],[],[],false⟩,⟨[7],[],[],[],false⟩,⟨[8],[1],[],[],false⟩,⟨[3],[0],[],[],false⟩,⟨[10],[],[],[3],false⟩,⟨[9,11],[2,3],[2],[4],false⟩,⟨[5],[],[],[],false⟩,⟨[13],[],[],[],false⟩,⟨[12,14],[1],[1],[],false⟩] [0,1,2,3,4,5,6,7,8,9,10] [[],[],[1],[1,2],[1,2,3],[],[5],[1,2,3,4,5,6],[0,1,2,3,4,5,6,7],[0,1,2,3,4,5,6,7,8],[0,1,2,3,4,5,6,7,8,9]] 5 (htbl := by simp; omega) (hnm := by simp) ?_
  intro O A K hO hA hK;simp only [atL_cons,atL_nil,Nat.reduceAdd,Nat.zero_add] at hO hA
  refine SO_ ?_
  refine hK _ (S_ ?_);clear hK K hO hA O A
  refine g_ [4] ?_
  refine wpM_ret ?_
  try refine S_ ?_
  refine hQ _ _ (retK [B + 2] [(c, some (cobj z (l.length + 1))), (y, none)] [(z, .cells 110 (insC (l ++ [i])))] rfl rfl rfl (by rw [Tryz.results76] <;> simp (maxSteps := 1000000) -implicitDefEqProofs (disch := omega) only [go_sem] <;> rfl) ?_ ⟨z, rfl, by rw [List.length_append]; rfl⟩ ?_ ?_ ?_ ?_ ?_ ?_)
  all_goals (first | (simp -implicitDefEqProofs (disch := omega) only [go_sem, List.nodup_cons, List.nodup_nil, true_or, or_true, List.mem_cons, List.not_mem_nil, if_true]; done) | (simp -implicitDefEqProofs (disch := omega) only [go_sem, List.nodup_cons, List.nodup_nil, true_or, or_true, List.mem_cons, List.not_mem_nil]; omega))
theorem land_ok (c y : Nat) (hcy : c ≠ y) (l : List GI) (k : Nat) (hk : k < l.length) (hl : l.length ≤ 1099511627776) : CallF Tryz.prog 77 [.ptr c 0, .int .i64 (k : Nat)] (cfoot c y l) 0 (fun _ o => o = { rs := [], u := [(y, some (.cells 110 (insC (landL l k))))] }) := by
  refine callF_of' Tryz.func77 rfl Tryz.ntmps77 (by simp) ?_
  intro f0 B ns Q hB hns hQ
  have hc : c < B := hB c (by simp [hasKey, lk, cfoot])
  have hy : y < B := hB y (by simp [hasKey, lk, cfoot, hcy])
  obtain rfl : ns = [] := List.eq_nil_of_length_eq_zero hns
  refine n_ ?_
  refine dr_ mixed [] 0 2 [c, y] [⟨[0],[],[],[],false⟩,⟨[4],[],[],[],false⟩,⟨[5],[],[],[],false⟩,⟨[6],[0],[],[],false⟩,⟨[1],[],[],[],false⟩,⟨[0],[],[],[],false⟩,⟨[9],[],[],[],false⟩,⟨[10],[],[],[],false⟩,⟨[11],[0],[],[],false⟩,⟨[12],[],[],[],false⟩,⟨[7,8],[],[],[],false⟩,⟨[14],[],[],[],false⟩,⟨[13,15],[1],[1],[],false⟩] [0,1,2,3,4,5,6,7,8,9,10,11,12] [[],[0],[0,1],[0,1,2],[],[],[5],[5,6],[5,6,7],[5,6,7,8],[0,1,2,3,4,5,6,7,8,9],[0,1,2,3,4,5,6,7,8,9,10],[0,1,2,3,4,5,6,7,8,9,10,11]] 2 (htbl := by simp; omega) (hnm := by simp) ?_
  intro O A K hO hA hK;simp only [atL_cons,atL_nil,Nat.reduceAdd,Nat.zero_add] at hO hA
  simp -implicitDefEqProofs (disch := omega) only [go_sem, insC_set l k l.length hk, hO, hA]
  refine hK _ (S_ ?_);clear hK K hO hA O A
  refine hQ _ _ (ret0n [(y, some (.cells 110 (insC (landL l k))))] rfl rfl rfl (by rw [Tryz.results77] <;> simp (maxSteps := 1000000) -implicitDefEqProofs (disch := omega) only [go_sem] <;> rfl) rfl ?_ ?_ ?_ ?_)
  all_goals simp -implicitDefEqProofs (disch := omega) only [go_sem, true_or, or_true]
  all_goals rfl
end Go.Proofs.YtmicbfojofcigaaGreat
namespace Go.Proofs.YtmicbfojofcigaaGreat
open Go Sg
set_option linter.unusedSectionVars false
variable [Glob]
set_option maxRecDepth 100000
set_option linter.unusedSimpArgs false
set_option linter.unusedVariables false
set_option linter.unusedSectionVars false
set_option maxHeartbeats 4000000
theorem Ex.cdL_pre (l : List Ex) (i : Nat) : (Ex.cdL (l.take i)).length ≤ Ex.szL l := by
  have h1 := Ex.cdL_app (l.take i) (l.drop i)
  rw [List.take_append_drop] at h1
  have h2 := Ex.cdL_len l
  rw [h1, List.length_append] at h2; omega
theorem cexpr_ok : ∀ (N : Nat) (e : Ex), e.sz ≤ N → e.sz ≤ 1000000000 → ∀ (c y : Nat) (l : List GI), c ≠ y → l.length + e.sz ≤ 1099511627776 → CallF Tryz.prog 75 [.ptr c 0, .agg e.cs] (cfoot c y l) 1 (COk c y (l ++ e.cd) []) := by
  intro N
  induction N with
  | zero => intro e h; have := e.sz_eq; omega
  | succ N ih =>
    intro e hN hs c y l hcy hl
    have hsz := e.sz_eq
    have hlen := Ex.len_szL e.kids
    have hcd : l ++ e.cd = l ++ Ex.cdL e.kids ++ [lastI e] := by rw [Ex.cd_eq, List.append_assoc]
    refine callF_ofC' Tryz.func75 rfl Tryz.ntmps75 (by simp) ?_
    intro f0 B ns Q hB hns hQ
    have hc : c < B := hB c (by simp [hasKey, lk, cfoot])
    have hy : y < B := hB y (by simp [hasKey, lk, cfoot, hcy])
    obtain ⟨z, rfl⟩ : ∃ z, ns = [z] := by
      match ns, hns with
      | [x], _ => exact ⟨x, rfl⟩
    refine n_ ?_
    refine wpM_ren y (.cells 110 (insC l)) T_ T_ (Nat.le_refl _) rfl ?_
    refine S_ ?_
    refine g_ [0,3] ?_
    refine g_ [0,3,7,8,9] ?_
    refine n_ ?_
    refine wpM_loopS (fun q n s' => ∃ (i M Y : Nat), i + n = e.kids.length ∧ B + 2 ≤ M ∧ B ≤ Y ∧ Y < M ∧ Y ≠ B + 1 ∧ s' = { q with env := setE 9 (.int .i64 (i : Nat)) q.env, l := [(B + 1, .cells 27 e.cs)] ++ cfoot c Y (l ++ Ex.cdL (e.kids.take i)), M := M }) (e.kids.length) ?_ ?_
    ·
      refine .of' _ _ ⟨0, _, B, by omega, Nat.le_refl _, Nat.le_refl _, by omega, by omega, rfl⟩ ?_ ?_ ?_
      all_goals simp only [List.take_zero, Ex.cdL, List.append_nil]
      all_goals exact L_
    rintro n s' ⟨i, M, Y, hi, hM, hBY, hYM, hY1, rfl⟩
    have hcY : c ≠ Y := by omega
    try refine S_ ?_
    refine g_ [0,3,7,8,9,10] ?_
    refine c_ (fun hc0 => ?_) fun hc0 => ?_
    ·
      have hi2 : i < e.kids.length := by omega
      have hget := Ex.get_szL e.kids i hi2
      have htk := Ex.cdL_take e.kids i hi2
      have hln := Ex.cdL_pre e.kids (i + 1)
      rw [htk, List.length_append, Ex.cd_len] at hln
      have htk' : l ++ Ex.cdL (e.kids.take (i + 1)) = l ++ Ex.cdL (e.kids.take i) ++ (e.kids.getD i default).cd := by rw [htk, List.append_assoc]
      have hll : (l ++ Ex.cdL (e.kids.take i)).length + (e.kids.getD i default).sz ≤ 1099511627776 := by rw [List.length_append]; omega
      refine g_ [0,3,5,7,8,9] ?_
      refine wpM_regionK [0,3,7,8,9] rfl fun Q1 hQ1 => ?_
      refine S_ ?_
      refine call_fn (l := cfoot c Y (l ++ Ex.cdL (e.kids.take i))) (first := []) (cap := []) (ps := [.ptr c 0, .agg (e.kids.getD i default).cs]) (ih (e.kids.getD i default) (by omega) (by omega) c Y (l ++ Ex.cdL (e.kids.take i)) hcY hll) Tryz.call75 rfl rfl rfl G_ T_ ?_
      rintro out ⟨z', ⟨⟩, rfl⟩
      refine S_ ?_
      refine hQ1 _ _ (S_ ?_);clear hQ1 Q1
      refine g_ [0,3,7,8,9] ?_
      refine .of' _ _ ⟨n - 1, by omega, i + 1, _, M + 1, by omega, M_, M_, M_, M_, rfl⟩ ?_ ?_ ?_
      all_goals (try rw [htk'])
      all_goals exact L_
    refine n_ ?_
    have hie : i = e.kids.length := by omega
    rw [hie, List.take_of_length_le (Nat.le_refl _)]
    have hLl := Ex.cdL_len e.kids
    have hL2 : (l ++ Ex.cdL e.kids).length ≤ 1099511627776 := by rw [List.length_append]; omega
    generalize hL : l ++ Ex.cdL e.kids = L at *
    have key : ∀ i, lastI e = i → l ++ e.cd = L ++ [i] := by rintro i rfl; rw [hcd]
    refine g_ [0,3,18] ?_
    refine g_ [0,3,18,24] ?_
    refine c_ (fun hc1 => ?_) fun hc1 => ?_
    ·
      refine wpM_regionK [] rfl fun Q1 hQ1 => ?_
      refine S_ ?_
      refine call_fn (l := cfoot c Y L) (first := []) (cap := []) (ps := [.ptr c 0, .agg (GI.cs ⟨1, e.n, A0⟩)]) (cadd_ok c Y hcY L ⟨1, e.n, A0⟩ hL2) Tryz.call76 rfl rfl rfl G_ T_ ?_
      rintro out ⟨z', ⟨⟩, rfl⟩
      refine S_ ?_
      refine hQ1 _ _ (S_ ?_);clear hQ1 Q1
      refine hQ _ _ (retKn [M] [(c, some (cobj z (L ++ [(⟨1, e.n, A0⟩ : GI)]).length)), (y, none)] [(z, .cells 110 (insC (L ++ [(⟨1, e.n, A0⟩ : GI)])))] rfl rfl rfl (by rw [Tryz.results75] <;> simp (maxSteps := 1000000) -implicitDefEqProofs (disch := omega) only [go_sem] <;> rfl) ?_ ⟨z, rfl, by rw [key ⟨1, e.n, A0⟩ (by rw [lastI, if_pos hc1])]⟩ ?_ ?_ ?_ ?_ ?_ ?_)
      all_goals (first | (simp -implicitDefEqProofs (disch := omega) only [go_sem, List.nodup_cons, List.nodup_nil, true_or, or_true, List.mem_cons, List.not_mem_nil, if_true]; done) | (simp -implicitDefEqProofs (disch := omega) only [go_sem, List.nodup_cons, List.nodup_nil, true_or, or_true, List.mem_cons, List.not_mem_nil]; omega))
    refine g_ [0,3,18,31] ?_
    refine c_ (fun hc2 => ?_) fun hc2 => ?_
    ·
      refine wpM_regionK [] rfl fun Q1 hQ1 => ?_
      refine S_ ?_
      refine call_fn (l := cfoot c Y L) (first := []) (cap := []) (ps := [.ptr c 0, .agg (GI.cs ⟨2, 0, e.a⟩)]) (cadd_ok c Y hcY L ⟨2, 0, e.a⟩ hL2) Tryz.call76 rfl rfl rfl G_ T_ ?_
      rintro out ⟨z', ⟨⟩, rfl⟩
      refine S_ ?_
      refine hQ1 _ _ (S_ ?_);clear hQ1 Q1
      refine hQ _ _ (retKn [M] [(c, some (cobj z (L ++ [(⟨2, 0, e.a⟩ : GI)]).length)), (y, none)] [(z, .cells 110 (insC (L ++ [(⟨2, 0, e.a⟩ : GI)])))] rfl rfl rfl (by rw [Tryz.results75] <;> simp (maxSteps := 1000000) -implicitDefEqProofs (disch := omega) only [go_sem] <;> rfl) ?_ ⟨z, rfl, by rw [key ⟨2, 0, e.a⟩ (by rw [lastI, if_neg (by rw [hc1]; simp), if_pos hc2])]⟩ ?_ ?_ ?_ ?_ ?_ ?_)
      all_goals (first | (simp -implicitDefEqProofs (disch := omega) only [go_sem, List.nodup_cons, List.nodup_nil, true_or, or_true, List.mem_cons, List.not_mem_nil, if_true]; done) | (simp -implicitDefEqProofs (disch := omega) only [go_sem, List.nodup_cons, List.nodup_nil, true_or, or_true, List.mem_cons, List.not_mem_nil]; omega))
    refine g_ [0,3,38] ?_
    refine c_ (fun hc3 => ?_) fun hc3 => ?_
    ·
      refine wpM_regionK [] rfl fun Q1 hQ1 => ?_
      refine S_ ?_
      refine call_fn (l := cfoot c Y L) (first := []) (cap := []) (ps := [.ptr c 0, .agg (GI.cs ⟨5, 0, A0⟩)]) (cadd_ok c Y hcY L ⟨5, 0, A0⟩ hL2) Tryz.call76 rfl rfl rfl G_ T_ ?_
      rintro out ⟨z', ⟨⟩, rfl⟩
      refine S_ ?_
      refine hQ1 _ _ (S_ ?_);clear hQ1 Q1
      refine hQ _ _ (retKn [M] [(c, some (cobj z (L ++ [(⟨5, 0, A0⟩ : GI)]).length)), (y, none)] [(z, .cells 110 (insC (L ++ [(⟨5, 0, A0⟩ : GI)])))] rfl rfl rfl (by rw [Tryz.results75] <;> simp (maxSteps := 1000000) -implicitDefEqProofs (disch := omega) only [go_sem] <;> rfl) ?_ ⟨z, rfl, by rw [key ⟨5, 0, A0⟩ (by rw [lastI, if_neg (by rw [hc1]; simp), if_neg (by rw [hc2]; simp), if_pos hc3])]⟩ ?_ ?_ ?_ ?_ ?_ ?_)
      all_goals (first | (simp -implicitDefEqProofs (disch := omega) only [go_sem, List.nodup_cons, List.nodup_nil, true_or, or_true, List.mem_cons, List.not_mem_nil, if_true]; done) | (simp -implicitDefEqProofs (disch := omega) only [go_sem, List.nodup_cons, List.nodup_nil, true_or, or_true, List.mem_cons, List.not_mem_nil]; omega))
    refine wpM_regionK [] rfl fun Q1 hQ1 => ?_
    refine S_ ?_
    refine call_fn (l := cfoot c Y L) (first := []) (cap := []) (ps := [.ptr c 0, .agg (GI.cs ⟨4, e.kind, A0⟩)]) (cadd_ok c Y hcY L ⟨4, e.kind, A0⟩ hL2) Tryz.call76 rfl rfl rfl G_ T_ ?_
    rintro out ⟨z', ⟨⟩, rfl⟩
    refine S_ ?_
    refine hQ1 _ _ (S_ ?_);clear hQ1 Q1
    refine hQ _ _ (retKn [M] [(c, some (cobj z (L ++ [(⟨4, e.kind, A0⟩ : GI)]).length)), (y, none)] [(z, .cells 110 (insC (L ++ [(⟨4, e.kind, A0⟩ : GI)])))] rfl rfl rfl (by rw [Tryz.results75] <;> simp (maxSteps := 1000000) -implicitDefEqProofs (disch := omega) only [go_sem] <;> rfl) ?_ ⟨z, rfl, by rw [key ⟨4, e.kind, A0⟩ (by rw [lastI, if_neg (by rw [hc1]; simp), if_neg (by rw [hc2]; simp), if_neg (by rw [hc3]; simp)])]⟩ ?_ ?_ ?_ ?_ ?_ ?_)
    all_goals (first | (simp -implicitDefEqProofs (disch := omega) only [go_sem, List.nodup_cons, List.nodup_nil, true_or, or_true, List.mem_cons, List.not_mem_nil, if_true]; done) | (simp -implicitDefEqProofs (disch := omega) only [go_sem, List.nodup_cons, List.nodup_nil, true_or, or_true, List.mem_cons, List.not_mem_nil]; omega))
end Go.Proofs.YtmicbfojofcigaaGreat
namespace Go.Proofs.YtmicbfojofcigaaGreat
open Go Sg
set_option linter.unusedSectionVars false
variable [Glob]
set_option maxRecDepth 100000
set_option linter.unusedSimpArgs false
set_option linter.unusedVariables false
set_option linter.unusedSectionVars false
set_option maxHeartbeats 4000000
theorem landL_mid (X Y : List GI) (i : GI) : landL (X ++ i :: Y) X.length = X ++ ⟨i.op, ((X.length + 1 + Y.length : Nat) : Int), i.a⟩ :: Y := by
  unfold landL
  rw [List.set_append_right _ _ (Nat.le_refl _), Nat.sub_self, List.set_cons_zero]
  have : (X ++ i :: Y).getD X.length default = i := by simp [List.getD]
  rw [this]
  have h2 : (X ++ i :: Y).length = X.length + 1 + Y.length := by simp; omega
  rw [h2]
theorem Sm.szL_take (l : List Sm) (i : Nat) (h : i < l.length) : Sm.szL (l.take i) + (l.getD i default).sz ≤ Sm.szL l := by
  induction l generalizing i with
  | nil => simp at h
  | cons s l ih =>
    cases i with
    | zero => simp [Sm.szL]
    | succ i =>
      have := ih i (by simpa using h)
      simp only [List.take_succ_cons, Sm.szL, List.getD_cons_succ]; omega
theorem cstmts_ok : ∀ (N : Nat) (list : List Sm), Sm.szL list ≤ N → Sm.szL list ≤ 1000000000 → ∀ (c y : Nat) (l : List GI), c ≠ y → l.length + 2 * Sm.szL list ≤ 1099511627776 →
    CallF Tryz.prog 42 [.ptr c 0, .rows 45 (Sm.csL list)] (cfoot c y l) 1 (COk c y (l ++ Sm.cdL list l.length) []) := by
  intro N
  induction N with
  | zero =>
    intro list hN hs c y l hcy hl
    have h0 : list.length = 0 := by have := Sm.len_szL list; omega
    obtain rfl : list = [] := List.eq_nil_of_length_eq_zero h0
    refine callF_ofC' Tryz.func42 rfl Tryz.ntmps42 (by simp) ?_
    intro f0 B ns Q hB hns hQ
    have hc : c < B := hB c (by simp [hasKey, lk, cfoot])
    have hy : y < B := hB y (by simp [hasKey, lk, cfoot, hcy])
    obtain ⟨z, rfl⟩ : ∃ z, ns = [z] := by
      match ns, hns with
      | [x], _ => exact ⟨x, rfl⟩
    refine n_ ?_
    refine wpM_ren y (.cells 110 (insC l)) T_ T_ (Nat.le_refl _) rfl ?_
    refine S_ ?_
    refine g_ [0,10,11,12] ?_
    refine n_ ?_
    refine wpM_loopS (fun s n s' => s' = s) (0) ?_ ?_
    ·
      exact .here rfl
    rintro n s' rfl
    try refine S_ ?_
    refine g_ [0,10,11,12,13] ?_
    refine c_ (fun hc0 => ?_) fun hc0 => ?_
    · simp at hc0
    refine n_ ?_
    have hnil : l ++ Sm.cdL [] l.length = l := by simp [Sm.cdL]
    refine hQ _ _ (retKn [B] [(c, some (cobj z l.length)), (y, none)] [(z, .cells 110 (insC l))] rfl rfl rfl (by rw [Tryz.results42] <;> simp (maxSteps := 1000000) -implicitDefEqProofs (disch := omega) only [go_sem] <;> rfl) ?_ ⟨z, rfl, by rw [hnil]⟩ ?_ ?_ ?_ ?_ ?_ ?_)
    all_goals (first | (simp -implicitDefEqProofs (disch := omega) only [go_sem, List.nodup_cons, List.nodup_nil, true_or, or_true, List.mem_cons, List.not_mem_nil, if_true]; done) | (simp -implicitDefEqProofs (disch := omega) only [go_sem, List.nodup_cons, List.nodup_nil, true_or, or_true, List.mem_cons, List.not_mem_nil]; omega))
  | succ N ih =>
    intro list hN hs c y l hcy hl
    have hlen := Sm.len_szL list
    refine callF_ofC' Tryz.func42 rfl Tryz.ntmps42 (by simp) ?_
    intro f0 B ns Q hB hns hQ
    have hc : c < B := hB c (by simp [hasKey, lk, cfoot])
    have hy : y < B := hB y (by simp [hasKey, lk, cfoot, hcy])
    obtain ⟨z, rfl⟩ : ∃ z, ns = [z] := by
      match ns, hns with
      | [x], _ => exact ⟨x, rfl⟩
    refine n_ ?_
    refine wpM_ren y (.cells 110 (insC l)) T_ T_ (Nat.le_refl _) rfl ?_
    refine S_ ?_
    refine g_ [0,10,11,12] ?_
    refine n_ ?_
    refine wpM_loopS (fun q n s' => ∃ (i M Y : Nat) (L : List GI), i + n = list.length ∧ B + 1 ≤ M ∧ B ≤ Y ∧ Y < M ∧ L = l ++ Sm.cdL (list.take i) l.length ∧ s' = { q with env := setE 12 (.int .i64 (i : Nat)) q.env, l := cfoot c Y L, M := M }) (list.length) ?_ ?_
    ·
      refine .of' _ _ ⟨0, _, B, l, by omega, Nat.le_refl _, Nat.le_refl _, by omega, by simp [Sm.cdL], rfl⟩ ?_ ?_ ?_
      all_goals exact L_
    rintro n s' ⟨i, M, Y, L, hi, hM, hBY, hYM, hL, rfl⟩
    have hcY : c ≠ Y := by omega
    try refine S_ ?_
    refine g_ [0,10,11,12,13] ?_
    refine c_ (fun hc0 => ?_) fun hc0 => ?_
    ·
      have hi2 : i < list.length := by omega
      have hin := Sm.get_in hi2
      have htk := Sm.cdL_take list l.length i hi2
      have hst := Sm.szL_take list i hi2
      have hcl := Sm.cdL_len (list.take i) l.length
      have hLl : L.length = l.length + (Sm.cdL (list.take i) l.length).length := by rw [hL, List.length_append]
      have hsz := (list.getD i default).sz_eq
      have hE := Ex.cd_len (list.getD i default).e
      have hce := Sm.cd_eq (list.getD i default) L.length
      rw [← hLl] at htk
      have htk' : l ++ Sm.cdL (list.take (i + 1)) l.length = L ++ (list.getD i default).cd L.length := by rw [htk, hL, List.append_assoc]
      have hA1 := Sm.cdL_len (list.getD i default).th (L.length + (list.getD i default).e.cd.length + 1)
      have hLb : L.length + 2 * (list.getD i default).sz ≤ 1099511627776 := by omega
      clear hL htk hcl hLl
      refine g_ [0,5,10,11,12] ?_
      generalize hs' : list.getD i default = s at *
      refine g_ [0,5,6,10,11,12] ?_
      refine n_ ?_
      refine wpM_regionK [0,5,6,10,11,12] rfl fun Q1 hQ1 => ?_
      refine S_ ?_
      refine call_fn (l := cfoot c Y L) (first := []) (cap := []) (ps := [.ptr c 0, .agg s.e.cs]) (cexpr_ok _ s.e (Nat.le_refl _) (by omega) c Y L hcY (by omega)) Tryz.call75 rfl rfl rfl G_ T_ ?_
      rintro out ⟨z', ⟨⟩, rfl⟩
      refine S_ ?_
      refine hQ1 _ _ (S_ ?_);clear hQ1 Q1
      refine n_ ?_
      have hL1 : (L ++ s.e.cd).length = L.length + s.e.cd.length := List.length_append
      generalize hq1 : L ++ s.e.cd = L1 at *
      refine g_ [0,5,6,10,11,12,26] ?_
      refine g_ [0,5,6,10,11,12,26,27] ?_
      refine c_ (fun hc1 => ?_) fun hc1 => ?_
      ·
        refine wpM_regionK [0,10,11,12] rfl fun Q1 hQ1 => ?_
        refine S_ ?_
        refine call_fn (l := cfoot c (M + 1) L1) (first := []) (cap := []) (ps := [.ptr c 0, .agg (GI.cs ⟨3, 0, s.to'⟩)]) (cadd_ok c (M + 1) (by omega) L1 ⟨3, 0, s.to'⟩ (by omega)) Tryz.call76 rfl rfl rfl G_ T_ ?_
        rintro out ⟨z', ⟨⟩, rfl⟩
        refine S_ ?_
        refine hQ1 _ _ (S_ ?_);clear hQ1 Q1
        refine g_ [0,10,11,12] ?_
        have hnew : L ++ s.cd L.length = L1 ++ [(⟨3, 0, s.to'⟩ : GI)] := by rw [hce, if_pos hc1, ← hq1, List.append_assoc]
        refine .of' _ _ ⟨n - 1, by omega, i + 1, _, M + 2, L1 ++ [(⟨3, 0, s.to'⟩ : GI)], by omega, M_, M_, M_, by rw [← hnew, htk'], rfl⟩ L_ L_ L_
      refine g_ [0,5,6,10,11,12,26,34] ?_
      refine c_ (fun hc2 => ?_) fun hc2 => ?_
      ·
        refine n_ ?_
        refine wpM_regionK [0,5,7,10,11,12] rfl fun Q1 hQ1 => ?_
        refine S_ ?_
        refine call_fn (l := cfoot c (M + 1) L1) (first := []) (cap := []) (ps := [.ptr c 0, .agg (GI.cs ⟨6, 0, A0⟩)]) (cadd_ok c (M + 1) (by omega) L1 ⟨6, 0, A0⟩ (by omega)) Tryz.call76 rfl rfl rfl G_ T_ ?_
        rintro out ⟨z', ⟨⟩, rfl⟩
        refine S_ ?_
        refine hQ1 _ _ (S_ ?_);clear hQ1 Q1
        refine n_ ?_
        have hL2 : (L1 ++ [(⟨6, 0, A0⟩ : GI)]).length = L.length + s.e.cd.length + 1 := by rw [List.length_append, hL1]; rfl
        have hq2 : ∃ L2, L2 = L1 ++ [(⟨6, 0, A0⟩ : GI)] := ⟨_, rfl⟩
        obtain ⟨L2, hq2⟩ := hq2
        rw [← hq2] at hL2 ⊢
        refine wpM_regionK [0,5,7,10,11,12] rfl fun Q1 hQ1 => ?_
        refine S_ ?_
        refine call_fn (l := cfoot c (M + 2) L2) (first := []) (cap := []) (ps := [.ptr c 0, .rows 45 (Sm.csL s.th)]) (ih s.th (by omega) (by omega) c (M + 2) L2 (by omega) (by omega)) Tryz.call42 rfl rfl rfl G_ T_ ?_
        rintro out ⟨z', ⟨⟩, rfl⟩
        refine S_ ?_
        refine hQ1 _ _ (S_ ?_);clear hQ1 Q1
        refine n_ ?_
        rw [hL2]
        generalize hA : Sm.cdL s.th (L.length + s.e.cd.length + 1) = A at *
        refine wpM_regionK [0,5,7,8,10,11,12] rfl fun Q1 hQ1 => ?_
        refine S_ ?_
        refine call_fn (l := cfoot c (M + 3) (L2 ++ A)) (first := []) (cap := []) (ps := [.ptr c 0, .agg (GI.cs ⟨7, 0, A0⟩)]) (cadd_ok c (M + 3) (by omega) (L2 ++ A) ⟨7, 0, A0⟩ (by rw [List.length_append]; omega)) Tryz.call76 rfl rfl rfl G_ T_ ?_
        rintro out ⟨z', ⟨⟩, rfl⟩
        refine S_ ?_
        refine hQ1 _ _ (S_ ?_);clear hQ1 Q1
        refine n_ ?_
        have hK : L2 ++ A ++ [(⟨7, 0, A0⟩ : GI)] = L1 ++ (⟨6, 0, A0⟩ : GI) :: (A ++ [⟨7, 0, A0⟩]) := by rw [hq2]; simp
        have hland := landL_mid L1 (A ++ [(⟨7, 0, A0⟩ : GI)]) ⟨6, 0, A0⟩
        rw [← hK] at hland
        have hK3 : (L2 ++ A ++ [(⟨7, 0, A0⟩ : GI)]).length = L1.length + 1 + A.length + 1 := by rw [hK]; simp; omega
        generalize hL3 : L2 ++ A ++ [(⟨7, 0, A0⟩ : GI)] = L3 at *
        refine wpM_regionK [0,5,8,10,11,12] rfl fun Q1 hQ1 => ?_
        refine S_ ?_
        refine call_fn (l := cfoot c (M + 4) L3) (first := []) (cap := []) (ps := [.ptr c 0, .int .i64 (L1.length : Nat)]) (land_ok c (M + 4) (by omega) L3 L1.length (by omega) (by omega)) Tryz.call77 rfl rfl rfl G_ T_ ?_
        rintro out rfl
        refine S_ ?_
        refine hQ1 _ _ (S_ ?_);clear hQ1 Q1
        refine n_ ?_
        rw [hland]
        have hL4 : (L1 ++ (⟨6, ((L1.length + 1 + (A ++ [(⟨7, 0, A0⟩ : GI)]).length : Nat) : Int), A0⟩ : GI) :: (A ++ [⟨7, 0, A0⟩])).length = L.length + s.e.cd.length + 1 + A.length + 1 := by simp; omega
        have hA2 := Sm.cdL_len s.el (L.length + s.e.cd.length + 1 + A.length + 1)
        have hq4 : ∃ L4, L4 = L1 ++ (⟨6, ((L1.length + 1 + (A ++ [(⟨7, 0, A0⟩ : GI)]).length : Nat) : Int), A0⟩ : GI) :: (A ++ [⟨7, 0, A0⟩]) := ⟨_, rfl⟩
        obtain ⟨L4, hq4⟩ := hq4
        rw [← hq4] at hL4 ⊢
        have hL3l : L3.length = L4.length := by omega
        have h7 : (L2 ++ A).length = L.length + s.e.cd.length + 1 + A.length := by rw [List.length_append]; omega
        rw [hL3l]
        refine wpM_regionK [0,8,10,11,12] rfl fun Q1 hQ1 => ?_
        refine S_ ?_
        refine call_fn (l := cfoot c (M + 4) L4) (first := []) (cap := []) (ps := [.ptr c 0, .rows 45 (Sm.csL s.el)]) (ih s.el (by omega) (by omega) c (M + 4) L4 (by omega) (by omega)) Tryz.call42 rfl rfl rfl G_ T_ ?_
        rintro out ⟨z', ⟨⟩, rfl⟩
        refine S_ ?_
        refine hQ1 _ _ (S_ ?_);clear hQ1 Q1
        rw [hL4, h7]
        generalize hBc : Sm.cdL s.el (L.length + s.e.cd.length + 1 + A.length + 1) = Bc at *
        have hX : (L1 ++ (⟨6, ((L1.length + 1 + (A ++ [(⟨7, 0, A0⟩ : GI)]).length : Nat) : Int), A0⟩ : GI) :: A).length = L.length + s.e.cd.length + 1 + A.length := by simp; omega
        have hland2 := landL_mid (L1 ++ (⟨6, ((L1.length + 1 + (A ++ [(⟨7, 0, A0⟩ : GI)]).length : Nat) : Int), A0⟩ : GI) :: A) Bc ⟨7, 0, A0⟩
        have hL5 : L4 ++ Bc = (L1 ++ (⟨6, ((L1.length + 1 + (A ++ [(⟨7, 0, A0⟩ : GI)]).length : Nat) : Int), A0⟩ : GI) :: A) ++ (⟨7, 0, A0⟩ : GI) :: Bc := by rw [hq4]; simp
        have hL5l : (L4 ++ Bc).length = L4.length + Bc.length := List.length_append
        rw [← hL5, hX] at hland2
        generalize hq5 : L4 ++ Bc = L5 at *
        refine wpM_regionK [0,10,11,12] rfl fun Q1 hQ1 => ?_
        refine S_ ?_
        refine call_fn (l := cfoot c (M + 5) L5) (first := []) (cap := []) (ps := [.ptr c 0, .int .i64 ((L.length + s.e.cd.length + 1 + A.length : Nat) : Int)]) (land_ok c (M + 5) (by omega) L5 (L.length + s.e.cd.length + 1 + A.length) (by omega) (by omega)) Tryz.call77 rfl rfl rfl G_ T_ ?_
        rintro out rfl
        refine S_ ?_
        refine hQ1 _ _ (S_ ?_);clear hQ1 Q1
        refine g_ [0,10,11,12] ?_
        have hnew : L ++ s.cd L.length = landL L5 (L.length + s.e.cd.length + 1 + A.length) := by
          rw [hce, if_neg (by rw [hc1]; simp), if_pos hc2, hland2, ← hq1]
          simp [hL1]
          omega
        refine .of' _ _ ⟨n - 1, by omega, i + 1, _, M + 5, landL L5 (L.length + s.e.cd.length + 1 + A.length), by omega, M_, M_, M_, by rw [← hnew, htk'], rfl⟩ L_ L_ L_
      refine g_ [0,5,6,10,11,12,56] ?_
      refine c_ (fun hc3 => ?_) fun hc3 => ?_
      ·
        refine n_ ?_
        refine wpM_regionK [0,5,6,9,10,11,12] rfl fun Q1 hQ1 => ?_
        refine S_ ?_
        refine call_fn (l := cfoot c (M + 1) L1) (first := []) (cap := []) (ps := [.ptr c 0, .agg (GI.cs ⟨6, 0, A0⟩)]) (cadd_ok c (M + 1) (by omega) L1 ⟨6, 0, A0⟩ (by omega)) Tryz.call76 rfl rfl rfl G_ T_ ?_
        rintro out ⟨z', ⟨⟩, rfl⟩
        refine S_ ?_
        refine hQ1 _ _ (S_ ?_);clear hQ1 Q1
        refine n_ ?_
        have hL2 : (L1 ++ [(⟨6, 0, A0⟩ : GI)]).length = L.length + s.e.cd.length + 1 := by rw [List.length_append, hL1]; rfl
        have hq2 : ∃ L2, L2 = L1 ++ [(⟨6, 0, A0⟩ : GI)] := ⟨_, rfl⟩
        obtain ⟨L2, hq2⟩ := hq2
        rw [← hq2] at hL2 ⊢
        refine wpM_regionK [0,6,9,10,11,12] rfl fun Q1 hQ1 => ?_
        refine S_ ?_
        refine call_fn (l := cfoot c (M + 2) L2) (first := []) (cap := []) (ps := [.ptr c 0, .rows 45 (Sm.csL s.th)]) (ih s.th (by omega) (by omega) c (M + 2) L2 (by omega) (by omega)) Tryz.call42 rfl rfl rfl G_ T_ ?_
        rintro out ⟨z', ⟨⟩, rfl⟩
        refine S_ ?_
        refine hQ1 _ _ (S_ ?_);clear hQ1 Q1
        refine n_ ?_
        rw [hL2]
        generalize hA : Sm.cdL s.th (L.length + s.e.cd.length + 1) = A at *
        refine wpM_regionK [0,9,10,11,12] rfl fun Q1 hQ1 => ?_
        refine S_ ?_
        refine call_fn (l := cfoot c (M + 3) (L2 ++ A)) (first := []) (cap := []) (ps := [.ptr c 0, .agg (GI.cs ⟨8, (L.length : Nat), A0⟩)]) (cadd_ok c (M + 3) (by omega) (L2 ++ A) ⟨8, (L.length : Nat), A0⟩ (by rw [List.length_append]; omega)) Tryz.call76 rfl rfl rfl G_ T_ ?_
        rintro out ⟨z', ⟨⟩, rfl⟩
        refine S_ ?_
        refine hQ1 _ _ (S_ ?_);clear hQ1 Q1
        have hK : L2 ++ A ++ [(⟨8, (L.length : Nat), A0⟩ : GI)] = L1 ++ (⟨6, 0, A0⟩ : GI) :: (A ++ [⟨8, (L.length : Nat), A0⟩]) := by rw [hq2]; simp
        have hland := landL_mid L1 (A ++ [(⟨8, (L.length : Nat), A0⟩ : GI)]) ⟨6, 0, A0⟩
        rw [← hK] at hland
        have hK3 : (L2 ++ A ++ [(⟨8, (L.length : Nat), A0⟩ : GI)]).length = L1.length + 1 + A.length + 1 := by rw [hK]; simp; omega
        generalize hL3 : L2 ++ A ++ [(⟨8, (L.length : Nat), A0⟩ : GI)] = L3 at *
        refine wpM_regionK [0,10,11,12] rfl fun Q1 hQ1 => ?_
        refine S_ ?_
        refine call_fn (l := cfoot c (M + 4) L3) (first := []) (cap := []) (ps := [.ptr c 0, .int .i64 (L1.length : Nat)]) (land_ok c (M + 4) (by omega) L3 L1.length (by omega) (by omega)) Tryz.call77 rfl rfl rfl G_ T_ ?_
        rintro out rfl
        refine S_ ?_
        refine hQ1 _ _ (S_ ?_);clear hQ1 Q1
        refine g_ [0,10,11,12] ?_
        have hnew : L ++ s.cd L.length = landL L3 L1.length := by
          rw [hce, if_neg (by rw [hc1]; simp), if_neg (by rw [hc2]; simp), if_pos hc3, hland, ← hq1]
          simp [hL1]
          omega
        refine .of' _ _ ⟨n - 1, by omega, i + 1, _, M + 4, landL L3 L1.length, by omega, M_, M_, M_, by rw [← hnew, htk'], rfl⟩ L_ L_ L_
      refine g_ [0,10,11,12] ?_
      have hnew : L ++ s.cd L.length = L1 := by
        rw [hce, if_neg (by rw [hc1]; simp), if_neg (by rw [hc2]; simp), if_neg (by rw [hc3]; simp), hq1]
      refine .of' _ _ ⟨n - 1, by omega, i + 1, _, M + 1, L1, by omega, M_, M_, M_, by rw [← hnew, htk'], rfl⟩ L_ L_ L_
    refine n_ ?_
    obtain rfl : i = list.length := by omega
    rw [List.take_of_length_le (Nat.le_refl _)] at hL
    refine hQ _ _ (retKn [Y] [(c, some (cobj z L.length)), (y, none)] [(z, .cells 110 (insC L))] rfl rfl rfl (by rw [Tryz.results42] <;> simp (maxSteps := 1000000) -implicitDefEqProofs (disch := omega) only [go_sem] <;> rfl) ?_ ⟨z, rfl, by rw [hL]⟩ ?_ ?_ ?_ ?_ ?_ ?_)
    all_goals (first | (simp -implicitDefEqProofs (disch := omega) only [go_sem, List.nodup_cons, List.nodup_nil, true_or, or_true, List.mem_cons, List.not_mem_nil, if_true]; done) | (simp -implicitDefEqProofs (disch := omega) only [go_sem, List.nodup_cons, List.nodup_nil, true_or, or_true, List.mem_cons, List.not_mem_nil]; omega))
end Go.Proofs.YtmicbfojofcigaaGreat
namespace Go.Proofs.YtmicbfojofcigaaGreat
open Go Sg
set_option maxRecDepth 100000
set_option linter.unusedSimpArgs false
set_option linter.unusedVariables false
set_option linter.unusedSectionVars false
set_option maxHeartbeats 4000000
variable [Tab]
def codeOf (l : List Sm) : List GI := if okS l then Sm.cdL l 0 else []
theorem icodeOf_ok (l : List Sm) (hs : Sm.szL l ≤ 1000000000) : PureF Tryz.prog 18 [.rows 45 (Sm.csL l)] [.rows 110 (insR (codeOf l))] := by
  refine pureF_of Tryz.func18 rfl Tryz.ntmps18 (by simp) T_ ?_
  intro f0 B Q hQ
  refine g_ [0] ?_
  refine n_ ?_
  refine wpM_regionK [0,6] rfl fun Q1 hQ1 => ?_
  refine S_ ?_
  refine cp_ (istmtsOk_ok l (by omega)) Tryz.call41 ?_
  refine hQ1 _ _ (S_ ?_);clear hQ1 Q1
  refine c_ (fun hc0 => ?_) fun hc0 => ?_
  ·
    refine g_ [2] ?_
    have hcs : codeOf l = [] := by rw [codeOf, if_neg]; intro h; rw [h] at hc0; cases hc0
    refine wpM_le [(2, .rows 110 [])] [] T_ T_ T_ ?_
    refine e_ Tryz.results18 ?_
    first
    | exact True.intro
    | rw [hcs]
      try rfl
  refine g_ [0,3] ?_
  have hok : okS l = true := by simpa using hc0
  have hcs : codeOf l = Sm.cdL l 0 := by rw [codeOf, if_pos hok]
  refine wpM_nil 110 [(0, .rows 45 (Sm.csL l)), (3, .ptr B 0)] [(B, .cells 78 [.sl 110 (B + 1) 0 0])] T_ T_ T_ ?_
  refine S_ ?_
  refine n_ ?_
  refine wpM_regionK [3] rfl fun Q1 hQ1 => ?_
  refine S_ ?_
  refine call_fn (l := cfoot B (B + 1) []) (first := []) (cap := []) (ps := [.ptr B 0, .rows 45 (Sm.csL l)]) (cstmts_ok _ l (Nat.le_refl _) hs B (B + 1) [] (by omega) (by simp; omega)) Tryz.call42 rfl rfl rfl G_ (by simp -implicitDefEqProofs (disch := omega) only [go_sem, List.length_nil]) ?_
  rintro out ⟨z', ⟨⟩, rfl⟩
  refine S_ ?_
  refine hQ1 _ _ (S_ ?_);clear hQ1 Q1
  refine g_ [2] ?_
  refine wpM_frz [B + 2] [(110, B + 2, 0, (Sm.cdL l 0).length, insR (Sm.cdL l 0))] (by intro q hq; simp at hq; subst hq; simp -implicitDefEqProofs (disch := omega) only [go_sem]) (by intro q hq; simp only [List.mem_cons, List.not_mem_nil, or_false] at hq; subst hq; exact ⟨by simp, rowsOf_insC (T := 110) T_ rfl⟩) ?_
  refine S_ ?_
  refine e_ Tryz.results18 ?_
  first
  | exact True.intro
  | rw [hcs]
    try rfl
theorem l5Expr_ok (d : Nat) : ∀ (e : Ex), formD d e = true → e.sz ≤ 1000000000 → CallF Tryz.prog 106 [.agg e.cs] [] 1 (fun ns o => ∃ z, ns = [z] ∧ o = { rs := [.sl 110 z 0 e.cd.length], nw := [(z, .cells 110 (insC e.cd))] }) := by
  induction d with
  | zero => intro e h; cases h
  | succ d ih =>
    intro e he hs
    obtain ⟨hk, ha, hkids⟩ := form_inv he
    have hsz := e.sz_eq
    have hcd := e.cd_eq
    refine callF_of' Tryz.func106 rfl Tryz.ntmps106 (by simp) ?_
    intro f0 B ns Q hB hns hQ
    obtain ⟨z, rfl⟩ : ∃ z, ns = [z] := by
      match ns, hns with
      | [x], _ => exact ⟨x, rfl⟩
    refine g_ [1] ?_
    refine g_ [1,4] ?_
    refine g_ [1,4,5] ?_
    refine c_ (fun hc0 => ?_) fun hc0 => ?_
    ·
      have h1 : e.kind = 1 := by simpa using hc0
      have hk0 : e.kids = [] := List.eq_nil_of_length_eq_zero (by rw [h1] at hk; simp [kidsN] at hk; omega)
      have hcd' : e.cd = [⟨1, e.n, A0⟩] := by rw [hcd, hk0, lastI, if_pos hc0]; rfl
      refine g_ [2] ?_
      refine wpM_ret ?_
      try refine S_ ?_
      rw [hcd'] at hQ
      refine hQ _ _ (retK [B + 1] [] [(z, .cells 110 (insC ([(⟨1, e.n, A0⟩ : GI)])))] rfl rfl rfl (by rw [Tryz.results106] <;> simp (maxSteps := 1000000) -implicitDefEqProofs (disch := omega) only [go_sem] <;> rfl) ?_ ⟨z, rfl, rfl⟩ ?_ ?_ ?_ ?_ ?_ ?_)
      all_goals (first | (simp -implicitDefEqProofs (disch := omega) only [go_sem, List.nodup_cons, List.nodup_nil, true_or, or_true, List.mem_cons, List.not_mem_nil, if_true, List.length_append]; done) | (simp -implicitDefEqProofs (disch := omega) only [go_sem, List.nodup_cons, List.nodup_nil, true_or, or_true, List.mem_cons, List.not_mem_nil, List.length_append]; first | rfl | omega))
    refine g_ [1,4,11] ?_
    refine c_ (fun hc1 => ?_) fun hc1 => ?_
    ·
      have h1 : e.kind = 2 := by simpa using hc1
      have hk0 : e.kids = [] := List.eq_nil_of_length_eq_zero (by rw [h1] at hk; simp [kidsN] at hk; omega)
      have hcd' : e.cd = [⟨2, 0, e.a⟩] := by rw [hcd, hk0, lastI, if_neg (by rw [hc0]; simp), if_pos hc1]; rfl
      refine g_ [2] ?_
      refine wpM_ret ?_
      try refine S_ ?_
      rw [hcd'] at hQ
      refine hQ _ _ (retK [B + 1] [] [(z, .cells 110 (insC ([(⟨2, 0, e.a⟩ : GI)])))] rfl rfl rfl (by rw [Tryz.results106] <;> simp (maxSteps := 1000000) -implicitDefEqProofs (disch := omega) only [go_sem] <;> rfl) ?_ ⟨z, rfl, rfl⟩ ?_ ?_ ?_ ?_ ?_ ?_)
      all_goals (first | (simp -implicitDefEqProofs (disch := omega) only [go_sem, List.nodup_cons, List.nodup_nil, true_or, or_true, List.mem_cons, List.not_mem_nil, if_true, List.length_append]; done) | (simp -implicitDefEqProofs (disch := omega) only [go_sem, List.nodup_cons, List.nodup_nil, true_or, or_true, List.mem_cons, List.not_mem_nil, List.length_append]; first | rfl | omega))
    refine g_ [1,17] ?_
    refine c_ (fun hc2 => ?_) fun hc2 => ?_
    ·
      have h1 : e.kind = 10 := by simpa using hc2
      have hk0 : e.kids.length = 1 := by rw [h1] at hk; simp [kidsN] at hk; omega
      have hg0 : 0 < e.kids.length := by omega
      have hs0 := Ex.get_szL e.kids 0 hg0
      have hb0 : (e.kids.getD 0 default).cd.length ≤ 1000000000 := by rw [Ex.cd_len]; omega
      have hcd' : e.cd = (e.kids.getD 0 default).cd ++ [⟨5, 0, A0⟩] := by
        rw [hcd, lastI, if_neg (by rw [hc0]; simp), if_neg (by rw [hc1]; simp), if_pos hc2]
        congr 1
        match hkk : e.kids, hk0 with
        | [x], _ => simp [Ex.cdL]
      refine n_ ?_
      refine wpM_regionK [2] rfl fun Q1 hQ1 => ?_
      refine S_ ?_
      refine call_fn (l := []) (first := []) (cap := []) (ps := [.agg (e.kids.getD 0 default).cs]) (ih (e.kids.getD 0 default) (hkids 0 hg0) (by omega)) Tryz.call106 rfl rfl rfl G_ T_ ?_
      rintro out ⟨z', ⟨⟩, rfl⟩
      refine S_ ?_
      refine hQ1 _ _ (S_ ?_);clear hQ1 Q1
      refine wpM_ret ?_
      try refine S_ ?_
      rw [hcd'] at hQ
      refine hQ _ _ (retK [B + 3] [] [(z, .cells 110 (insC ((e.kids.getD 0 default).cd ++ [(⟨5, 0, A0⟩ : GI)])))] rfl rfl rfl (by rw [Tryz.results106] <;> simp (maxSteps := 1000000) -implicitDefEqProofs (disch := omega) only [go_sem] <;> rfl) ?_ ⟨z, rfl, rfl⟩ ?_ ?_ ?_ ?_ ?_ ?_)
      all_goals (first | (simp -implicitDefEqProofs (disch := omega) only [go_sem, List.nodup_cons, List.nodup_nil, true_or, or_true, List.mem_cons, List.not_mem_nil, if_true, List.length_append]; done) | (simp -implicitDefEqProofs (disch := omega) only [go_sem, List.nodup_cons, List.nodup_nil, true_or, or_true, List.mem_cons, List.not_mem_nil, List.length_append]; first | rfl | omega))
    have h2' := kidsN_two hc0 hc1 hc2 (by omega)
    have hk2 : e.kids.length = 2 := by omega
    have hg0 : 0 < e.kids.length := by omega
    have hg1 : 1 < e.kids.length := by omega
    have hs0 := Ex.get_szL e.kids 0 hg0
    have hs1 := Ex.get_szL e.kids 1 hg1
    have hcd' : e.cd = (e.kids.getD 0 default).cd ++ (e.kids.getD 1 default).cd ++ [⟨4, e.kind, A0⟩] := by
      rw [hcd, lastI, if_neg (by rw [hc0]; simp), if_neg (by rw [hc1]; simp), if_neg (by rw [hc2]; simp)]
      congr 1
      match hkk : e.kids, hk2 with
      | [x, y], _ => simp [Ex.cdL]
    have hcl : (e.kids.getD 0 default).cd.length + (e.kids.getD 1 default).cd.length ≤ 2000000000 := by rw [Ex.cd_len, Ex.cd_len]; omega
    refine n_ ?_
    refine dr_ mixed [2] 5 1 [B, B + 1, B + 2, B + 3, B + 4, B + 5] [⟨[1],[],[],[],false⟩,⟨[27],[0],[],[],false⟩,⟨[28],[],[],[],false⟩,⟨[29],[],[],[],false⟩,⟨[30],[],[],[1],true⟩,⟨[1],[],[],[],false⟩,⟨[32],[0],[],[],false⟩,⟨[33],[],[],[],false⟩,⟨[34],[],[],[],false⟩,⟨[35],[],[],[2],true⟩,⟨[31,36],[1,2],[1],[3],false⟩,⟨[1],[],[],[],false⟩,⟨[38],[0],[],[],false⟩,⟨[39],[],[],[],false⟩,⟨[40],[],[],[4],false⟩,⟨[37,41],[3,4],[3],[5],false⟩,⟨[42],[],[],[],false⟩] [0,1,2,3,5,6,7,8,11,12,13,14,4,9,10,15,16] [[],[0],[0,1],[0,1,2],[0,1,2,3],[],[5],[5,6],[5,6,7],[0,1,2,3,4,5,6,7,8],[0,1,2,3,4,5,6,7,8,9],[],[11],[11,12],[11,12,13],[0,1,2,3,4,5,6,7,8,9,10,11,12,13,14],[0,1,2,3,4,5,6,7,8,9,10,11,12,13,14,15]] 6 ?_
    intro O A K hO hA hK;simp only [atL_cons,atL_nil,Nat.reduceAdd,Nat.zero_add] at hO hA
    simp -implicitDefEqProofs (disch := omega) only [go_sem, List.length_append, hO, hA]
    refine loud_fn (first := []) (cap := []) (ps := [.agg (e.kids.getD 0 default).cs]) (l := []) (ih (e.kids.getD 0 default) (hkids 0 hg0) (by omega)) Tryz.call106 rfl rfl F_ (subG_spec T_) rfl ?_
    rintro out ⟨z', ⟨⟩, rfl⟩
    refine ⟨rfl, ?_⟩
    simp -implicitDefEqProofs (disch := omega) only [go_sem, List.length_append, hO, hA]
    refine loud_fn (first := []) (cap := []) (ps := [.agg (e.kids.getD 1 default).cs]) (l := []) (ih (e.kids.getD 1 default) (hkids 1 hg1) (by omega)) Tryz.call106 rfl rfl F_ (subG_spec T_) rfl ?_
    rintro out ⟨z', ⟨⟩, rfl⟩
    refine ⟨rfl, ?_⟩
    simp -implicitDefEqProofs (disch := omega) only [go_sem, List.length_append, hO, hA]
    refine hK _ (S_ ?_);clear hK K hO hA O A
    refine wpM_ret ?_
    try refine S_ ?_
    rw [hcd'] at hQ
    refine hQ _ _ (retK [B + 5] [] [(z, .cells 110 (insC ((e.kids.getD 0 default).cd ++ (e.kids.getD 1 default).cd ++ [(⟨4, e.kind, A0⟩ : GI)])))] rfl rfl rfl (by rw [Tryz.results106] <;> simp (maxSteps := 1000000) -implicitDefEqProofs (disch := omega) only [go_sem] <;> rfl) ?_ ⟨z, rfl, rfl⟩ ?_ ?_ ?_ ?_ ?_ ?_)
    all_goals (first | (simp -implicitDefEqProofs (disch := omega) only [go_sem, List.nodup_cons, List.nodup_nil, true_or, or_true, List.mem_cons, List.not_mem_nil, if_true, List.length_append]; done) | (simp -implicitDefEqProofs (disch := omega) only [go_sem, List.nodup_cons, List.nodup_nil, true_or, or_true, List.mem_cons, List.not_mem_nil, List.length_append]; first | rfl | omega))
end Go.Proofs.YtmicbfojofcigaaGreat
namespace Go.Proofs.YtmicbfojofcigaaGreat
open Go Sg
set_option maxRecDepth 100000
set_option linter.unusedSimpArgs false
set_option linter.unusedVariables false
set_option linter.unusedSectionVars false
set_option maxHeartbeats 4000000
variable [Tab]
def L5R (l : List GI) (ns : List Nat) (o : COut) : Prop := ∃ z, ns = [z] ∧ o = { rs := [.sl 110 z 0 l.length], nw := [(z, .cells 110 (insC l))] }
def L5K (N : Nat) : Prop := ∀ (l : List Sm) (d k : Nat), Sm.szL l ≤ N → formS d l = true → Sm.szL l ≤ 1000000000 → k + 2 * Sm.szL l ≤ 100000000000 → CallF Tryz.prog 62 [.rows 45 (Sm.csL l), .int .i64 (k : Nat)] [] 1 (L5R (Sm.cdL l k))
theorem l5One_ok (N : Nat) (ih : L5K N) (s : Sm) (d k : Nat) (hp : s.plain = true) (he : s.e.ok = true) (ht : formS d s.th = true) (hl : formS d s.el = true) (hN : Sm.szL s.th ≤ N ∧ Sm.szL s.el ≤ N) (hs : s.sz ≤ 1000000000) (hk : k + 2 * s.sz ≤ 100000000000) :
    CallF Tryz.prog 91 [.agg s.cs, .int .i64 (k : Nat)] [] 1 (L5R (s.cd k)) := by
  have hsz := s.sz_eq
  have hE := Ex.cd_len s.e
  have hce := Sm.cd_eq s k
  have hfe := l5Expr_ok 6 s.e (ok_form he) (by omega)
  have hA1 := Sm.cdL_len s.th (k + s.e.cd.length + 1)
  refine callF_of' Tryz.func91 rfl Tryz.ntmps91 (by simp) ?_
  intro f0 B ns Q hB hns hQ
  obtain ⟨z, rfl⟩ : ∃ z, ns = [z] := by
    match ns, hns with
    | [x], _ => exact ⟨x, rfl⟩
  refine g_ [1,2] ?_
  refine n_ ?_
  refine wpM_regionK [1,2,5] rfl fun Q1 hQ1 => ?_
  refine S_ ?_
  refine call_fn (l := []) (first := []) (cap := []) (ps := [.agg s.e.cs]) (hfe) Tryz.call106 rfl rfl rfl G_ T_ ?_
  rintro out ⟨z', ⟨⟩, rfl⟩
  refine S_ ?_
  refine hQ1 _ _ (S_ ?_);clear hQ1 Q1
  refine n_ ?_
  generalize hq : s.e.cd = E at *
  refine g_ [1,2,5,15] ?_
  refine c_ (fun hc0 => ?_) fun hc0 => ?_
  ·
    have hcd' : s.cd k = E ++ [(⟨3, 0, s.to'⟩ : GI)] := by rw [hce, if_pos hc0]
    refine g_ [4] ?_
    refine wpM_ret ?_
    try refine S_ ?_
    rw [hcd'] at hQ
    refine hQ _ _ (retK [B + 3] [] [(z, .cells 110 (insC (E ++ [(⟨3, 0, s.to'⟩ : GI)])))] rfl rfl rfl (by rw [Tryz.results91] <;> simp (maxSteps := 1000000) -implicitDefEqProofs (disch := omega) only [go_sem] <;> rfl) ?_ ⟨z, rfl, rfl⟩ ?_ ?_ ?_ ?_ ?_ ?_)
    all_goals (first | (simp -implicitDefEqProofs (disch := omega) only [go_sem, List.nodup_cons, List.nodup_nil, true_or, or_true, List.mem_cons, List.not_mem_nil, if_true, List.length_append]; done) | (simp -implicitDefEqProofs (disch := omega) only [go_sem, List.nodup_cons, List.nodup_nil, true_or, or_true, List.mem_cons, List.not_mem_nil, List.length_append]; first | rfl | omega))
  refine g_ [1,2,5,6] ?_
  refine g_ [1,2,5,6,27] ?_
  refine c_ (fun hc1 => ?_) fun hc1 => ?_
  ·
    have hcd' : s.cd k = E ++ [(⟨6, (k + E.length + 1 + (Sm.cdL s.th (k + E.length + 1)).length + 1 : Nat), A0⟩ : GI)] ++ Sm.cdL s.th (k + E.length + 1) ++ [(⟨8, (k : Nat), A0⟩ : GI)] := by
      have h3 : s.kind = 3 := by simpa using hc1
      rw [hce, if_neg (by rw [h3]; decide), if_neg (by rw [h3]; decide), if_pos hc1]
    refine n_ ?_
    refine wpM_regionK [1,5,6,7] rfl fun Q1 hQ1 => ?_
    refine S_ ?_
    refine call_fn (l := []) (first := []) (cap := []) (ps := [.rows 45 (Sm.csL s.th), .int .i64 ((k + E.length + 1 : Nat) : Int)]) (ih s.th d (k + E.length + 1) hN.1 ht (by omega) (by omega)) Tryz.call62 rfl rfl rfl G_ T_ ?_
    rintro out ⟨z', ⟨⟩, rfl⟩
    refine S_ ?_
    refine hQ1 _ _ (S_ ?_);clear hQ1 Q1
    refine n_ ?_
    generalize hA : Sm.cdL s.th (k + E.length + 1) = A at *
    refine g_ [1,5,7] ?_
    refine n_ ?_
    refine wpM_regionK [4] rfl fun Q1 hQ1 => ?_
    simp -implicitDefEqProofs (disch := omega) only [go_sem, List.length_append]
    refine hQ1 _ _ (S_ ?_);clear hQ1 Q1
    refine wpM_ret ?_
    try refine S_ ?_
    rw [hcd'] at hQ
    have e1 : (k : Int) + ((E.length : Int) + 1) + (A.length : Int) + 1 = ((k + E.length + 1 + A.length + 1 : Nat) : Int) := by omega
    rw [e1]
    refine hQ _ _ (retK [B + 7] [] [(z, .cells 110 (insC (E ++ [(⟨6, ((k + E.length + 1 + A.length + 1 : Nat) : Int), A0⟩ : GI)] ++ A ++ [(⟨8, (k : Nat), A0⟩ : GI)])))] rfl rfl rfl (by rw [Tryz.results91] <;> simp (maxSteps := 1000000) -implicitDefEqProofs (disch := omega) only [go_sem] <;> rfl) ?_ ⟨z, rfl, rfl⟩ ?_ ?_ ?_ ?_ ?_ ?_)
    all_goals (first | (simp -implicitDefEqProofs (disch := omega) only [go_sem, List.nodup_cons, List.nodup_nil, true_or, or_true, List.mem_cons, List.not_mem_nil, if_true, List.length_append]; done) | (simp -implicitDefEqProofs (disch := omega) only [go_sem, List.nodup_cons, List.nodup_nil, true_or, or_true, List.mem_cons, List.not_mem_nil, List.length_append]; first | rfl | omega))
  have h2 : (s.kind == 2) = true := by
    unfold Sm.plain at hp
    rw [hc0, hc1] at hp
    cases h : s.kind == 2
    · rw [h] at hp; simp at hp
    · rfl
  have hcd' : s.cd k = E ++ [(⟨6, (k + E.length + 1 + (Sm.cdL s.th (k + E.length + 1)).length + 1 : Nat), A0⟩ : GI)] ++ Sm.cdL s.th (k + E.length + 1) ++ [(⟨7, (k + E.length + 1 + (Sm.cdL s.th (k + E.length + 1)).length + 1 + (Sm.cdL s.el (k + E.length + 1 + (Sm.cdL s.th (k + E.length + 1)).length + 1)).length : Nat), A0⟩ : GI)] ++ Sm.cdL s.el (k + E.length + 1 + (Sm.cdL s.th (k + E.length + 1)).length + 1) := by
    rw [hce, if_neg (by rw [hc0]; simp), if_pos h2]
  refine n_ ?_
  refine wpM_regionK [1,2,5,6,8] rfl fun Q1 hQ1 => ?_
  refine S_ ?_
  refine call_fn (l := []) (first := []) (cap := []) (ps := [.rows 45 (Sm.csL s.th), .int .i64 ((k + E.length + 1 : Nat) : Int)]) (ih s.th d (k + E.length + 1) hN.1 ht (by omega) (by omega)) Tryz.call62 rfl rfl rfl G_ T_ ?_
  rintro out ⟨z', ⟨⟩, rfl⟩
  refine S_ ?_
  refine hQ1 _ _ (S_ ?_);clear hQ1 Q1
  refine n_ ?_
  generalize hA : Sm.cdL s.th (k + E.length + 1) = A at *
  have hA2 := Sm.cdL_len s.el (k + E.length + 1 + A.length + 1)
  refine wpM_regionK [1,5,6,8,9] rfl fun Q1 hQ1 => ?_
  refine S_ ?_
  refine call_fn (l := []) (first := []) (cap := []) (ps := [.rows 45 (Sm.csL s.el), .int .i64 ((k + E.length + 1 + A.length + 1 : Nat) : Int)]) (ih s.el d (k + E.length + 1 + A.length + 1) hN.2 hl (by omega) (by omega)) Tryz.call62 rfl rfl rfl G_ T_ ?_
  rintro out ⟨z', ⟨⟩, rfl⟩
  refine S_ ?_
  refine hQ1 _ _ (S_ ?_);clear hQ1 Q1
  refine n_ ?_
  generalize hBc : Sm.cdL s.el (k + E.length + 1 + A.length + 1) = Bc at *
  refine g_ [1,5,6,8,9] ?_
  refine n_ ?_
  refine wpM_regionK [5,9] rfl fun Q1 hQ1 => ?_
  simp -implicitDefEqProofs (disch := omega) only [go_sem, List.length_append]
  refine hQ1 _ _ (S_ ?_);clear hQ1 Q1
  refine n_ ?_
  refine wpM_regionK [4] rfl fun Q1 hQ1 => ?_
  simp -implicitDefEqProofs (disch := omega) only [go_sem, List.length_append]
  refine hQ1 _ _ (S_ ?_);clear hQ1 Q1
  refine wpM_ret ?_
  try refine S_ ?_
  rw [hcd'] at hQ
  have e1 : (k : Int) + ((E.length : Int) + 1) + (A.length : Int) + 1 = ((k + E.length + 1 + A.length + 1 : Nat) : Int) := by omega
  rw [e1]
  have e2 : ((k + E.length + 1 + A.length + 1 : Nat) : Int) + (Bc.length : Int) = ((k + E.length + 1 + A.length + 1 + Bc.length : Nat) : Int) := by omega
  rw [e2]
  refine hQ _ _ (retK [B + 9] [] [(z, .cells 110 (insC (E ++ [(⟨6, ((k + E.length + 1 + A.length + 1 : Nat) : Int), A0⟩ : GI)] ++ A ++ [(⟨7, ((k + E.length + 1 + A.length + 1 + Bc.length : Nat) : Int), A0⟩ : GI)] ++ Bc)))] rfl rfl rfl (by rw [Tryz.results91] <;> simp (maxSteps := 1000000) -implicitDefEqProofs (disch := omega) only [go_sem] <;> rfl) ?_ ⟨z, rfl, rfl⟩ ?_ ?_ ?_ ?_ ?_ ?_)
  all_goals (first | (simp -implicitDefEqProofs (disch := omega) only [go_sem, List.nodup_cons, List.nodup_nil, true_or, or_true, List.mem_cons, List.not_mem_nil, if_true, List.length_append]; done) | (simp -implicitDefEqProofs (disch := omega) only [go_sem, List.nodup_cons, List.nodup_nil, true_or, or_true, List.mem_cons, List.not_mem_nil, List.length_append]; first | rfl | omega))
theorem l5Of_ok : ∀ N, L5K N := by
  intro N
  induction N with
  | zero =>
    intro l d k hN hf hs hk
    have h0 : l.length = 0 := by have := Sm.len_szL l; omega
    obtain rfl : l = [] := List.eq_nil_of_length_eq_zero h0
    refine callF_of' Tryz.func62 rfl Tryz.ntmps62 (by simp) ?_
    intro f0 B ns Q hB hns hQ
    obtain ⟨z, rfl⟩ : ∃ z, ns = [z] := by
      match ns, hns with
      | [x], _ => exact ⟨x, rfl⟩
    refine g_ [0,1] ?_
    refine g_ [0,1,5] ?_
    refine g_ [0,1,5,6] ?_
    refine n_ ?_
    refine wpM_loopS (fun s n s' => s' = s) (0) ?_ ?_
    ·
      exact .here rfl
    rintro n s' rfl
    try refine S_ ?_
    refine g_ [0,1,5,6,11] ?_
    refine c_ (fun hc0 => ?_) fun hc0 => ?_
    · simp at hc0
    refine g_ [4] ?_
    refine wpM_ret ?_
    try refine S_ ?_
    refine hQ _ _ (retK [B] [] [(z, .cells 110 (insC []))] rfl rfl rfl (by rw [Tryz.results62] <;> simp (maxSteps := 1000000) -implicitDefEqProofs (disch := omega) only [go_sem] <;> rfl) ?_ ⟨z, rfl, rfl⟩ ?_ ?_ ?_ ?_ ?_ ?_)
    all_goals (first | (simp -implicitDefEqProofs (disch := omega) only [go_sem, List.nodup_cons, List.nodup_nil, true_or, or_true, List.mem_cons, List.not_mem_nil, if_true, List.length_append]; done) | (simp -implicitDefEqProofs (disch := omega) only [go_sem, List.nodup_cons, List.nodup_nil, true_or, or_true, List.mem_cons, List.not_mem_nil, List.length_append]; first | rfl | omega))
  | succ N ih =>
    intro l d k hN hf hs hk
    have hlen := Sm.len_szL l
    refine callF_of' Tryz.func62 rfl Tryz.ntmps62 (by simp) ?_
    intro f0 B ns Q hB hns hQ
    obtain ⟨z, rfl⟩ : ∃ z, ns = [z] := by
      match ns, hns with
      | [x], _ => exact ⟨x, rfl⟩
    refine g_ [0,1] ?_
    refine g_ [0,1,5] ?_
    refine g_ [0,1,5,6] ?_
    refine n_ ?_
    refine wpM_loopS (fun q n s' => ∃ (i M Y : Nat) (L : List GI), i + n = l.length ∧ B ≤ Y ∧ Y < M ∧ L = Sm.cdL (l.take i) k ∧ s' = { q with env := setE 6 (.int .i64 (i : Nat)) (setE 5 (.sl 110 Y 0 L.length) q.env), l := [(Y, .cells 110 (insC L))], M := M }) (l.length) ?_ ?_
    ·
      refine .of' _ _ ⟨0, _, B, [], by omega, Nat.le_refl _, Nat.lt_succ_self _, by simp [Sm.cdL], rfl⟩ ?_ ?_ ?_
      all_goals exact L_
    rintro n s' ⟨i, M, Y, L, hi, hBY, hYM, hL, rfl⟩
    try refine S_ ?_
    refine g_ [0,1,5,6,11] ?_
    refine c_ (fun hc0 => ?_) fun hc0 => ?_
    ·
      have hi2 : i < l.length := by omega
      have hin := Sm.get_in hi2
      obtain ⟨g1, g2, d', g3, g4⟩ := formS_at hf hi2
      have htk := Sm.cdL_take l k i hi2
      have hst := Sm.szL_take l i hi2
      have hcl := Sm.cdL_len (l.take i) k
      have hc2 := Sm.cd_len (l.getD i default) (k + L.length)
      rw [← hL] at htk hcl
      refine n_ ?_
      refine wpM_regionK [0,1,5,6] rfl fun Q1 hQ1 => ?_
      simp -implicitDefEqProofs (disch := omega) only [go_sem, List.length_append]
      refine call_fn (l := []) (first := []) (cap := []) (ps := [.agg (l.getD i default).cs, .int .i64 ((k + L.length : Nat) : Int)]) (l5One_ok N ih (l.getD i default) d' (k + L.length) g1 g2 g3 g4 (by omega) (by omega) (by omega)) Tryz.call91 rfl rfl rfl G_ T_ ?_
      rintro out ⟨z', ⟨⟩, rfl⟩
      simp -implicitDefEqProofs (disch := omega) only [go_sem, List.length_append]
      refine hQ1 _ _ (S_ ?_);clear hQ1 Q1
      refine g_ [0,1,5,6] ?_
      have hll : L.length + ((l.getD i default).cd (k + L.length)).length = (L ++ (l.getD i default).cd (k + L.length)).length := List.length_append.symm
      rw [hll]
      refine .of' _ _ ⟨n - 1, by omega, i + 1, _, M + 1, L ++ (l.getD i default).cd (k + L.length), by omega, M_, M_, htk.symm, rfl⟩ L_ L_ L_
    refine g_ [4] ?_
    refine wpM_ret ?_
    try refine S_ ?_
    obtain rfl : i = l.length := by omega
    rw [List.take_of_length_le (Nat.le_refl _)] at hL
    rw [← hL] at hQ
    refine hQ _ _ (retK [Y] [] [(z, .cells 110 (insC L))] rfl rfl rfl (by rw [Tryz.results62] <;> simp (maxSteps := 1000000) -implicitDefEqProofs (disch := omega) only [go_sem] <;> rfl) ?_ ⟨z, rfl, rfl⟩ ?_ ?_ ?_ ?_ ?_ ?_)
    all_goals (first | (simp -implicitDefEqProofs (disch := omega) only [go_sem, List.nodup_cons, List.nodup_nil, true_or, or_true, List.mem_cons, List.not_mem_nil, if_true, List.length_append]; done) | (simp -implicitDefEqProofs (disch := omega) only [go_sem, List.nodup_cons, List.nodup_nil, true_or, or_true, List.mem_cons, List.not_mem_nil, List.length_append]; first | rfl | omega))
theorem eqGI (d : Nat) (a b c e a' b' c' e' : Int) : eqA Tryz.prog (d + 3) 110 (.agg [.int .i64 a, .int .i64 b, .int .i64 c, .int .i64 e]) (.agg [.int .i64 a', .int .i64 b', .int .i64 c', .int .i64 e']) = some (a == a' && b == b' && c == c' && e == e') := by
  unfold eqA
  simp only [Tryz.underlying110, Tryz.stoodInHeld110, Bool.false_eq_true, if_false, eqFs]
  simp -implicitDefEqProofs (disch := omega) only [go_sem, eqA, eqFs, ne_eq, String.reduceEq]
  rw [eqAD d]
  cases h1 : a == a' <;> cases h2 : b == b' <;> cases h3 : (c == c' && e == e') <;> simp [eqA, Tryz.underlying3, h1, h2, h3, Bool.and_assoc]
@[go_sem] theorem eqlGI (x y : Operand) (a b c e a' b' c' e' : Int) : binOpA Tryz.prog .eql 110 x y (.agg [.int .i64 a, .int .i64 b, .int .i64 c, .int .i64 e]) (.agg [.int .i64 a', .int .i64 b', .int .i64 c', .int .i64 e']) = some (.bool (a == a' && b == b' && c == c' && e == e')) := by
  simp only [binOpA, Tryz.eqGuardType110]
  rw [eqGI 9997]; rfl
instance : BEq GI := ⟨fun x y => x.op == y.op && x.n == y.n && x.a.kind == y.a.kind && x.a.at' == y.a.at'⟩
end Go.Proofs.YtmicbfojofcigaaGreat
