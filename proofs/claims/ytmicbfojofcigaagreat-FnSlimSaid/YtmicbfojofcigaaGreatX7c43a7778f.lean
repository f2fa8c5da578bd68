/- A part of a proof: lemmas and contracts of functions; the last text of the claim says what is proved. -/
import Derived.Test.YtmicbfojofcigaaGreatXabc88e837e
set_option linter.unusedSectionVars false
set_option linter.unusedSimpArgs false
set_option linter.unusedVariables false
namespace Go.Proofs.YtmicbfojofcigaaGreat
open Go Sg
set_option linter.unusedSectionVars false
variable [Glob]
set_option maxRecDepth 100000
set_option linter.unusedSimpArgs false
set_option maxHeartbeats 4000000
theorem mixed : Tryz.prog.follows .mixedOrders = true := by kernel_rfl
def u8s (l : List Nat) : List (List PV) := l.map fun (x : Nat) => [.int .u8 (x : Int)]
@[go_sem] theorem u8s_len (l : List Nat) : (u8s l).length = l.length := by simp [u8s]
@[go_sem] theorem u8s_getD (l : List Nat) (k : Nat) (h : k < l.length) : (u8s l).getD k [] = [.int .u8 ((l.getD k 0 : Nat) : Int)] := by simp [u8s, List.getD, h]
def ints (l : List Int) : List PV := l.map (PV.int .i64)
@[go_sem] theorem ints_len (l : List Int) : (ints l).length = l.length := by simp [ints]
@[go_sem] theorem ints_drop (l : List Int) (k : Nat) (h : k < l.length) : ((ints l).drop k)[0]? = some (.int .i64 (l.getD k 0)) := by
  simp [ints, List.getD, h]
structure Bs (bs : List Nat) : Prop where
  lt : ∀ x ∈ bs, x < 256
  len : bs.length ≤ 2000
theorem Bs.get {bs : List Nat} (h : Bs bs) (k : Nat) : bs.getD k 0 < 256 := by
  by_cases hk : k < bs.length
  · rw [List.getD_eq_getElem?_getD, List.getElem?_eq_getElem hk]; exact h.lt _ (List.getElem_mem hk)
  · rw [List.getD_eq_getElem?_getD, List.getElem?_eq_none (by omega)]; simp
def rdObj (bs : List Nat) (q : Int) : AObj := .cells 83 [.rows 5 (u8s bs), .int .i64 q]
theorem xor64 (a b : Int) (ha : 0 ≤ a) (ha' : a < 4611686018427387904) (hb : 0 ≤ b) (hb' : b < 4611686018427387904) :
    0 ≤ IntKind.i64.wrap (BitVec.ofInt 64 a ^^^ BitVec.ofInt 64 b).toNat ∧ IntKind.i64.wrap (BitVec.ofInt 64 a ^^^ BitVec.ofInt 64 b).toNat < 4611686018427387904 := by
  obtain ⟨x, rfl⟩ := Int.eq_ofNat_of_zero_le ha
  obtain ⟨y, rfl⟩ := Int.eq_ofNat_of_zero_le hb
  have e : (BitVec.ofInt 64 (x : Int) ^^^ BitVec.ofInt 64 (y : Int)).toNat = x ^^^ y := by
    rw [BitVec.toNat_xor, BitVec.toNat_ofInt, BitVec.toNat_ofInt]
    have h1 : ((x : Int) % ((2 ^ 64 : Nat) : Int)).toNat = x := by omega
    have h2 : ((y : Int) % ((2 ^ 64 : Nat) : Int)).toNat = y := by omega
    rw [h1, h2]
  have hlt : x ^^^ y < 2 ^ 62 := Nat.xor_lt_two_pow (by omega) (by omega)
  rw [e, wrap64 (by omega)]
  omega
def pickO (id : Nat) (bs : List Nat) (q n : Int) (_ : List Nat) (o : COut) : Prop :=
  ∃ k : Int, o = { rs := [.int .i64 k], u := [(id, some (rdObj bs (q + 1)))] } ∧ 0 ≤ k ∧ (1 ≤ n → k < n) ∧ (n < 1 → k = 0)
theorem pick_ok (id : Nat) (bs : List Nat) (q n : Int) (hbs : Bs bs) (hq0 : 0 ≤ q) (hq : q ≤ 1099511627776) (hn : n ≤ 1099511627776) :
    CallF Tryz.prog 44 [.ptr id 0, .int .i64 n] [(id, rdObj bs q)] 0 (pickO id bs q n) := by
  have hl := hbs.len
  refine callF_of Tryz.func44 rfl Tryz.ntmps44 (by simp) ?_
  intro f0 B ns hB hns
  have hid : id < B := hB id (by simp [hasKey, lk])
  obtain rfl : ns = [] := List.eq_nil_of_length_eq_zero hns
  have fin : ∀ (k : Int) (s : MS), s.f0 = f0 → s.B = B → s.df = [] → s.l = [(id, .cells 83 [.rows 5 (u8s bs), .int .i64 (q + 1)])] → Sg.get s.env 4 = some (.int .i64 k) → 0 ≤ k → (1 ≤ n → k < n) → (n < 1 → k = 0) →
      retQ Tryz.prog Tryz.f44.results.toList [(id, rdObj bs q)] f0 B [] (pickO id bs q n) .ret s := by
    intro k s h1 h2 h3 h4 h5 k1 k2 k3
    refine ⟨h1, h2, h3, [], [.int .i64 k], _, ⟨k, rfl, k1, k2, k3⟩, rfl, by rw [Tryz.results44]; simp [resA, h5], ?_⟩
    constructor <;> simp [h4, rdObj, keysIn, hasKey, lk, PV.renL, PV.ren, PV.idsL, PV.ids, updOk, oldOk, goodObj, MS.f, AObj.ren, AObj.ids, newOk]
  revert fin
  generalize retQ Tryz.prog Tryz.f44.results.toList [(id, rdObj bs q)] f0 B [] (pickO id bs q n) = Q
  intro fin
  unfold rdObj
  refine wpM_seq ?_
  refine wpM_regionK [0, 1] rfl ?_; intro Q1 hQ1
  simp -implicitDefEqProofs (disch := omega) only [go_sem]
  refine hQ1 _ _ ?_
  simp -implicitDefEqProofs (disch := omega) only [go_sem]
  refine wpM_seq ?_
  refine wpM_regionK [0, 1] rfl ?_; intro Q1 hQ1
  simp -implicitDefEqProofs (disch := omega) only [go_sem]
  refine hQ1 _ _ ?_
  simp -implicitDefEqProofs (disch := omega) only [go_sem]
  refine wpM_seq ?_
  refine wpM_cut (fun s => s = ⟨[(0, .ptr id 0), (1, .int .i64 n), (24, .bool (decide (n < 1) || bs.length == 0))], [(id, AObj.cells 83 [.rows 5 (u8s bs), .int .i64 (q + 1)])], f0, B, B, []⟩) ?_ ?_
  · by_cases h : n < 1
    · skip
      refine wpM_regionK [0, 1, 24] rfl ?_; intro Q1 hQ1
      simp -implicitDefEqProofs (disch := omega) only [go_sem, h, decide_true]
      refine hQ1 _ _ ?_
      simp -implicitDefEqProofs (disch := omega) only [go_sem]
      refine .here ?_
      simp [h]
    · skip
      refine wpM_regionK [0, 1, 24] rfl ?_; intro Q1 hQ1
      simp -implicitDefEqProofs (disch := omega) only [go_sem, h, decide_false]
      refine hQ1 _ _ ?_
      simp -implicitDefEqProofs (disch := omega) only [go_sem]
      refine .here ?_
      simp [h]
      rw [Bool.eq_iff_iff]; simp
  rintro s' rfl
  refine wpM_condK ?_
  simp -implicitDefEqProofs (disch := omega) only [go_sem]
  refine ⟨fun h => ?_, fun h => ?_⟩
  · refine wpM_seq ?_
    refine wpM_regionK [4] rfl ?_; intro Q1 hQ1
    simp -implicitDefEqProofs (disch := omega) only [go_sem]
    refine hQ1 _ _ ?_
    simp -implicitDefEqProofs (disch := omega) only [go_sem]
    refine wpM_ret ?_
    exact fin 0 _ rfl rfl rfl rfl rfl (by omega) (by omega) (fun _ => rfl)
  refine wpM_skip ?_
  simp -implicitDefEqProofs (disch := omega) only [go_sem]
  have hn1 : 1 ≤ n := by
    simp only [Bool.or_eq_false_iff, decide_eq_false_iff_not] at h; omega
  have hb0 : 0 < bs.length := by
    rcases Nat.eq_zero_or_pos bs.length with h0 | h0
    · simp [h0] at h
    · exact h0
  refine wpM_seq ?_
  refine wpM_regionK [0, 1, 5] rfl ?_; intro Q1 hQ1
  simp -implicitDefEqProofs (disch := omega) only [go_sem]
  refine hQ1 _ _ ?_
  simp -implicitDefEqProofs (disch := omega) only [go_sem]
  refine wpM_seq ?_
  refine wpM_seq ?_
  refine wpM_regionK [0, 1, 5, 36] rfl ?_; intro Q1 hQ1
  simp -implicitDefEqProofs (disch := omega) only [go_sem]
  refine hQ1 _ _ ?_
  simp -implicitDefEqProofs (disch := omega) only [go_sem]
  refine wpM_condK ?_
  simp -implicitDefEqProofs (disch := omega) only [go_sem]
  refine ⟨fun h2 => ?_, fun h2 => ?_⟩
  · have b0 := hbs.get q.toNat
    refine wpM_seq ?_
    refine wpM_regionK [4] rfl ?_; intro Q1 hQ1
    simp -implicitDefEqProofs (disch := omega) only [go_sem]
    refine hQ1 _ _ ?_
    simp -implicitDefEqProofs (disch := omega) only [go_sem]
    refine wpM_ret ?_
    exact fin _ _ rfl rfl rfl rfl rfl (Int.tmod_nonneg _ (by omega)) (fun _ => Int.tmod_lt_of_pos _ (by omega)) (by omega)
  refine wpM_skip ?_
  simp -implicitDefEqProofs (disch := omega) only [go_sem]
  have tm := fun (a : Int) (ha : 0 ≤ a) => (⟨Int.tmod_nonneg _ ha, Int.tmod_lt_of_pos a (show (0 : Int) < bs.length by omega)⟩ : 0 ≤ a.tmod bs.length ∧ a.tmod bs.length < bs.length)
  have tm1 := tm q hq0
  have tm2 := tm (q * 7 + 3) (by omega)
  have b1 := hbs.get (q.tmod bs.length).toNat
  have b2 := hbs.get ((q * 7 + 3).tmod bs.length).toNat
  have d1 : 0 ≤ q.tdiv bs.length := Int.tdiv_nonneg hq0 (by omega)
  have d2 : q.tdiv bs.length ≤ q := Int.tdiv_le_self _ hq0
  refine wpM_seq ?_
  refine wpM_keep [1, 6] (wpM_drawn mixed 0 1 [id] #[⟨[0], [], [], [], false⟩, ⟨[47], [], [], [], false⟩, ⟨[48], [], [], [], false⟩, ⟨[49], [0], [], [], false⟩, ⟨[5], [], [], [], false⟩, ⟨[0], [], [], [], false⟩, ⟨[52], [], [], [], false⟩, ⟨[53], [], [], [], false⟩, ⟨[54], [0], [], [], false⟩, ⟨[55], [], [], [], false⟩, ⟨[51, 56], [], [], [], false⟩, ⟨[50, 57], [], [], [], false⟩, ⟨[58], [], [], [], false⟩, ⟨[59], [], [], [], false⟩, ⟨[60], [], [], [], false⟩, ⟨[0], [], [], [], false⟩, ⟨[62], [], [], [], false⟩, ⟨[63], [], [], [], false⟩, ⟨[64], [0], [], [], false⟩, ⟨[5], [], [], [], false⟩, ⟨[66], [], [], [], false⟩, ⟨[67], [], [], [], false⟩, ⟨[0], [], [], [], false⟩, ⟨[69], [], [], [], false⟩, ⟨[70], [], [], [], false⟩, ⟨[71], [0], [], [], false⟩, ⟨[72], [], [], [], false⟩, ⟨[68, 73], [], [], [], false⟩, ⟨[65, 74], [], [], [], false⟩, ⟨[75], [], [], [], false⟩, ⟨[76], [], [], [], false⟩, ⟨[77], [], [], [], false⟩, ⟨[61, 78], [], [], [], false⟩, ⟨[5], [], [], [], false⟩, ⟨[80], [], [], [], false⟩, ⟨[79, 81], [], [], [], false⟩, ⟨[5], [], [], [], false⟩, ⟨[0], [], [], [], false⟩, ⟨[84], [], [], [], false⟩, ⟨[85], [], [], [], false⟩, ⟨[86], [0], [], [], false⟩, ⟨[87], [], [], [], false⟩, ⟨[83, 88], [], [], [], false⟩, ⟨[89], [], [], [], false⟩, ⟨[82, 90], [], [], [], false⟩, ⟨[91], [], [], [], false⟩] [0, 1, 2, 3, 4, 5, 6, 7, 8, 9, 10, 11, 12, 13, 14, 15, 16, 17, 18, 19, 20, 21, 22, 23, 24, 25, 26, 27, 28, 29, 30, 31, 32, 33, 34, 35, 36, 37, 38, 39, 40, 41, 42, 43, 44, 45] [[], [0], [0, 1], [0, 1, 2], [], [], [5], [5, 6], [5, 6, 7], [5, 6, 7, 8], [4, 5, 6, 7, 8, 9], [0, 1, 2, 3, 4, 5, 6, 7, 8, 9, 10], [0, 1, 2, 3, 4, 5, 6, 7, 8, 9, 10, 11], [0, 1, 2, 3, 4, 5, 6, 7, 8, 9, 10, 11, 12], [0, 1, 2, 3, 4, 5, 6, 7, 8, 9, 10, 11, 12, 13], [], [15], [15, 16], [15, 16, 17], [], [19], [19, 20], [], [22], [22, 23], [22, 23, 24], [22, 23, 24, 25], [19, 20, 21, 22, 23, 24, 25, 26], [15, 16, 17, 18, 19, 20, 21, 22, 23, 24, 25, 26, 27], [15, 16, 17, 18, 19, 20, 21, 22, 23, 24, 25, 26, 27, 28], [15, 16, 17, 18, 19, 20, 21, 22, 23, 24, 25, 26, 27, 28, 29], [15, 16, 17, 18, 19, 20, 21, 22, 23, 24, 25, 26, 27, 28, 29, 30], [0, 1, 2, 3, 4, 5, 6, 7, 8, 9, 10, 11, 12, 13, 14, 15, 16, 17, 18, 19, 20, 21, 22, 23, 24, 25, 26, 27, 28, 29, 30, 31], [], [33], [0, 1, 2, 3, 4, 5, 6, 7, 8, 9, 10, 11, 12, 13, 14, 15, 16, 17, 18, 19, 20, 21, 22, 23, 24, 25, 26, 27, 28, 29, 30, 31, 32, 33, 34], [], [], [37], [37, 38], [37, 38, 39], [37, 38, 39, 40], [36, 37, 38, 39, 40, 41], [36, 37, 38, 39, 40, 41, 42], [0, 1, 2, 3, 4, 5, 6, 7, 8, 9, 10, 11, 12, 13, 14, 15, 16, 17, 18, 19, 20, 21, 22, 23, 24, 25, 26, 27, 28, 29, 30, 31, 32, 33, 34, 35, 36, 37, 38, 39, 40, 41, 42, 43], [0, 1, 2, 3, 4, 5, 6, 7, 8, 9, 10, 11, 12, 13, 14, 15, 16, 17, 18, 19, 20, 21, 22, 23, 24, 25, 26, 27, 28, 29, 30, 31, 32, 33, 34, 35, 36, 37, 38, 39, 40, 41, 42, 43, 44]] 1 rfl (by simp) (by decide +kernel) (by simp) ?_)
  intro O A K hO hA hK
  have o0 := opGet hO 0 _ rfl
  have o1 := opGet hO 1 _ rfl
  have o2 := opGet hO 2 _ rfl
  have o3 := opGet hO 3 _ rfl
  have o4 := opGet hO 4 _ rfl
  have o5 := opGet hO 5 _ rfl
  have o6 := opGet hO 6 _ rfl
  have o7 := opGet hO 7 _ rfl
  have o8 := opGet hO 8 _ rfl
  have o9 := opGet hO 9 _ rfl
  have o10 := opGet hO 10 _ rfl
  have o11 := opGet hO 11 _ rfl
  have o12 := opGet hO 12 _ rfl
  have o13 := opGet hO 13 _ rfl
  have o14 := opGet hO 14 _ rfl
  have o15 := opGet hO 15 _ rfl
  have o16 := opGet hO 16 _ rfl
  have o17 := opGet hO 17 _ rfl
  have o18 := opGet hO 18 _ rfl
  have o19 := opGet hO 19 _ rfl
  have o20 := opGet hO 20 _ rfl
  have o21 := opGet hO 21 _ rfl
  have o22 := opGet hO 22 _ rfl
  have o23 := opGet hO 23 _ rfl
  have o24 := opGet hO 24 _ rfl
  have o25 := opGet hO 25 _ rfl
  have o26 := opGet hO 26 _ rfl
  have o27 := opGet hO 27 _ rfl
  have o28 := opGet hO 28 _ rfl
  have o29 := opGet hO 29 _ rfl
  have o30 := opGet hO 30 _ rfl
  have o31 := opGet hO 31 _ rfl
  have o32 := opGet hO 32 _ rfl
  have o33 := opGet hO 33 _ rfl
  have o34 := opGet hO 34 _ rfl
  have o35 := opGet hO 35 _ rfl
  have o36 := opGet hO 36 _ rfl
  have o37 := opGet hO 37 _ rfl
  have o38 := opGet hO 38 _ rfl
  have o39 := opGet hO 39 _ rfl
  have o40 := opGet hO 40 _ rfl
  have o41 := opGet hO 41 _ rfl
  have o42 := opGet hO 42 _ rfl
  have o43 := opGet hO 43 _ rfl
  have o44 := opGet hO 44 _ rfl
  have o45 := opGet hO 45 _ rfl
  have a0 := opGet hA 0 _ rfl
  have a1 := opGet hA 1 _ rfl
  have a2 := opGet hA 2 _ rfl
  have a3 := opGet hA 3 _ rfl
  have a4 := opGet hA 4 _ rfl
  have a5 := opGet hA 5 _ rfl
  have a6 := opGet hA 6 _ rfl
  have a7 := opGet hA 7 _ rfl
  have a8 := opGet hA 8 _ rfl
  have a9 := opGet hA 9 _ rfl
  have a10 := opGet hA 10 _ rfl
  have a11 := opGet hA 11 _ rfl
  have a12 := opGet hA 12 _ rfl
  have a13 := opGet hA 13 _ rfl
  have a14 := opGet hA 14 _ rfl
  have a15 := opGet hA 15 _ rfl
  have a16 := opGet hA 16 _ rfl
  have a17 := opGet hA 17 _ rfl
  have a18 := opGet hA 18 _ rfl
  have a19 := opGet hA 19 _ rfl
  have a20 := opGet hA 20 _ rfl
  have a21 := opGet hA 21 _ rfl
  have a22 := opGet hA 22 _ rfl
  have a23 := opGet hA 23 _ rfl
  have a24 := opGet hA 24 _ rfl
  have a25 := opGet hA 25 _ rfl
  have a26 := opGet hA 26 _ rfl
  have a27 := opGet hA 27 _ rfl
  have a28 := opGet hA 28 _ rfl
  have a29 := opGet hA 29 _ rfl
  have a30 := opGet hA 30 _ rfl
  have a31 := opGet hA 31 _ rfl
  have a32 := opGet hA 32 _ rfl
  have a33 := opGet hA 33 _ rfl
  have a34 := opGet hA 34 _ rfl
  have a35 := opGet hA 35 _ rfl
  have a36 := opGet hA 36 _ rfl
  have a37 := opGet hA 37 _ rfl
  have a38 := opGet hA 38 _ rfl
  have a39 := opGet hA 39 _ rfl
  have a40 := opGet hA 40 _ rfl
  have a41 := opGet hA 41 _ rfl
  have a42 := opGet hA 42 _ rfl
  have a43 := opGet hA 43 _ rfl
  have a44 := opGet hA 44 _ rfl
  have a45 := opGet hA 45 _ rfl
  clear hO hA
  simp -implicitDefEqProofs (disch := omega) only [go_sem, o0, a0, o1, a1, o2, a2, o3, a3, o4, a4, o5, a5, o6, a6, o7, a7, o8, a8, o9, a9, o10, a10, o11, a11, o12, a12, o13, a13, o14, a14, o15, a15, o16, a16, o17, a17, o18, a18, o19, a19, o20, a20, o21, a21, o22, a22, o23, a23, o24, a24, o25, a25, o26, a26, o27, a27, o28, a28, o29, a29, o30, a30, o31, a31, o32, a32, o33, a33, o34, a34, o35, a35, o36, a36, o37, a37, o38, a38, o39, a39, o40, a40, o41, a41, o42, a42, o43, a43, o44, a44, o45, a45]
  refine hK _ ?_
  simp -implicitDefEqProofs (disch := omega) only [go_sem]
  generalize hx : (↑(bs.getD (q.tmod ↑bs.length).toNat 0) * 131 + ↑(bs.getD ((q * 7 + 3).tmod ↑bs.length).toNat 0) * 1117 + q * 29 + q.tdiv ↑bs.length * 53 : Int) = x
  have hx0 : 0 ≤ x ∧ x ≤ 1099511627776 * 100 := by omega
  have hx1 : 0 ≤ x.tdiv 64 := Int.tdiv_nonneg hx0.1 (by omega)
  have hx2 : x.tdiv 64 ≤ x := Int.tdiv_le_self _ hx0.1
  have hx3 := xor64 x (x.tdiv 64) (by omega) (by omega) (by omega) (by omega)
  refine wpM_seq ?_
  refine wpM_regionK [1, 6] rfl ?_; intro Q1 hQ1
  simp -implicitDefEqProofs (disch := omega) only [go_sem]
  refine hQ1 _ _ ?_
  simp -implicitDefEqProofs (disch := omega) only [go_sem]
  refine wpM_seq ?_
  refine wpM_regionK [4] rfl ?_; intro Q1 hQ1
  simp -implicitDefEqProofs (disch := omega) only [go_sem]
  refine hQ1 _ _ ?_
  simp -implicitDefEqProofs (disch := omega) only [go_sem]
  refine wpM_ret ?_
  exact fin _ _ rfl rfl rfl rfl rfl (Int.tmod_nonneg _ hx3.1) (fun _ => Int.tmod_lt_of_pos _ (by omega)) (fun h => by omega)
def numO (id : Nat) (bs : List Nat) (q : Int) (l : List Int) (_ : List Nat) (o : COut) : Prop :=
  ∃ k : Int, o = { rs := [.int .i64 k], u := [(id, some (rdObj bs (q + 1)))] } ∧ k ∈ l
theorem num_ok (id lid : Nat) (bs : List Nat) (q : Int) (l : List Int) (n : Nat) (hn : l.length = n) (hn0 : 0 < n) (hn1 : n ≤ 1000) (hne : id ≠ lid) (hbs : Bs bs) (hq0 : 0 ≤ q) (hq : q ≤ 1099511627776) :
    CallF Tryz.prog 46 [.ptr id 0, .sl 3 lid 0 n] [(id, rdObj bs q), (lid, .cells 3 (ints l))] 0 (numO id bs q l) := by
  refine callF_of' Tryz.func46 rfl Tryz.ntmps46 (by simp) ?_
  intro f0 B ns Q hB hns hQ
  have hid : id < B := hB id (by simp [hasKey, lk])
  have hlid : lid < B := hB lid (by simp [hasKey, lk, hne])
  obtain rfl : ns = [] := List.eq_nil_of_length_eq_zero hns
  refine wpM_seq ?_
  refine wpM_regionK [0, 1] rfl ?_; intro Q1 hQ1
  simp -implicitDefEqProofs (disch := omega) only [go_sem]
  refine hQ1 _ _ ?_
  simp -implicitDefEqProofs (disch := omega) only [go_sem]
  refine wpM_seq ?_
  refine wpM_regionK [4] rfl ?_; intro Q1 hQ1
  simp -implicitDefEqProofs (disch := omega) only [go_sem]
  refine call_fn (pick_ok id bs q n hbs hq0 hq (by omega)) Tryz.call44 rfl rfl rfl rfl T_ ?_
  rintro out ⟨k, rfl, k1, k2, k3⟩
  simp -implicitDefEqProofs (disch := omega) only [go_sem, hne, Nat.mul_one]
  refine hQ1 _ _ ?_
  simp -implicitDefEqProofs (disch := omega) only [go_sem]
  refine wpM_ret (hQ _ _ (ret0 [(id, some (rdObj bs (q + 1)))] rfl rfl rfl (by rw [Tryz.results46]; rfl) ⟨_, rfl, ?_⟩ ?_ ?_ ?_ ?_))
  · rw [List.getD_eq_getElem?_getD, List.getElem?_eq_getElem (by omega)]; exact List.getElem_mem _
  all_goals simp -implicitDefEqProofs (disch := omega) only [go_sem, hne, rdObj]
theorem u8s_take (l : List Nat) (k : Nat) : (u8s l).take k = u8s (l.take k) := by simp [u8s]
def openO (code : List Nat) (ns : List Nat) (o : COut) : Prop :=
  ∃ j bs, ns = [j] ∧ Bs bs ∧ o = { rs := [.ptr j 0], nw := [(j, rdObj bs 0)] } ∧ bs = code.take 2000
theorem open_ok (code : List Nat) (hc : ∀ x ∈ code, x < 256) (hl : code.length ≤ 1099511627776) :
    CallF Tryz.prog 20 [.rows 5 (u8s code)] [] 1 (openO code) := by
  refine callF_of' Tryz.func20 rfl Tryz.ntmps20 (by simp) ?_
  intro f0 B ns Q hB hns hQ
  obtain ⟨j, rfl⟩ : ∃ j, ns = [j] := by
    match ns, hns with
    | [j], _ => exact ⟨j, rfl⟩
  have hbs : Bs (code.take 2000) := ⟨fun x hx => hc x (List.mem_of_mem_take hx), by simp; omega⟩
  refine wpM_seq ?_
  refine wpM_regionK [0] rfl ?_; intro Q1 hQ1
  simp -implicitDefEqProofs (disch := omega) only [go_sem]
  refine hQ1 _ _ ?_
  simp -implicitDefEqProofs (disch := omega) only [go_sem]
  refine wpM_cut (fun s => s = ⟨[(0, .rows 5 (u8s (code.take 2000)))], [], f0, B, B, []⟩) ?_ ?_
  · refine wpM_seq ?_
    refine wpM_regionK [0, 5] rfl ?_; intro Q1 hQ1
    simp -implicitDefEqProofs (disch := omega) only [go_sem]
    refine hQ1 _ _ ?_
    simp -implicitDefEqProofs (disch := omega) only [go_sem]
    refine wpM_condK ?_
    simp -implicitDefEqProofs (disch := omega) only [go_sem]
    refine ⟨fun h => ?_, fun h => ?_⟩
    · refine wpM_regionK [0] rfl ?_; intro Q1 hQ1
      simp -implicitDefEqProofs (disch := omega) only [go_sem, u8s_take]
      refine hQ1 _ _ ?_
      simp -implicitDefEqProofs (disch := omega) only [go_sem]
      refine .of rfl ?_ ?_ ?_ rfl rfl (Nat.le_refl _) rfl <;> simp -implicitDefEqProofs (disch := omega) only [go_sem, u8s_take, Int.reduceToNat]
    · refine wpM_skip ?_
      simp -implicitDefEqProofs (disch := omega) only [go_sem]
      have e : code.take 2000 = code := List.take_of_length_le (by omega)
      rw [e]
      refine .of rfl ?_ ?_ ?_ rfl rfl (Nat.le_refl _) rfl <;> simp -implicitDefEqProofs (disch := omega) only [go_sem]
  rintro s' rfl
  refine wpM_seq ?_
  refine wpM_regionK [2] rfl ?_; intro Q1 hQ1
  simp -implicitDefEqProofs (disch := omega) only [go_sem]
  refine hQ1 _ _ ?_
  simp -implicitDefEqProofs (disch := omega) only [go_sem]
  refine wpM_ret (hQ _ _ (retK [B] [] [(j, rdObj (code.take 2000) 0)] rfl rfl rfl (by rw [Tryz.results20]; rfl) ?_ ⟨j, _, rfl, hbs, rfl, rfl⟩ ?_ ?_ ?_ ?_ ?_ ?_))
  all_goals simp -implicitDefEqProofs (disch := omega) only [go_sem, rdObj, List.nodup_cons, List.nodup_nil]
end Go.Proofs.YtmicbfojofcigaaGreat
namespace Go.Proofs.YtmicbfojofcigaaGreat
open Go Sg
set_option maxRecDepth 100000
set_option linter.unusedSectionVars false
class Tab extends Glob where
  pw : List Int
  hlen : pw.length = 20
  tab0 : tab 0 = some (pw.map (.int .u64))
variable [Tab]
@[go_sem] theorem tab_pw : Glob.tab 0 = some (Tab.pw.map (.int .u64)) := Tab.tab0
end Go.Proofs.YtmicbfojofcigaaGreat
namespace Go.Proofs.YtmicbfojofcigaaGreat
open Go Sg
set_option linter.unusedSectionVars false
variable [Glob]
set_option maxRecDepth 100000
set_option linter.unusedSimpArgs false
set_option linter.unusedVariables false
set_option maxHeartbeats 4000000
def cut (n : Int) : Int := max (-1000000) (min 1000000 n)
theorem l1Max_ok (a b : Int) : PureF Tryz.prog 40 [.int .i64 a, .int .i64 b] [.int .i64 (max a b)] := by
  refine pureF_of Tryz.func40 rfl Tryz.ntmps40 (by simp) T_ ?_
  intro f0 B Q hQ
  refine g_ [0,1] ?_
  refine g_ [0,1,7] ?_
  refine c_ (fun hc0 => ?_) fun hc0 => ?_
  ·
    refine g_ [4] ?_
    refine e_ Tryz.results40 ?_
    first
    | exact True.intro
    | omega
  refine g_ [4] ?_
  refine e_ Tryz.results40 ?_
  first
  | exact True.intro
  | omega
theorem l1Min_ok (a b : Int) : PureF Tryz.prog 87 [.int .i64 a, .int .i64 b] [.int .i64 (min a b)] := by
  refine pureF_of Tryz.func87 rfl Tryz.ntmps87 (by simp) T_ ?_
  intro f0 B Q hQ
  refine g_ [0,1] ?_
  refine g_ [0,1,7] ?_
  refine c_ (fun hc0 => ?_) fun hc0 => ?_
  ·
    refine g_ [4] ?_
    refine e_ Tryz.results87 ?_
    first
    | exact True.intro
    | omega
  refine g_ [4] ?_
  refine e_ Tryz.results87 ?_
  first
  | exact True.intro
  | omega
theorem cut_ok (n : Int) : PureF Tryz.prog 52 [.int .i64 n] [.int .i64 (cut n)] := by
  refine pureF_of Tryz.func52 rfl Tryz.ntmps52 (by simp) T_ ?_
  intro f0 B Q hQ
  refine g_ [0] ?_
  refine n_ ?_
  refine wpM_regionK [2] rfl fun Q1 hQ1 => ?_
  refine S_ ?_
  refine cp_ (l1Min_ok 1000000 n) Tryz.call87 ?_
  refine cp_ (l1Max_ok (-1000000) (min 1000000 n)) Tryz.call40 ?_
  refine hQ1 _ _ (S_ ?_);clear hQ1 Q1
  refine e_ Tryz.results52 ?_
  first
  | exact True.intro
  | rfl
structure AD where
  kind : Int
  at' : Int
  deriving DecidableEq, Inhabited
def AD.cs (a : AD) : List PV := [.int .i64 a.kind, .int .i64 a.at']
@[go_sem] theorem AD.cs_eq (a : AD) : a.cs = [.int .i64 a.kind, .int .i64 a.at'] := rfl
theorem eqAD (d : Nat) (a b c e : Int) : eqA Tryz.prog (d + 2) 24 (.agg [.int .i64 a, .int .i64 b]) (.agg [.int .i64 c, .int .i64 e]) = some (a == c && b == e) := by
  unfold eqA
  simp only [Tryz.underlying24, Tryz.stoodInHeld24, Bool.false_eq_true, if_false, eqFs]
  simp -implicitDefEqProofs (disch := omega) only [go_sem, eqA, eqFs, ne_eq, String.reduceEq]
  cases h1 : a == c <;> cases h2 : b == e <;> simp [eqA, Tryz.underlying3, h1, h2]
@[go_sem] theorem neqAD (x y : Operand) (a b c e : Int) : binOpA Tryz.prog .neq 24 x y (.agg [.int .i64 a, .int .i64 b]) (.agg [.int .i64 c, .int .i64 e]) = some (.bool (!(a == c && b == e))) := by
  simp only [binOpA, Tryz.eqGuardType24]
  rw [eqAD 9998]; rfl
@[go_sem] theorem eqlAD (x y : Operand) (a b c e : Int) : binOpA Tryz.prog .eql 24 x y (.agg [.int .i64 a, .int .i64 b]) (.agg [.int .i64 c, .int .i64 e]) = some (.bool (a == c && b == e)) := by
  simp only [binOpA, Tryz.eqGuardType24]
  rw [eqAD 9998]; rfl
def AD.ok (a : AD) : Bool := decide (a.kind ≥ 1) && decide (a.kind ≤ 3) && decide (a.at' ≥ 0) && decide (a.at' < 6)
theorem addrOk_ok (a : AD) : PureF Tryz.prog 53 [.agg a.cs] [.bool a.ok] := by
  refine pureF_of Tryz.func53 rfl Tryz.ntmps53 (by simp) T_ ?_
  intro f0 B Q hQ
  refine g_ [1] ?_
  refine gD_ [2] ?_
  refine e_ Tryz.results53 ?_
  first
  | exact True.intro
  | rfl
inductive Ex where
  | mk (kind n : Int) (a : AD) (kids : List Ex)
  deriving Inhabited
def Ex.kind : Ex → Int | .mk k _ _ _ => k
def Ex.n : Ex → Int | .mk _ n _ _ => n
def Ex.a : Ex → AD | .mk _ _ a _ => a
def Ex.kids : Ex → List Ex | .mk _ _ _ l => l
mutual
def Ex.cs : Ex → List PV
  | .mk k n a l => [.int .i64 k, .int .i64 n, .int .i64 a.kind, .int .i64 a.at', .rows 27 (Ex.csL l)]
def Ex.csL : List Ex → List (List PV)
  | [] => []
  | e :: l => e.cs :: Ex.csL l
end
@[go_sem] theorem Ex.cs_eq (e : Ex) : e.cs = [.int .i64 e.kind, .int .i64 e.n, .int .i64 e.a.kind, .int .i64 e.a.at', .rows 27 (Ex.csL e.kids)] := by cases e; simp only [Ex.cs, Ex.kind, Ex.n, Ex.a, Ex.kids]
theorem Ex.csL_map (l : List Ex) : Ex.csL l = l.map Ex.cs := by
  induction l with
  | nil => rfl
  | cons e l ih => simp [Ex.csL, ih]
@[go_sem] theorem Ex.csL_len (l : List Ex) : (Ex.csL l).length = l.length := by simp [Ex.csL_map]
@[go_sem] theorem Ex.csL_get (l : List Ex) (k : Nat) (h : k < l.length) : (Ex.csL l).getD k [] = (l.getD k default).cs := by simp [Ex.csL_map, List.getD, h]
def kidsN (k : Int) : Int := if k == 1 || k == 2 then 0 else if k == 10 then 1 else if decide (k ≥ 3) && decide (k ≤ 9) then 2 else -1
theorem l3Kids_ok (k : Int) : PureF Tryz.prog 51 [.int .i64 k] [.int .i64 (kidsN k)] := by
  refine pureF_of Tryz.func51 rfl Tryz.ntmps51 (by simp) T_ ?_
  intro f0 B Q hQ
  refine g_ [0] ?_
  refine gD_ [0,3] ?_
  refine c_ (fun hc0 => ?_) fun hc0 => ?_
  ·
    refine g_ [2] ?_
    refine e_ Tryz.results51 ?_
    first
    | exact True.intro
    | simp [kidsN, *]
  refine g_ [0,10] ?_
  refine c_ (fun hc1 => ?_) fun hc1 => ?_
  ·
    refine g_ [2] ?_
    refine e_ Tryz.results51 ?_
    first
    | exact True.intro
    | simp [kidsN, *]
  refine gD_ [13] ?_
  refine c_ (fun hc2 => ?_) fun hc2 => ?_
  ·
    refine g_ [2] ?_
    refine e_ Tryz.results51 ?_
    first
    | exact True.intro
    | simp [kidsN, *]
  refine g_ [2] ?_
  refine e_ Tryz.results51 ?_
  first
  | exact True.intro
  | simp [kidsN, *]
end Go.Proofs.YtmicbfojofcigaaGreat
namespace Go.Proofs.YtmicbfojofcigaaGreat
open Go Sg
set_option linter.unusedSectionVars false
variable [Glob]
set_option maxRecDepth 100000
set_option linter.unusedSimpArgs false
set_option linter.unusedVariables false
set_option maxHeartbeats 4000000
mutual
def Ex.sz : Ex → Nat | .mk _ _ _ l => 1 + Ex.szL l
def Ex.szL : List Ex → Nat | [] => 0 | e :: l => e.sz + Ex.szL l
end
theorem Ex.sz_eq (e : Ex) : e.sz = 1 + Ex.szL e.kids := by cases e; simp only [Ex.sz, Ex.kids]
theorem Ex.sz_pos (e : Ex) : 0 < e.sz := by rw [Ex.sz_eq]; omega
theorem Ex.len_szL (l : List Ex) : l.length ≤ Ex.szL l := by
  induction l with
  | nil => simp
  | cons e l ih => simp only [List.length_cons, Ex.szL]; have := e.sz_pos; omega
theorem Ex.get_szL (l : List Ex) (k : Nat) (h : k < l.length) : (l.getD k default).sz ≤ Ex.szL l := by
  induction l generalizing k with
  | nil => simp at h
  | cons e l ih =>
    simp only [Ex.szL]
    cases k with
    | zero => simp
    | succ k =>
      have := ih k (by simpa using h)
      simp only [List.getD_cons_succ]; omega
theorem Ex.kid_sz {e : Ex} {k : Nat} (h : k < e.kids.length) : (e.kids.getD k default).sz < e.sz := by
  have := Ex.get_szL e.kids k h
  rw [Ex.sz_eq e]; omega
theorem Ex.kids_len (e : Ex) : e.kids.length < e.sz := by
  have := Ex.len_szL e.kids
  rw [Ex.sz_eq e]; omega
def formD : Nat → Ex → Bool
  | 0, _ => false
  | d + 1, e => if kidsN e.kind != (e.kids.length : Int) then false
    else if (e.kind == 1 && cut e.n != e.n) || (e.kind != 1 && e.n != 0) then false
    else if (e.kind == 2 && !e.a.ok) || (e.kind != 2 && !(e.a.kind == 0 && e.a.at' == 0)) then false
    else e.kids.all (formD d)
theorem take_all {α : Type} [Inhabited α] (p : α → Bool) (l : List α) (i : Nat) (h : i < l.length) : (l.take (i + 1)).all p = ((l.take i).all p && p (l.getD i default)) := by
  rw [List.take_succ_eq_append_getElem h, List.all_append]
  simp [List.getD, h]
theorem all_no {α : Type} [Inhabited α] {p : α → Bool} {l : List α} {i : Nat} (h : i < l.length) (hp : (!p (l.getD i default)) = true) : l.all p = false := by
  rw [List.all_eq_false]
  refine ⟨l.getD i default, ?_, by simpa using hp⟩
  rw [List.getD_eq_getElem?_getD, List.getElem?_eq_getElem h]; exact List.getElem_mem h
theorem all_yes {α : Type} [Inhabited α] {p : α → Bool} {l : List α} {i n : Nat} (hi : i + n = l.length) (h : ¬ (i : Int) < (l.length : Int)) (hp : (l.take i).all p = true) : l.all p = true := by
  have : i = l.length := by omega
  rwa [List.take_of_length_le (by omega)] at hp
theorem l3Form_ok (d : Nat) : ∀ (e : Ex) (deep : Int), deep.toNat = d → deep ≤ 1000000 → e.sz ≤ 1099511627776 → PureF Tryz.prog 26 [.agg e.cs, .int .i64 deep] [.bool (formD d e)] := by
  induction d with
  | zero =>
    intro e deep hd hdl hs
    have hlen := e.kids_len
    refine pureF_of Tryz.func26 rfl Tryz.ntmps26 (by simp) T_ ?_
    intro f0 B Q hQ
    have hlt : deep < 1 := by omega
    refine g_ [1,2] ?_
    refine n_ ?_
    refine dr_ mixed [1,2,16] 0 1 [B] [⟨[1],[],[],[],false⟩,⟨[6],[],[],[],false⟩,⟨[7],[],[],[],false⟩,⟨[2,8],[],[],[],false⟩,⟨[8,9],[0],[],[],false⟩,⟨[8,10],[],[],[],true⟩,⟨[2,8],[],[],[],false⟩,⟨[8,12],[0],[],[],false⟩,⟨[8,13],[],[],[],false⟩,⟨[8,11,14],[],[],[],false⟩,⟨[8,15],[],[],[],false⟩] [0,1,2,3,4,6,7,8,5,9,10] [[],[0],[0,1],[0,1,2],[0,1,2,3],[0,1,2,3,4],[0,1,2],[0,1,2,6],[0,1,2,6,7],[0,1,2,3,4,5,6,7,8],[0,1,2,3,4,5,6,7,8,9]] 1 ?_
    intro O A K hO hA hK;simp only [atL_cons,atL_nil,Nat.reduceAdd,Nat.zero_add] at hO hA
    refine SE_ ?_
    first | refine lg_ (fun hb => l3Kids_ok e.kind) Tryz.call51 ?_ | refine lpE_ (l3Kids_ok e.kind) Tryz.call51 ?_
    refine hK _ (S_ ?_);clear hK K hO hA O A
    refine c_ (fun hc0 => ?_) fun hc0 => ?_
    ·
      refine g_ [4] ?_
      refine e_ Tryz.results26 ?_
      first
      | exact True.intro
      | rfl
    simp [hlt] at hc0
  | succ d ih =>
    intro e deep hd hdl hs
    have hlen := e.kids_len
    refine pureF_of Tryz.func26 rfl Tryz.ntmps26 (by simp) T_ ?_
    intro f0 B Q hQ
    have hlt : decide (deep < 1) = false := by simp; omega
    refine g_ [1,2] ?_
    refine n_ ?_
    refine dr_ mixed [1,2,16] 0 1 [B] [⟨[1],[],[],[],false⟩,⟨[6],[],[],[],false⟩,⟨[7],[],[],[],false⟩,⟨[2,8],[],[],[],false⟩,⟨[8,9],[0],[],[],false⟩,⟨[8,10],[],[],[],true⟩,⟨[2,8],[],[],[],false⟩,⟨[8,12],[0],[],[],false⟩,⟨[8,13],[],[],[],false⟩,⟨[8,11,14],[],[],[],false⟩,⟨[8,15],[],[],[],false⟩] [0,1,2,3,4,6,7,8,5,9,10] [[],[0],[0,1],[0,1,2],[0,1,2,3],[0,1,2,3,4],[0,1,2],[0,1,2,6],[0,1,2,6,7],[0,1,2,3,4,5,6,7,8],[0,1,2,3,4,5,6,7,8,9]] 1 ?_
    intro O A K hO hA hK;simp only [atL_cons,atL_nil,Nat.reduceAdd,Nat.zero_add] at hO hA
    refine SE_ ?_
    first | refine lg_ (fun hb => l3Kids_ok e.kind) Tryz.call51 ?_ | refine lpE_ (l3Kids_ok e.kind) Tryz.call51 ?_
    refine hK _ (S_ ?_);clear hK K hO hA O A
    refine c_ (fun hc0 => ?_) fun hc0 => ?_
    ·
      rw [hlt, Bool.false_or] at hc0
      refine g_ [4] ?_
      refine e_ Tryz.results26 ?_
      first
      | exact True.intro
      | clear ih hQ
        simp only [formD, *, ↓reduceIte, Bool.false_eq_true] <;> first | exact (all_no hi2 hc4).symm | exact (all_yes hi hc3 hall).symm
    rw [hlt, Bool.false_or] at hc0
    refine n_ ?_
    refine dr_ mixed [1,2,37] 0 1 [B] [⟨[2],[],[],[],false⟩,⟨[17],[0],[],[],false⟩,⟨[18],[],[],[],false⟩,⟨[19],[],[],[],false⟩,⟨[2,20],[],[],[],false⟩,⟨[20,21],[0],[],[],false⟩,⟨[20,22],[],[],[],true⟩,⟨[2,20],[],[],[],false⟩,⟨[20,24],[0],[],[],false⟩,⟨[20,23,25],[],[],[],false⟩,⟨[20,26],[],[],[],false⟩,⟨[27],[],[],[],false⟩,⟨[2,28],[],[],[],false⟩,⟨[28,29],[0],[],[],false⟩,⟨[28,30],[],[],[],false⟩,⟨[28,31],[],[],[],false⟩,⟨[2,32],[],[],[],false⟩,⟨[32,33],[0],[],[],false⟩,⟨[32,34],[],[],[],false⟩,⟨[28,32,35],[],[],[],false⟩,⟨[28,36],[],[],[],false⟩] [0,1,2,3,4,5,7,8,6,9,10,11,12,13,14,15,16,17,18,19,20] [[],[0],[0,1],[0,1,2],[0,1,2,3],[0,1,2,3,4],[0,1,2,3,4,5],[0,1,2,3],[0,1,2,3,7],[0,1,2,3,4,5,6,7,8],[0,1,2,3,4,5,6,7,8,9],[0,1,2,3,4,5,6,7,8,9,10],[0,1,2,3,4,5,6,7,8,9,10,11],[0,1,2,3,4,5,6,7,8,9,10,11,12],[0,1,2,3,4,5,6,7,8,9,10,11,12,13],[0,1,2,3,4,5,6,7,8,9,10,11,12,13,14],[0,1,2,3,4,5,6,7,8,9,10,11,12,13,14,15],[0,1,2,3,4,5,6,7,8,9,10,11,12,13,14,15,16],[0,1,2,3,4,5,6,7,8,9,10,11,12,13,14,15,16,17],[0,1,2,3,4,5,6,7,8,9,10,11,12,13,14,15,16,17,18],[0,1,2,3,4,5,6,7,8,9,10,11,12,13,14,15,16,17,18,19]] 1 ?_
    intro O A K hO hA hK;simp only [atL_cons,atL_nil,Nat.reduceAdd,Nat.zero_add] at hO hA
    refine SE_ ?_
    first | refine lg_ (fun hb => cut_ok e.n) Tryz.call52 ?_ | refine lpE_ (cut_ok e.n) Tryz.call52 ?_
    refine hK _ (S_ ?_);clear hK K hO hA O A
    refine c_ (fun hc1 => ?_) fun hc1 => ?_
    ·
      refine g_ [4] ?_
      refine e_ Tryz.results26 ?_
      first
      | exact True.intro
      | clear ih hQ
        simp only [formD, *, ↓reduceIte, Bool.false_eq_true] <;> first | exact (all_no hi2 hc4).symm | exact (all_yes hi hc3 hall).symm
    refine n_ ?_
    refine wpM_regionK [1,2,57] rfl fun Q1 hQ1 => ?_
    refine SD_ ?_
    first | refine cg_ (fun hb => addrOk_ok e.a) Tryz.call53 ?_ | refine cpD_ (addrOk_ok e.a) Tryz.call53 ?_
    refine hQ1 _ _ (S_ ?_);clear hQ1 Q1
    refine c_ (fun hc2 => ?_) fun hc2 => ?_
    ·
      refine g_ [4] ?_
      refine e_ Tryz.results26 ?_
      first
      | exact True.intro
      | clear ih hQ
        simp only [formD, *, ↓reduceIte, Bool.false_eq_true] <;> first | exact (all_no hi2 hc4).symm | exact (all_yes hi hc3 hall).symm
    refine g_ [1,2,5] ?_
    refine n_ ?_
    refine wpM_loopS (fun s n s' => ∃ i M : Nat, i + n = e.kids.length ∧ s.M ≤ M ∧ (e.kids.take i).all (formD d) = true ∧ s' = { s with env := setE 5 (.int .i64 i) s.env, M := M }) (e.kids.length) ?_ ?_
    ·
      refine .of ⟨0, _, by omega, Nat.le_refl _, by simp, rfl⟩ ?_ ?_ ?_ rfl rfl (Nat.le_refl _) rfl <;> exact L_
    rintro n s' ⟨i, M, hi, hM, hall, rfl⟩
    try refine S_ ?_
    refine g_ [1,2,5,62] ?_
    refine c_ (fun hc3 => ?_) fun hc3 => ?_
    ·
      have hi2 : i < e.kids.length := by omega
      refine n_ ?_
      refine wpM_regionK [1,2,5,73] rfl fun Q1 hQ1 => ?_
      refine S_ ?_
      refine cp_ (ih (e.kids.getD i default) (deep - 1) (by omega) (by omega) (by have := Ex.kid_sz hi2; omega)) Tryz.call26 ?_
      refine hQ1 _ _ (S_ ?_);clear hQ1 Q1
      refine c_ (fun hc4 => ?_) fun hc4 => ?_
      ·
        refine g_ [4] ?_
        refine e_ Tryz.results26 ?_
        first
        | exact True.intro
        | clear ih hQ
          simp only [formD, *, ↓reduceIte, Bool.false_eq_true] <;> first | exact (all_no hi2 hc4).symm | exact (all_yes hi hc3 hall).symm
      refine g_ [1,2,5] ?_
      refine .of ⟨n - 1, by omega, i + 1, M, by omega, hM, ?_, rfl⟩ ?_ ?_ ?_ rfl rfl (Nat.le_refl _) rfl
      · rw [take_all _ _ _ hi2, hall]; simp at hc4; simp [hc4]
      all_goals exact L_
    refine g_ [4] ?_
    refine e_ Tryz.results26 ?_
    first
    | exact True.intro
    | clear ih hQ
      simp only [formD, *, ↓reduceIte, Bool.false_eq_true] <;> first | exact (all_no hi2 hc4).symm | exact (all_yes hi hc3 hall).symm
def manyD : Nat → Ex → Nat
  | 0, _ => 1
  | d + 1, e => 1 + (e.kids.map (manyD d)).sum
theorem manyD_le (d : Nat) : ∀ e : Ex, manyD d e ≤ e.sz := by
  induction d with
  | zero => intro e; exact e.sz_pos
  | succ d ih =>
    intro e
    have h : ∀ l : List Ex, (l.map (manyD d)).sum ≤ Ex.szL l := by
      intro l
      induction l with
      | nil => simp [Ex.szL]
      | cons x l ihl => simp only [List.map_cons, List.sum_cons, Ex.szL]; have := ih x; omega
    have := h e.kids
    rw [Ex.sz_eq]; simp only [manyD]; omega
theorem take_sum {α : Type} [Inhabited α] (f : α → Nat) (l : List α) (i : Nat) (h : i < l.length) : ((l.take (i + 1)).map f).sum = ((l.take i).map f).sum + f (l.getD i default) := by
  rw [List.take_succ_eq_append_getElem h, List.map_append, List.sum_append]
  simp [List.getD, h]
theorem take_sum_le {α : Type} (f : α → Nat) (l : List α) (i : Nat) : ((l.take i).map f).sum ≤ (l.map f).sum := by
  have : (l.map f).sum = ((l.take i).map f).sum + ((l.drop i).map f).sum := by rw [← List.sum_append, ← List.map_append, List.take_append_drop]
  omega
theorem l3Many_ok (d : Nat) : ∀ (e : Ex) (deep : Int), deep.toNat = d → deep ≤ 1000000 → e.sz ≤ 1099511627776 → PureF Tryz.prog 27 [.agg e.cs, .int .i64 deep] [.int .i64 (manyD d e : Nat)] := by
  induction d with
  | zero =>
    intro e deep hd hdl hs
    have hlen := e.kids_len
    refine pureF_of Tryz.func27 rfl Tryz.ntmps27 (by simp) T_ ?_
    intro f0 B Q hQ
    have hlt : decide (deep > 0) = false := by simp; omega
    refine g_ [1,2] ?_
    refine g_ [1,2,5] ?_
    refine g_ [1,2,5,6] ?_
    refine n_ ?_
    refine wpM_loopS (fun s n s' => s' = s) (0) ?_ ?_
    ·
      exact .here rfl
    rintro n s' rfl
    try refine S_ ?_
    refine gD_ [1,2,5,6,15] ?_
    refine c_ (fun hc0 => ?_) fun hc0 => ?_
    · simp [hlt] at hc0
    refine g_ [4] ?_
    refine e_ Tryz.results27 ?_
    first
    | exact True.intro
    | rfl
  | succ d ih =>
    intro e deep hd hdl hs
    have hlen := e.kids_len
    refine pureF_of Tryz.func27 rfl Tryz.ntmps27 (by simp) T_ ?_
    intro f0 B Q hQ
    have hlt : decide (deep > 0) = true := by simp; omega
    have hmx := manyD_le (d + 1) e
    refine g_ [1,2] ?_
    refine g_ [1,2,5] ?_
    refine g_ [1,2,5,6] ?_
    refine n_ ?_
    refine wpM_loopS (fun s n s' => ∃ i M : Nat, i + n = e.kids.length ∧ s.M ≤ M ∧ s' = { s with env := setE 6 (.int .i64 (i : Nat)) (setE 5 (.int .i64 ((1 + ((e.kids.take i).map (manyD d)).sum : Nat) : Int)) s.env), M := M }) (e.kids.length) ?_ ?_
    ·
      refine .of ⟨0, _, by omega, Nat.le_refl _, rfl⟩ ?_ ?_ ?_ rfl rfl (Nat.le_refl _) rfl <;> exact L_
    rintro n s' ⟨i, M, hi, hM, rfl⟩
    try refine S_ ?_
    refine n_ ?_
    refine wpM_regionK [1,2,5,6,15] rfl fun Q1 hQ1 => ?_
    simp (contextual := true) (maxSteps := 1000000) (implicitDefEqProofs := false) (disch := first | omega | (simp only [decide_eq_true_eq, decide_eq_false_iff_not, Bool.and_eq_true, Bool.or_eq_false_iff, Bool.not_eq_true'] at *; omega)) only [go_sem, hlt, Bool.and_true]
    refine hQ1 _ _ (S_ ?_);clear hQ1 Q1
    refine c_ (fun hc0 => ?_) fun hc0 => ?_
    ·
      have hi2 : i < e.kids.length := by omega
      have hsum := take_sum (manyD d) e.kids i hi2
      have hle := take_sum_le (manyD d) e.kids (i + 1)
      simp only [manyD] at hmx
      rw [hsum] at hle
      refine n_ ?_
      refine wpM_regionK [1,2,5,6] rfl fun Q1 hQ1 => ?_
      refine S_ ?_
      refine cp_ (ih (e.kids.getD i default) (deep - 1) (by omega) (by omega) (by have := Ex.kid_sz hi2; omega)) Tryz.call27 ?_
      refine hQ1 _ _ (S_ ?_);clear hQ1 Q1
      refine g_ [1,2,5,6] ?_
      refine .of ⟨n - 1, by omega, i + 1, M, by omega, hM, rfl⟩ ?_ ?_ ?_ rfl rfl (Nat.le_refl _) rfl
      · simp -implicitDefEqProofs (disch := omega) only [go_sem, PV.int.injEq]
        rw [hsum]
        constructor <;> omega
      all_goals exact L_
    refine g_ [4] ?_
    refine e_ Tryz.results27 ?_
    first
    | exact True.intro
    | have hie : i = e.kids.length := by omega
      simp only [manyD]
      rw [hie, List.take_of_length_le (Nat.le_refl _)]
def Ex.ok (e : Ex) : Bool := formD 6 e && decide (manyD 6 e ≤ 14)
theorem exprOk_ok (e : Ex) (hs : e.sz ≤ 1099511627776) : PureF Tryz.prog 9 [.agg e.cs] [.bool e.ok] := by
  refine pureF_of Tryz.func9 rfl Tryz.ntmps9 (by simp) T_ ?_
  intro f0 B Q hQ
  refine g_ [1] ?_
  refine n_ ?_
  refine wpM_regionK [2] rfl fun Q1 hQ1 => ?_
  refine SD_ ?_
  refine cpD_ (l3Form_ok 6 e 6 rfl (by omega) hs) Tryz.call26 ?_
  first | refine cg_ (fun hb => l3Many_ok 6 e 6 rfl (by omega) hs) Tryz.call27 ?_ | refine cpD_ (l3Many_ok 6 e 6 rfl (by omega) hs) Tryz.call27 ?_
  refine hQ1 _ _ (S_ ?_);clear hQ1 Q1
  refine e_ Tryz.results9 ?_
  first
  | exact True.intro
  | have : decide ((manyD 6 e : Int) ≤ 14) = decide (manyD 6 e ≤ 14) := by simp; omega
    simp only [Ex.ok, this]
end Go.Proofs.YtmicbfojofcigaaGreat
namespace Go.Proofs.YtmicbfojofcigaaGreat
open Go Sg
set_option linter.unusedSectionVars false
variable [Glob]
set_option maxRecDepth 100000
set_option linter.unusedSimpArgs false
set_option linter.unusedVariables false
set_option maxHeartbeats 4000000
def rowsI (l : List Int) : List (List PV) := l.map fun x => [.int .i64 x]
def rowsB (l : List Bool) : List (List PV) := l.map fun x => [.bool x]
@[go_sem] theorem rowsI_len (l : List Int) : (rowsI l).length = l.length := by simp [rowsI]
@[go_sem] theorem rowsI_getD (l : List Int) (k : Nat) (h : k < l.length) : (rowsI l).getD k [] = [.int .i64 (l.getD k 0)] := by simp [rowsI, List.getD, h]
@[go_sem] theorem rowsB_len (l : List Bool) : (rowsB l).length = l.length := by simp [rowsB]
@[go_sem] theorem rowsB_getD (l : List Bool) (k : Nat) (h : k < l.length) : (rowsB l).getD k [] = [.bool (l.getD k false)] := by simp [rowsB, List.getD, h]
structure MM where
  i : List Int
  o : List Int
  v : List Int
  deriving DecidableEq, Inhabited
def MM.cs (m : MM) : List PV := [.rows 3 (rowsI m.i), .rows 3 (rowsI m.o), .rows 3 (rowsI m.v)]
@[go_sem] theorem MM.cs_eq (m : MM) : m.cs = [.rows 3 (rowsI m.i), .rows 3 (rowsI m.o), .rows 3 (rowsI m.v)] := rfl
def listOk (l : List Int) : Bool := l.all (fun x => !(cut x != x)) && (l.length : Int) == 6
theorem take_all' {α : Type} (p : α → Bool) (l : List α) (z : α) (i : Nat) (h : i < l.length) : (l.take (i + 1)).all p = ((l.take i).all p && p (l.getD i z)) := by
  rw [List.take_succ_eq_append_getElem h, List.all_append]
  simp [List.getD, h]
theorem all_no' {α : Type} {p : α → Bool} {l : List α} {z : α} {i : Nat} (h : i < l.length) (hp : p (l.getD i z) = false) : l.all p = false := by
  rw [List.all_eq_false]
  refine ⟨l.getD i z, ?_, by simpa using hp⟩
  rw [List.getD_eq_getElem?_getD, List.getElem?_eq_getElem h]; exact List.getElem_mem h
theorem all_yes' {α : Type} {p : α → Bool} {l : List α} {i n : Nat} (hi : i + n = l.length) (h : ¬ (i : Int) < (l.length : Int)) (hp : (l.take i).all p = true) : l.all p = true := by
  have : i = l.length := by omega
  rwa [List.take_of_length_le (by omega)] at hp
def MM.ok (m : MM) : Bool := listOk m.i && listOk m.o && listOk m.v
structure MM.Sm (m : MM) : Prop where
  i : m.i.length ≤ 1099511627776
  o : m.o.length ≤ 1099511627776
  v : m.v.length ≤ 1099511627776
theorem add_ok (a b : Int) : PureF Tryz.prog 103 [.int .i64 a, .int .i64 b] [.int .i64 (cut (cut a + cut b))] := by
  have ha : -1000000 ≤ cut a ∧ cut a ≤ 1000000 := by unfold cut; omega
  have hb : -1000000 ≤ cut b ∧ cut b ≤ 1000000 := by unfold cut; omega
  refine pureF_of Tryz.func103 rfl Tryz.ntmps103 (by simp) T_ ?_
  intro f0 B Q hQ
  refine g_ [0,1] ?_
  refine n_ ?_
  refine wpM_regionK [4] rfl fun Q1 hQ1 => ?_
  refine S_ ?_
  refine cp_ (cut_ok a) Tryz.call52 ?_
  refine cp_ (cut_ok b) Tryz.call52 ?_
  refine cp_ (cut_ok (cut a + cut b)) Tryz.call52 ?_
  refine hQ1 _ _ (S_ ?_);clear hQ1 Q1
  refine e_ Tryz.results103 ?_
  first
  | exact True.intro
  | rfl
end Go.Proofs.YtmicbfojofcigaaGreat
namespace Go.Proofs.YtmicbfojofcigaaGreat
open Go Sg
set_option linter.unusedSectionVars false
variable [Glob]
set_option maxRecDepth 100000
set_option linter.unusedSimpArgs false
set_option linter.unusedVariables false
set_option maxHeartbeats 4000000
theorem cut_bd (a : Int) : -1000000 ≤ cut a ∧ cut a ≤ 1000000 := by unfold cut; omega
theorem cut_mul (a b : Int) : -1000000000000 ≤ cut a * cut b ∧ cut a * cut b ≤ 1000000000000 := by
  have ha := cut_bd a
  have hb := cut_bd b
  have h1 : (cut a * cut b).natAbs ≤ 1000000 * 1000000 := by
    rw [Int.natAbs_mul]
    exact Nat.mul_le_mul (by omega) (by omega)
  omega
theorem sub_ok (a b : Int) : PureF Tryz.prog 104 [.int .i64 a, .int .i64 b] [.int .i64 (cut (cut a - cut b))] := by
  have ha := cut_bd a
  have hb := cut_bd b
  refine pureF_of Tryz.func104 rfl Tryz.ntmps104 (by simp) T_ ?_
  intro f0 B Q hQ
  refine g_ [0,1] ?_
  refine n_ ?_
  refine wpM_regionK [4] rfl fun Q1 hQ1 => ?_
  refine S_ ?_
  refine cp_ (cut_ok a) Tryz.call52 ?_
  refine cp_ (cut_ok b) Tryz.call52 ?_
  refine cp_ (cut_ok (cut a - cut b)) Tryz.call52 ?_
  refine hQ1 _ _ (S_ ?_);clear hQ1 Q1
  refine e_ Tryz.results104 ?_
  first
  | exact True.intro
  | rfl
theorem mul_ok (a b : Int) : PureF Tryz.prog 105 [.int .i64 a, .int .i64 b] [.int .i64 (cut (cut a * cut b))] := by
  have ha := cut_mul a b
  refine pureF_of Tryz.func105 rfl Tryz.ntmps105 (by simp) T_ ?_
  intro f0 B Q hQ
  refine g_ [0,1] ?_
  refine n_ ?_
  refine wpM_regionK [4] rfl fun Q1 hQ1 => ?_
  refine S_ ?_
  refine cp_ (cut_ok a) Tryz.call52 ?_
  refine cp_ (cut_ok b) Tryz.call52 ?_
  refine cp_ (cut_ok (cut a * cut b)) Tryz.call52 ?_
  refine hQ1 _ _ (S_ ?_);clear hQ1 Q1
  refine e_ Tryz.results105 ?_
  first
  | exact True.intro
  | rfl
def numIs (b : Bool) : Int := if b then 1 else 0
theorem is_ok (b : Bool) : PureF Tryz.prog 48 [.bool b] [.int .i64 (numIs b)] := by
  refine pureF_of Tryz.func48 rfl Tryz.ntmps48 (by simp) T_ ?_
  intro f0 B Q hQ
  refine g_ [0] ?_
  refine g_ [3] ?_
  refine c_ (fun hc0 => ?_) fun hc0 => ?_
  ·
    refine g_ [2] ?_
    refine e_ Tryz.results48 ?_
    first
    | exact True.intro
    | simp [numIs, *]
  refine g_ [2] ?_
  refine e_ Tryz.results48 ?_
  first
  | exact True.intro
  | simp [numIs, *]
theorem on_ok (a : Int) : PureF Tryz.prog 49 [.int .i64 a] [.bool (a != 0)] := by
  refine pureF_of Tryz.func49 rfl Tryz.ntmps49 (by simp) T_ ?_
  intro f0 B Q hQ
  refine g_ [0] ?_
  refine g_ [2] ?_
  refine e_ Tryz.results49 ?_
  first
  | exact True.intro
  | rfl
def two (k a b : Int) : Int := if k == 3 then cut (cut a + cut b) else if k == 4 then cut (cut a - cut b) else if k == 5 then cut (cut a * cut b)
  else if k == 6 then numIs (decide (a < b)) else if k == 7 then numIs (a == b) else if k == 8 then numIs (a != 0 && b != 0) else numIs (a != 0 || b != 0)
theorem two_ok (k a b : Int) : PureF Tryz.prog 84 [.int .i64 k, .int .i64 a, .int .i64 b] [.int .i64 (two k a b)] := by
  refine pureF_of Tryz.func84 rfl Tryz.ntmps84 (by simp) T_ ?_
  intro f0 B Q hQ
  refine g_ [0,1,2] ?_
  refine g_ [1,2,7] ?_
  refine g_ [1,2,7,8] ?_
  refine c_ (fun hc0 => ?_) fun hc0 => ?_
  ·
    refine n_ ?_
    refine wpM_regionK [6] rfl fun Q1 hQ1 => ?_
    refine S_ ?_
    refine cp_ (add_ok a b) Tryz.call103 ?_
    refine hQ1 _ _ (S_ ?_);clear hQ1 Q1
    refine e_ Tryz.results84 ?_
    first
    | exact True.intro
    | simp only [two, *, ↓reduceIte, Bool.false_eq_true]
  refine g_ [1,2,7,13] ?_
  refine c_ (fun hc1 => ?_) fun hc1 => ?_
  ·
    refine n_ ?_
    refine wpM_regionK [6] rfl fun Q1 hQ1 => ?_
    refine S_ ?_
    refine cp_ (sub_ok a b) Tryz.call104 ?_
    refine hQ1 _ _ (S_ ?_);clear hQ1 Q1
    refine e_ Tryz.results84 ?_
    first
    | exact True.intro
    | simp only [two, *, ↓reduceIte, Bool.false_eq_true]
  refine g_ [1,2,7,18] ?_
  refine c_ (fun hc2 => ?_) fun hc2 => ?_
  ·
    refine n_ ?_
    refine wpM_regionK [6] rfl fun Q1 hQ1 => ?_
    refine S_ ?_
    refine cp_ (mul_ok a b) Tryz.call105 ?_
    refine hQ1 _ _ (S_ ?_);clear hQ1 Q1
    refine e_ Tryz.results84 ?_
    first
    | exact True.intro
    | simp only [two, *, ↓reduceIte, Bool.false_eq_true]
  refine g_ [1,2,7,23] ?_
  refine c_ (fun hc3 => ?_) fun hc3 => ?_
  ·
    refine n_ ?_
    refine wpM_regionK [6] rfl fun Q1 hQ1 => ?_
    refine S_ ?_
    refine cp_ (is_ok (decide (a < b))) Tryz.call48 ?_
    refine hQ1 _ _ (S_ ?_);clear hQ1 Q1
    refine e_ Tryz.results84 ?_
    first
    | exact True.intro
    | simp only [two, *, ↓reduceIte, Bool.false_eq_true]
  refine g_ [1,2,7,29] ?_
  refine c_ (fun hc4 => ?_) fun hc4 => ?_
  ·
    refine n_ ?_
    refine wpM_regionK [6] rfl fun Q1 hQ1 => ?_
    refine S_ ?_
    refine cp_ (is_ok (a == b)) Tryz.call48 ?_
    refine hQ1 _ _ (S_ ?_);clear hQ1 Q1
    refine e_ Tryz.results84 ?_
    first
    | exact True.intro
    | simp only [two, *, ↓reduceIte, Bool.false_eq_true]
  refine g_ [1,2,35] ?_
  refine c_ (fun hc5 => ?_) fun hc5 => ?_
  ·
    refine n_ ?_
    refine wpM_regionK [6] rfl fun Q1 hQ1 => ?_
    refine SD_ ?_
    refine cpD_ (on_ok a) Tryz.call49 ?_
    first | refine cg_ (fun hb => on_ok b) Tryz.call49 ?_ | refine cpD_ (on_ok b) Tryz.call49 ?_
    refine cpD_ (is_ok (a != 0 && b != 0)) Tryz.call48 ?_
    refine hQ1 _ _ (S_ ?_);clear hQ1 Q1
    refine e_ Tryz.results84 ?_
    first
    | exact True.intro
    | simp only [two, *, ↓reduceIte, Bool.false_eq_true]
  refine n_ ?_
  refine wpM_regionK [6] rfl fun Q1 hQ1 => ?_
  refine SD_ ?_
  refine cpD_ (on_ok a) Tryz.call49 ?_
  first | refine cg_ (fun hb => on_ok b) Tryz.call49 ?_ | refine cpD_ (on_ok b) Tryz.call49 ?_
  refine cpD_ (is_ok (a != 0 || b != 0)) Tryz.call48 ?_
  refine hQ1 _ _ (S_ ?_);clear hQ1 Q1
  refine e_ Tryz.results84 ?_
  first
  | exact True.intro
  | simp only [two, *, ↓reduceIte, Bool.false_eq_true]
def MM.get (m : MM) (a : AD) : Int := if a.kind == 1 then m.i.getD a.at'.toNat 0 else if a.kind == 2 then m.o.getD a.at'.toNat 0 else m.v.getD a.at'.toNat 0
theorem AD.ok_at {a : AD} (h : a.ok = true) : 0 ≤ a.at' ∧ a.at' < 6 := by
  simp only [AD.ok, Bool.and_eq_true, decide_eq_true_eq] at h; omega
structure MM.Six (m : MM) : Prop where
  i : m.i.length = 6
  o : m.o.length = 6
  v : m.v.length = 6
theorem MM.ok_six {m : MM} (h : m.ok = true) : m.Six := by
  simp only [MM.ok, listOk, Bool.and_eq_true, beq_iff_eq] at h
  exact ⟨by omega, by omega, by omega⟩
theorem MM.Six.sm {m : MM} (h : m.Six) : m.Sm := ⟨by have := h.i; omega, by have := h.o; omega, by have := h.v; omega⟩
mutual
def Ex.of (m : MM) : Ex → Int
  | .mk k n a l => if k == 1 then n else if k == 2 then m.get a else if k == 10 then numIs (!((Ex.ofL m l).getD 0 0 != 0)) else two k ((Ex.ofL m l).getD 0 0) ((Ex.ofL m l).getD 1 0)
def Ex.ofL (m : MM) : List Ex → List Int
  | [] => []
  | e :: l => e.of m :: Ex.ofL m l
end
theorem Ex.ofL_map (m : MM) (l : List Ex) : Ex.ofL m l = l.map (Ex.of m) := by
  induction l with
  | nil => rfl
  | cons e l ih => simp [Ex.ofL, ih]
theorem Ex.ofL_get (m : MM) (l : List Ex) (k : Nat) (h : k < l.length) : (Ex.ofL m l).getD k 0 = (l.getD k default).of m := by simp [Ex.ofL_map, List.getD, h]
theorem Ex.of_eq (m : MM) (e : Ex) : e.of m = if e.kind == 1 then e.n else if e.kind == 2 then m.get e.a else if e.kind == 10 then numIs (!((Ex.ofL m e.kids).getD 0 0 != 0)) else two e.kind ((Ex.ofL m e.kids).getD 0 0) ((Ex.ofL m e.kids).getD 1 0) := by
  cases e; rfl
theorem form_inv {d : Nat} {e : Ex} (h : formD (d + 1) e = true) : kidsN e.kind = (e.kids.length : Int) ∧ (e.kind = 2 → e.a.ok = true) ∧ (∀ i, i < e.kids.length → formD d (e.kids.getD i default) = true) := by
  simp only [formD] at h
  split at h
  · cases h
  · rename_i h1
    split at h
    · cases h
    · split at h
      · cases h
      · rename_i h2 h3
        refine ⟨by simpa using h1, fun hk => ?_, fun i hi => ?_⟩
        · simp only [Bool.or_eq_true, Bool.and_eq_true, not_or, not_and, beq_iff_eq, bne_iff_ne] at h3
          have := h3.1 hk; simpa using this
        · rw [List.all_eq_true] at h
          refine h _ ?_
          rw [List.getD_eq_getElem?_getD, List.getElem?_eq_getElem hi]; exact List.getElem_mem hi
theorem kidsN_two {k : Int} (h1 : (k == 1) = false) (h2 : (k == 2) = false) (h3 : (k == 10) = false) (h : 0 ≤ kidsN k) : kidsN k = 2 := by
  simp only [kidsN, h1, h2, h3, Bool.or_false, Bool.false_eq_true, if_false] at h ⊢
  split
  · rfl
  · rename_i hh; rw [if_neg hh] at h; omega
end Go.Proofs.YtmicbfojofcigaaGreat
namespace Go.Proofs.YtmicbfojofcigaaGreat
open Go Sg
set_option linter.unusedSectionVars false
variable [Glob]
set_option maxRecDepth 100000
set_option linter.unusedSimpArgs false
set_option linter.unusedVariables false
set_option maxHeartbeats 4000000
def bls (l : List Bool) : List PV := l.map PV.bool
@[go_sem] theorem bls_len (l : List Bool) : (bls l).length = l.length := by simp [bls]
@[go_sem] theorem rowsB_flat (l : List Bool) : (rowsB l).flatten = bls l := by
  induction l with
  | nil => rfl
  | cons x l ih => simp only [rowsB, bls, List.map_cons, List.flatten_cons] at ih ⊢; rw [ih]; rfl
@[go_sem] theorem rowsI_flat (l : List Int) : (rowsI l).flatten = ints l := by
  induction l with
  | nil => rfl
  | cons x l ih => simp only [rowsI, ints, List.map_cons, List.flatten_cons] at ih ⊢; rw [ih]; rfl
@[go_sem] theorem idsL_ints (p : Nat → Prop) (l : List Int) : PV.idsL p (ints l) = True := by
  induction l with
  | nil => simp [ints, PV.idsL]
  | cons x l ih => simp only [ints, List.map_cons, PV.idsL, PV.ids, true_and] at ih ⊢; exact ih
@[go_sem] theorem idsL_bls (p : Nat → Prop) (l : List Bool) : PV.idsL p (bls l) = True := by
  induction l with
  | nil => simp [bls, PV.idsL]
  | cons x l ih => simp only [bls, List.map_cons, PV.idsL, PV.ids, true_and] at ih ⊢; exact ih
@[go_sem] theorem renL_ints (p : Nat → Nat) (l : List Int) : PV.renL p (ints l) = ints l := by
  induction l with
  | nil => rfl
  | cons x l ih => simp only [ints, List.map_cons, PV.renL, PV.ren] at ih ⊢; rw [ih]
@[go_sem] theorem renL_bls (p : Nat → Nat) (l : List Bool) : PV.renL p (bls l) = bls l := by
  induction l with
  | nil => rfl
  | cons x l ih => simp only [bls, List.map_cons, PV.renL, PV.ren] at ih ⊢; rw [ih]
theorem ints_nil : ([] : List PV) = ints [] := rfl
@[go_sem] theorem bls_drop (l : List Bool) (k : Nat) (h : k < l.length) : ((bls l).drop k)[0]? = some (.bool (l.getD k false)) := by simp [bls, List.getD, h]
@[go_sem high] theorem splice_bls (l : List Bool) (k : Nat) (b : Bool) (h : k < l.length) : splice (bls l) k [.bool b] = bls (l.set k b) := by
  simp only [splice, bls, List.length_cons, List.length_nil]
  rw [List.map_set, List.set_eq_take_append_cons_drop, if_pos (by simpa using h)]; simp
@[go_sem high] theorem splice_ints (l : List Int) (k : Nat) (b : Int) (h : k < l.length) : splice (ints l) k [.int .i64 b] = ints (l.set k b) := by
  simp only [splice, ints, List.length_cons, List.length_nil]
  rw [List.map_set, List.set_eq_take_append_cons_drop, if_pos (by simpa using h)]; simp
@[go_sem] theorem ints_app (l : List Int) (x : Int) : ints l ++ [.int .i64 x] = ints (l ++ [x]) := by simp [ints]
theorem rowsOf_ints {f : Nat → Option AObj} {id : Nat} {T : TypeId} {l : List Int} (h : f id = some (.cells T (ints l))) : RowsOf Tryz.prog f 3 id 0 l.length (rowsI l) := by
  refine ⟨by rw [cellsOf3]; omega, by simp [rowsI], ?_, T, _, h, ?_, ?_⟩
  · intro c hc
    simp only [rowsI, List.mem_map] at hc
    obtain ⟨x, _, rfl⟩ := hc
    rw [cellsOf3]; exact ⟨rfl, rfl⟩
  · rw [cellsOf3]; simp [ints]
  · rw [cellsOf3, rowsI_flat]; simp [ints, List.take_of_length_le]
theorem rowsOf_bls {f : Nat → Option AObj} {id : Nat} {T : TypeId} {l : List Bool} (h : f id = some (.cells T (bls l))) : RowsOf Tryz.prog f 4 id 0 l.length (rowsB l) := by
  refine ⟨by rw [cellsOf4]; omega, by simp [rowsB], ?_, T, _, h, ?_, ?_⟩
  · intro c hc
    simp only [rowsB, List.mem_map] at hc
    obtain ⟨x, _, rfl⟩ := hc
    rw [cellsOf4]; exact ⟨rfl, rfl⟩
  · rw [cellsOf4]; simp [bls]
  · rw [cellsOf4, rowsB_flat]; simp [bls, List.take_of_length_le]
@[go_sem] theorem ints_nil' : ints [] = [] := rfl
def ocs (x y z : Nat) : List PV := [.sl 3 x 0 6, .sl 3 y 0 6, .sl 3 z 0 6]
@[go_sem] theorem ocs_eq (x y z : Nat) : ocs x y z = [.sl 3 x 0 6, .sl 3 y 0 6, .sl 3 z 0 6] := rfl
def MM.ol (m : MM) (x y z : Nat) : List (Nat × AObj) := [(x, .cells 3 (ints m.i)), (y, .cells 3 (ints m.o)), (z, .cells 3 (ints m.v))]
@[go_sem] theorem MM.ol_eq (m : MM) (x y z : Nat) : m.ol x y z = [(x, .cells 3 (ints m.i)), (y, .cells 3 (ints m.o)), (z, .cells 3 (ints m.v))] := rfl
def MM.ou (m : MM) (x y z : Nat) : List (Nat × Option AObj) := [(x, some (.cells 3 (ints m.i))), (y, some (.cells 3 (ints m.o))), (z, some (.cells 3 (ints m.v)))]
@[go_sem] theorem MM.ou_eq (m : MM) (x y z : Nat) : m.ou x y z = [(x, some (.cells 3 (ints m.i))), (y, some (.cells 3 (ints m.o))), (z, some (.cells 3 (ints m.v)))] := rfl
def MM.tb (m : MM) (x y z : Nat) : List (TypeId × Nat × Nat × Nat × List (List PV)) := [(3, x, 0, 6, rowsI m.i), (3, y, 0, 6, rowsI m.o), (3, z, 0, 6, rowsI m.v)]
theorem MM.sub (m : MM) {x y z : Nat} (h1 : x ≠ y) (h2 : x ≠ z) (h3 : y ≠ z) : PV.subL (thOf (m.tb x y z)) (ocs x y z) = m.cs := by
  simp [ocs, MM.cs, PV.subL, PV.sub, thOf, MM.tb, h1, h2, h3]
theorem rowsOf_ints' {f : Nat → Option AObj} {id n : Nat} {T : TypeId} {l : List Int} (h : f id = some (.cells T (ints l))) (hn : l.length = n) : RowsOf Tryz.prog f 3 id 0 n (rowsI l) := by subst hn; exact rowsOf_ints h
theorem MM.tb_ok (m : MM) (hm : m.Six) {f : Nat → Option AObj} {x y z : Nat} (hx : f x = some (.cells 3 (ints m.i))) (hy : f y = some (.cells 3 (ints m.o))) (hz : f z = some (.cells 3 (ints m.v))) : ∀ q ∈ m.tb x y z, RowsOf Tryz.prog f q.1 q.2.1 q.2.2.1 q.2.2.2.1 q.2.2.2.2 := by
  intro q hq
  simp only [MM.tb, List.mem_cons, List.not_mem_nil, or_false] at hq
  rcases hq with rfl | rfl | rfl
  · exact rowsOf_ints' hx hm.i
  · exact rowsOf_ints' hy hm.o
  · exact rowsOf_ints' hz hm.v
theorem MM.frz (m : MM) (hm : m.Six) {f : Nat → Option AObj} {x y z : Nat} (hx : f x = some (.cells 3 (ints m.i))) (hy : f y = some (.cells 3 (ints m.o))) (hz : f z = some (.cells 3 (ints m.v))) : ∀ q ∈ m.tb x y z, q.2.1 ∈ [x, y, z] ∧ RowsOf Tryz.prog f q.1 q.2.1 q.2.2.1 q.2.2.2.1 q.2.2.2.2 := by
  intro q hq
  refine ⟨?_, m.tb_ok hm hx hy hz q hq⟩
  simp only [MM.tb, List.mem_cons, List.not_mem_nil, or_false] at hq
  rcases hq with rfl | rfl | rfl <;> simp
mutual
theorem sub_flatE (θ : TypeId → Nat → Nat → Nat → Option PV) : (e : Ex) → PV.subL θ e.cs = e.cs
  | .mk k n a l => by simp [Ex.cs, PV.subL, PV.sub]
end
theorem sub_rowsB (θ : TypeId → Nat → Nat → Nat → Option PV) (e : TypeId) (r : List (List PV)) : PV.sub θ (.rows e r) = .rows e r := rfl
@[go_sem low] theorem rep_bls (n : Nat) : rep n [.bool false] = bls (List.replicate n false) := by
  induction n with
  | zero => rfl
  | succ n ih => simp only [rep, bls, List.replicate_succ, List.map_cons, List.flatten_cons] at ih ⊢; rw [ih]; rfl
@[go_sem low] theorem rep_ints (n : Nat) : rep n [.int .i64 0] = ints (List.replicate n 0) := by
  induction n with
  | zero => rfl
  | succ n ih => simp only [rep, ints, List.replicate_succ, List.map_cons, List.flatten_cons] at ih ⊢; rw [ih]; rfl
theorem rowsOf_bls' {f : Nat → Option AObj} {id n : Nat} {T : TypeId} (l : List Bool) (h : f id = some (.cells T (bls l))) (hn : l.length = n) : RowsOf Tryz.prog f 4 id 0 n (rowsB l) := by subst hn; exact rowsOf_bls h
theorem frz_bls {id n : Nat} {f : Nat → Option AObj} {T : TypeId} {l : List Bool} (h : f id = some (.cells T (bls l))) (hn : l.length = n) : ∀ x ∈ [((4 : TypeId), id, 0, n, rowsB l)], x.2.1 ∈ [id] ∧ RowsOf Tryz.prog f x.1 x.2.1 x.2.2.1 x.2.2.2.1 x.2.2.2.2 := by
  intro x hx
  simp only [List.mem_cons, List.not_mem_nil, or_false] at hx
  subst hx; subst hn
  exact ⟨by simp, rowsOf_bls h⟩
def MM.put (m : MM) (a : AD) (n : Int) : MM := if a.kind == 2 then { m with o := m.o.set a.at'.toNat (cut n) } else if a.kind == 3 then { m with v := m.v.set a.at'.toNat (cut n) } else m
theorem MM.put2 {m : MM} {a : AD} {n : Int} (h : (a.kind == 2) = true) : m.put a n = { m with o := m.o.set a.at'.toNat (cut n) } := by simp [MM.put, h]
theorem MM.put3 {m : MM} {a : AD} {n : Int} (h : (a.kind == 2) = false) (h3 : (a.kind == 3) = true) : m.put a n = { m with v := m.v.set a.at'.toNat (cut n) } := by simp [MM.put, h, h3]
theorem MM.put0 {m : MM} {a : AD} {n : Int} (h : (a.kind == 2) = false) (h3 : (a.kind == 3) = false) : m.put a n = m := by simp [MM.put, h, h3]
theorem MM.put_six {m : MM} (hm : m.Six) (a : AD) (n : Int) : (m.put a n).Six := by
  unfold MM.put
  split
  · exact ⟨hm.i, by simp [hm.o], hm.v⟩
  · split
    · exact ⟨hm.i, hm.o, by simp [hm.v]⟩
    · exact hm
theorem range_all (p : Nat → Bool) (i : Nat) : (List.range (i + 1)).all p = ((List.range i).all p && p i) := by
  rw [List.range_succ, List.all_append]; simp
theorem range_no {p : Nat → Bool} {i n : Nat} (h : i < n) (hp : p i = false) : (List.range n).all p = false := by
  rw [List.all_eq_false]
  exact ⟨i, List.mem_range.2 h, by simpa using hp⟩
end Go.Proofs.YtmicbfojofcigaaGreat
namespace Go.Proofs.YtmicbfojofcigaaGreat
open Go Sg
set_option linter.unusedSectionVars false
variable [Glob]
set_option maxRecDepth 100000
set_option linter.unusedSimpArgs false
set_option linter.unusedVariables false
set_option maxHeartbeats 4000000
@[go_sem] theorem repd2 (z : List PV) : rep 2 z = z ++ z := by simp [rep, List.replicate_succ]
@[go_sem] theorem repd3 (z : List PV) : rep 3 z = z ++ (z ++ (z)) := by simp [rep, List.replicate_succ]
@[go_sem] theorem repd4 (z : List PV) : rep 4 z = z ++ (z ++ (z ++ (z))) := by simp [rep, List.replicate_succ]
@[go_sem] theorem repd6 (z : List PV) : rep 6 z = z ++ (z ++ (z ++ (z ++ (z ++ (z))))) := by simp [rep, List.replicate_succ]
@[go_sem] theorem repd7 (z : List PV) : rep 7 z = z ++ (z ++ (z ++ (z ++ (z ++ (z ++ (z)))))) := by simp [rep, List.replicate_succ]
@[go_sem] theorem repd10 (z : List PV) : rep 10 z = z ++ (z ++ (z ++ (z ++ (z ++ (z ++ (z ++ (z ++ (z ++ (z))))))))) := by simp [rep, List.replicate_succ]
def RdF (f : Nat) (args : List PV) (id : Nat) (bs : List Nat) (q K : Int) (R : PV → Prop) : Prop :=
  CallF Tryz.prog f (.ptr id 0 :: args) [(id, rdObj bs q)] 0 (fun _ o => ∃ v q', R v ∧ q ≤ q' ∧ q' ≤ q + K ∧ o = { rs := [v], u := [(id, some (rdObj bs q'))] })
theorem l2Addr_ok (id : Nat) (bs : List Nat) (q : Int) (hbs : Bs bs) (hq0 : 0 ≤ q) (hq : q + 2 ≤ 1000000000000) : RdF 88 [] id bs q 2 (fun v => ∃ a : AD, v = .agg a.cs) := by
  refine callF_of' Tryz.func88 rfl Tryz.ntmps88 (by simp) ?_
  intro f0 B ns Q hB hns hQ
  have hid : id < B := hB id (by simp [hasKey, lk])
  obtain rfl : ns = [] := List.eq_nil_of_length_eq_zero hns
  refine g_ [0,2] ?_
  refine n_ ?_
  refine wpM_regionK [2] rfl fun Q1 hQ1 => ?_
  refine S_ ?_
  refine call_fn (l := [(id, rdObj bs q)]) (first := []) (cap := []) (ps := [.ptr id 0, .int .i64 3]) (pick_ok id bs q 3 hbs (by omega) (by omega) (by omega)) Tryz.call44 rfl rfl rfl G_ T_ ?_
  rintro out ⟨k1, rfl, h1, h2, h3⟩
  refine S_ ?_
  refine call_fn (l := [(id, rdObj bs (q + 1))]) (first := []) (cap := []) (ps := [.ptr id 0, .int .i64 3]) (pick_ok id bs (q + 1) 3 hbs (by omega) (by omega) (by omega)) Tryz.call44 rfl rfl rfl G_ T_ ?_
  rintro out ⟨k2, rfl, h4, h5, h6⟩
  refine S_ ?_
  refine hQ1 _ _ (S_ ?_);clear hQ1 Q1
  refine wpM_ret ?_
  try refine S_ ?_
  refine hQ _ _ (ret0 [(id, some (rdObj bs (q + 1 + 1)))] rfl rfl rfl (by rw [Tryz.results88] <;> simp (maxSteps := 1000000) -implicitDefEqProofs (disch := omega) only [go_sem] <;> rfl) ⟨_, q + 1 + 1, ⟨⟨1 + k1, k2⟩, rfl⟩, by omega, by omega, rfl⟩ ?_ ?_ ?_ ?_)
  all_goals simp -implicitDefEqProofs (disch := omega) only [go_sem, rdObj, true_or, or_true]
theorem memOpen_ok : CallF Tryz.prog 89 [] [] 3 (fun ns o => ∃ x y z, ns = [x, y, z] ∧ o = { rs := [.agg (ocs x y z)], nw := (⟨List.replicate 6 0, List.replicate 6 0, List.replicate 6 0⟩ : MM).ol x y z }) := by
  refine callF_of' Tryz.func89 rfl Tryz.ntmps89 (by simp) ?_
  intro f0 B ns Q hB hns hQ
  obtain ⟨x, y, z, rfl⟩ : ∃ x y z, ns = [x, y, z] := by
    match ns, hns with
    | [x, y, z], _ => exact ⟨x, y, z, rfl⟩
  refine g_ [0] ?_
  refine n_ ?_
  refine dr_ mixed [0] 3 1 [B, B + 1, B + 2, B + 3] [⟨[],[],[],[1],false⟩,⟨[],[],[],[2],false⟩,⟨[],[],[],[3],false⟩,⟨[1,2,3],[],[],[],false⟩,⟨[0,4],[0],[0],[],false⟩] [0,1,2,3,4] [[],[],[],[0,1,2],[0,1,2,3]] 4 ?_
  intro O A K hO hA hK;simp only [atL_cons,atL_nil,Nat.reduceAdd,Nat.zero_add] at hO hA
  refine SO_ ?_
  refine hK _ (S_ ?_);clear hK K hO hA O A
  have e6 : [PV.int .i64 0, .int .i64 0, .int .i64 0, .int .i64 0, .int .i64 0, .int .i64 0] = ints (List.replicate 6 0) := rfl
  rw [e6]
  refine wpM_ret ?_
  try refine S_ ?_
  refine hQ _ _ (retK [B + 1, B + 2, B + 3] [] ((⟨List.replicate 6 0, List.replicate 6 0, List.replicate 6 0⟩ : MM).ol x y z) rfl rfl rfl (by rw [Tryz.results89] <;> simp (maxSteps := 1000000) -implicitDefEqProofs (disch := omega) only [go_sem] <;> rfl) ?_ ⟨x, y, z, rfl, rfl⟩ ?_ ?_ ?_ ?_ ?_ ?_)
  all_goals (first | (simp -implicitDefEqProofs (disch := omega) only [go_sem, List.nodup_cons, List.nodup_nil, true_or, or_true, List.mem_cons, List.not_mem_nil]; done) | (simp -implicitDefEqProofs (disch := omega) only [go_sem, List.nodup_cons, List.nodup_nil, true_or, or_true, List.mem_cons, List.not_mem_nil]; omega))
theorem l2Mem_ok (id : Nat) (bs : List Nat) (q : Int) (hbs : Bs bs) (hq0 : 0 ≤ q) (hq : q + 12 ≤ 1000000000000) : CallF Tryz.prog 55 [.ptr id 0] [(id, rdObj bs q)] 3 (fun ns o => ∃ x y z m q', ns = [x, y, z] ∧ MM.Six m ∧ q ≤ q' ∧ q' ≤ q + 12 ∧ o = { rs := [.agg (ocs x y z)], u := [(id, some (rdObj bs q'))], nw := m.ol x y z }) := by
  refine callF_of' Tryz.func55 rfl Tryz.ntmps55 (by simp) ?_
  intro f0 B ns Q hB hns hQ
  have hid : id < B := hB id (by simp [hasKey, lk])
  obtain ⟨x, y, z, rfl⟩ : ∃ x y z, ns = [x, y, z] := by
    match ns, hns with
    | [x, y, z], _ => exact ⟨x, y, z, rfl⟩
  refine g_ [0,2] ?_
  refine n_ ?_
  refine wpM_regionK [0,2,3] rfl fun Q1 hQ1 => ?_
  refine S_ ?_
  refine call_fn (l := []) (first := []) (cap := []) (ps := []) (memOpen_ok) Tryz.call89 rfl rfl rfl G_ T_ ?_
  rintro out ⟨x', y', z', ⟨⟩, rfl⟩
  refine S_ ?_
  refine hQ1 _ _ (S_ ?_);clear hQ1 Q1
  refine g_ [0,2,3,4] ?_
  refine n_ ?_
  refine wpM_loopS (fun s n s' => ∃ (i0 M0 : Nat) (m : MM) (q' : Int), i0 + n = 4 ∧ s.M ≤ M0 ∧ (MM.Six m ∧ q ≤ q' ∧ q' ≤ q + 3 * (i0 : Int)) ∧ s' = { s with env := setE 4 (.int .i64 (i0 : Nat)) s.env, l := setl id (rdObj bs q') (setl (B + 1) (.cells 3 (ints m.i)) (setl (B + 2) (.cells 3 (ints m.o)) (setl (B + 3) (.cells 3 (ints m.v)) s.l))), M := M0 }) (4) ?_ ?_
  ·
    refine .of' _ _ ⟨0, _, (⟨List.replicate 6 0, List.replicate 6 0, List.replicate 6 0⟩ : MM), q, by omega, Nat.le_refl _, ⟨⟨rfl, rfl, rfl⟩, by omega, by omega⟩, rfl⟩ ?_ ?_ ?_ <;> exact L_
  rintro n0 s' ⟨i0, M0, m, q', hi0, hM0, hv0, rfl⟩
  try dsimp only at hM0
  try refine S_ ?_
  refine g_ [0,2,3,4,7] ?_
  refine c_ (fun hc0 => ?_) fun hc0 => ?_
  ·
    have hl0 : i0 < 4 := by omega
    obtain ⟨hm6, hqa, hqb⟩ := hv0
    have e1 := hm6.i
    have e2 := hm6.o
    have e3 := hm6.v
    refine n_ ?_
    refine dr_ mixed [0,2,3,4] 1 3 [B + 4, B + 1, id, M0] [⟨[3],[],[],[],false⟩,⟨[10],[0],[],[],false⟩,⟨[4],[],[],[],false⟩,⟨[0],[],[],[],false⟩,⟨[],[],[],[3],false⟩,⟨[13,14],[2,3],[2],[],true⟩,⟨[11,12],[],[],[],false⟩,⟨[15,16],[1],[1],[],false⟩] [0,1,2,3,4,5,6,7] [[],[0],[],[],[],[3,4],[0,1,2,3,4,5],[0,1,2,3,4,5,6]] 4 (htbl := by simp; omega) (hnm := by simp) ?_
    intro O A K hO hA hK;simp only [atL_cons,atL_nil,Nat.reduceAdd,Nat.zero_add] at hO hA
    refine SO_ ?_
    refine loud_fn (first := []) (cap := []) (ps := [.ptr id 0, .sl 3 M0 0 7]) (l := [(id, rdObj bs (q')), (M0, .cells 3 (ints [0, 0, 1, 1, 2, 5, -1]))]) (num_ok id M0 bs (q') [0, 0, 1, 1, 2, 5, -1] 7 rfl (by omega) (by omega) (by omega) hbs (by omega) (by omega)) Tryz.call46 rfl rfl F_ (subG_spec (by simp -implicitDefEqProofs (disch := omega) only [go_sem, ints, List.map_cons, List.map_nil])) rfl ?_
    rintro out ⟨k1, rfl, hk1⟩
    refine ⟨rfl, ?_⟩
    refine SO_ ?_
    refine hK _ (S_ ?_);clear hK K hO hA O A
    refine n_ ?_
    refine dr_ mixed [0,2,3,4] 1 3 [B + 4, B + 2, id, M0 + 1] [⟨[3],[],[],[],false⟩,⟨[17],[0],[],[],false⟩,⟨[4],[],[],[],false⟩,⟨[0],[],[],[],false⟩,⟨[],[],[],[3],false⟩,⟨[20,21],[2,3],[2],[],true⟩,⟨[18,19],[],[],[],false⟩,⟨[22,23],[1],[1],[],false⟩] [0,1,2,3,4,5,6,7] [[],[0],[],[],[],[3,4],[0,1,2,3,4,5],[0,1,2,3,4,5,6]] 4 (htbl := by simp; omega) (hnm := by simp) ?_
    intro O A K hO hA hK;simp only [atL_cons,atL_nil,Nat.reduceAdd,Nat.zero_add] at hO hA
    refine SO_ ?_
    refine loud_fn (first := []) (cap := []) (ps := [.ptr id 0, .sl 3 (M0 + 1) 0 4]) (l := [(id, rdObj bs (q' + 1)), ((M0 + 1), .cells 3 (ints [0, 0, 1, 3]))]) (num_ok id (M0 + 1) bs (q' + 1) [0, 0, 1, 3] 4 rfl (by omega) (by omega) (by omega) hbs (by omega) (by omega)) Tryz.call46 rfl rfl F_ (subG_spec (by simp -implicitDefEqProofs (disch := omega) only [go_sem, ints, List.map_cons, List.map_nil])) rfl ?_
    rintro out ⟨k2, rfl, hk2⟩
    refine ⟨rfl, ?_⟩
    refine SO_ ?_
    refine hK _ (S_ ?_);clear hK K hO hA O A
    refine dr_ mixed [0,2,3,4] 1 3 [B + 4, B + 3, id, M0 + 2] [⟨[3],[],[],[],false⟩,⟨[24],[0],[],[],false⟩,⟨[4],[],[],[],false⟩,⟨[0],[],[],[],false⟩,⟨[],[],[],[3],false⟩,⟨[27,28],[2,3],[2],[],true⟩,⟨[25,26],[],[],[],false⟩,⟨[29,30],[1],[1],[],false⟩] [0,1,2,3,4,5,6,7] [[],[0],[],[],[],[3,4],[0,1,2,3,4,5],[0,1,2,3,4,5,6]] 4 (htbl := by simp; omega) (hnm := by simp) ?_
    intro O A K hO hA hK;simp only [atL_cons,atL_nil,Nat.reduceAdd,Nat.zero_add] at hO hA
    refine SO_ ?_
    refine loud_fn (first := []) (cap := []) (ps := [.ptr id 0, .sl 3 (M0 + 2) 0 6]) (l := [(id, rdObj bs (q' + 1 + 1)), ((M0 + 2), .cells 3 (ints [0, 0, 1, 2, 7, 1000000]))]) (num_ok id (M0 + 2) bs (q' + 1 + 1) [0, 0, 1, 2, 7, 1000000] 6 rfl (by omega) (by omega) (by omega) hbs (by omega) (by omega)) Tryz.call46 rfl rfl F_ (subG_spec (by simp -implicitDefEqProofs (disch := omega) only [go_sem, ints, List.map_cons, List.map_nil])) rfl ?_
    rintro out ⟨k3, rfl, hk3⟩
    refine ⟨rfl, ?_⟩
    refine SO_ ?_
    refine hK _ (S_ ?_);clear hK K hO hA O A
    refine g_ [0,2,3,4] ?_
    refine .of' _ _ ⟨n0 - 1, by omega, i0 + 1, _, ⟨m.i.set i0 k1, m.o.set i0 k2, m.v.set i0 k3⟩, q' + 1 + 1 + 1, by omega, M_, ?_, rfl⟩ L_ L_ L_
    exact ⟨⟨by simp [e1], by simp [e2], by simp [e3]⟩, by omega, by omega⟩
  refine g_ [2] ?_
  refine wpM_ret ?_
  try refine S_ ?_
  obtain ⟨hm6, hqa, hqb⟩ := hv0
  have e1 := hm6.i
  have e2 := hm6.o
  have e3 := hm6.v
  refine hQ _ _ (retK [B + 1, B + 2, B + 3] [(id, some (rdObj bs q'))] (m.ol x y z) rfl rfl rfl (by rw [Tryz.results55] <;> simp (maxSteps := 1000000) -implicitDefEqProofs (disch := omega) only [go_sem] <;> rfl) ?_ ⟨x, y, z, m, q', rfl, hm6, hqa, by omega, rfl⟩ ?_ ?_ ?_ ?_ ?_ ?_)
  all_goals (simp -implicitDefEqProofs (disch := omega) only [go_sem, rdObj, List.nodup_cons, List.nodup_nil, true_or, or_true, List.mem_cons, List.not_mem_nil] <;> omega)
theorem l2MemF_ok (id : Nat) (bs : List Nat) (q : Int) (hbs : Bs bs) (hq0 : 0 ≤ q) (hq : q + 12 ≤ 1000000000000) : RdF 55 [] id bs q 12 (fun v => ∃ m : MM, m.Six ∧ v = .agg m.cs) := by
  refine callF_of' Tryz.func55 rfl Tryz.ntmps55 (by simp) ?_
  intro f0 B ns Q hB hns hQ
  have hid : id < B := hB id (by simp [hasKey, lk])
  obtain rfl : ns = [] := List.eq_nil_of_length_eq_zero hns
  refine g_ [0,2] ?_
  refine n_ ?_
  refine wpM_regionK [0,2,3] rfl fun Q1 hQ1 => ?_
  refine S_ ?_
  refine call_fn (l := []) (first := []) (cap := []) (ps := []) (memOpen_ok) Tryz.call89 rfl rfl rfl G_ T_ ?_
  rintro out ⟨x', y', z', ⟨⟩, rfl⟩
  refine S_ ?_
  refine hQ1 _ _ (S_ ?_);clear hQ1 Q1
  refine g_ [0,2,3,4] ?_
  refine n_ ?_
  refine wpM_loopS (fun s n s' => ∃ (i0 M0 : Nat) (m : MM) (q' : Int), i0 + n = 4 ∧ s.M ≤ M0 ∧ (MM.Six m ∧ q ≤ q' ∧ q' ≤ q + 3 * (i0 : Int)) ∧ s' = { s with env := setE 4 (.int .i64 (i0 : Nat)) s.env, l := setl id (rdObj bs q') (setl (B + 1) (.cells 3 (ints m.i)) (setl (B + 2) (.cells 3 (ints m.o)) (setl (B + 3) (.cells 3 (ints m.v)) s.l))), M := M0 }) (4) ?_ ?_
  ·
    refine .of' _ _ ⟨0, _, (⟨List.replicate 6 0, List.replicate 6 0, List.replicate 6 0⟩ : MM), q, by omega, Nat.le_refl _, ⟨⟨rfl, rfl, rfl⟩, by omega, by omega⟩, rfl⟩ ?_ ?_ ?_ <;> exact L_
  rintro n0 s' ⟨i0, M0, m, q', hi0, hM0, hv0, rfl⟩
  try dsimp only at hM0
  try refine S_ ?_
  refine g_ [0,2,3,4,7] ?_
  refine c_ (fun hc0 => ?_) fun hc0 => ?_
  ·
    have hl0 : i0 < 4 := by omega
    obtain ⟨hm6, hqa, hqb⟩ := hv0
    have e1 := hm6.i
    have e2 := hm6.o
    have e3 := hm6.v
    refine n_ ?_
    refine dr_ mixed [0,2,3,4] 1 3 [B + 4, B + 1, id, M0] [⟨[3],[],[],[],false⟩,⟨[10],[0],[],[],false⟩,⟨[4],[],[],[],false⟩,⟨[0],[],[],[],false⟩,⟨[],[],[],[3],false⟩,⟨[13,14],[2,3],[2],[],true⟩,⟨[11,12],[],[],[],false⟩,⟨[15,16],[1],[1],[],false⟩] [0,1,2,3,4,5,6,7] [[],[0],[],[],[],[3,4],[0,1,2,3,4,5],[0,1,2,3,4,5,6]] 4 (htbl := by simp; omega) (hnm := by simp) ?_
    intro O A K hO hA hK;simp only [atL_cons,atL_nil,Nat.reduceAdd,Nat.zero_add] at hO hA
    refine SO_ ?_
    refine loud_fn (first := []) (cap := []) (ps := [.ptr id 0, .sl 3 M0 0 7]) (l := [(id, rdObj bs (q')), (M0, .cells 3 (ints [0, 0, 1, 1, 2, 5, -1]))]) (num_ok id M0 bs (q') [0, 0, 1, 1, 2, 5, -1] 7 rfl (by omega) (by omega) (by omega) hbs (by omega) (by omega)) Tryz.call46 rfl rfl F_ (subG_spec (by simp -implicitDefEqProofs (disch := omega) only [go_sem, ints, List.map_cons, List.map_nil])) rfl ?_
    rintro out ⟨k1, rfl, hk1⟩
    refine ⟨rfl, ?_⟩
    refine SO_ ?_
    refine hK _ (S_ ?_);clear hK K hO hA O A
    refine n_ ?_
    refine dr_ mixed [0,2,3,4] 1 3 [B + 4, B + 2, id, M0 + 1] [⟨[3],[],[],[],false⟩,⟨[17],[0],[],[],false⟩,⟨[4],[],[],[],false⟩,⟨[0],[],[],[],false⟩,⟨[],[],[],[3],false⟩,⟨[20,21],[2,3],[2],[],true⟩,⟨[18,19],[],[],[],false⟩,⟨[22,23],[1],[1],[],false⟩] [0,1,2,3,4,5,6,7] [[],[0],[],[],[],[3,4],[0,1,2,3,4,5],[0,1,2,3,4,5,6]] 4 (htbl := by simp; omega) (hnm := by simp) ?_
    intro O A K hO hA hK;simp only [atL_cons,atL_nil,Nat.reduceAdd,Nat.zero_add] at hO hA
    refine SO_ ?_
    refine loud_fn (first := []) (cap := []) (ps := [.ptr id 0, .sl 3 (M0 + 1) 0 4]) (l := [(id, rdObj bs (q' + 1)), ((M0 + 1), .cells 3 (ints [0, 0, 1, 3]))]) (num_ok id (M0 + 1) bs (q' + 1) [0, 0, 1, 3] 4 rfl (by omega) (by omega) (by omega) hbs (by omega) (by omega)) Tryz.call46 rfl rfl F_ (subG_spec (by simp -implicitDefEqProofs (disch := omega) only [go_sem, ints, List.map_cons, List.map_nil])) rfl ?_
    rintro out ⟨k2, rfl, hk2⟩
    refine ⟨rfl, ?_⟩
    refine SO_ ?_
    refine hK _ (S_ ?_);clear hK K hO hA O A
    refine dr_ mixed [0,2,3,4] 1 3 [B + 4, B + 3, id, M0 + 2] [⟨[3],[],[],[],false⟩,⟨[24],[0],[],[],false⟩,⟨[4],[],[],[],false⟩,⟨[0],[],[],[],false⟩,⟨[],[],[],[3],false⟩,⟨[27,28],[2,3],[2],[],true⟩,⟨[25,26],[],[],[],false⟩,⟨[29,30],[1],[1],[],false⟩] [0,1,2,3,4,5,6,7] [[],[0],[],[],[],[3,4],[0,1,2,3,4,5],[0,1,2,3,4,5,6]] 4 (htbl := by simp; omega) (hnm := by simp) ?_
    intro O A K hO hA hK;simp only [atL_cons,atL_nil,Nat.reduceAdd,Nat.zero_add] at hO hA
    refine SO_ ?_
    refine loud_fn (first := []) (cap := []) (ps := [.ptr id 0, .sl 3 (M0 + 2) 0 6]) (l := [(id, rdObj bs (q' + 1 + 1)), ((M0 + 2), .cells 3 (ints [0, 0, 1, 2, 7, 1000000]))]) (num_ok id (M0 + 2) bs (q' + 1 + 1) [0, 0, 1, 2, 7, 1000000] 6 rfl (by omega) (by omega) (by omega) hbs (by omega) (by omega)) Tryz.call46 rfl rfl F_ (subG_spec (by simp -implicitDefEqProofs (disch := omega) only [go_sem, ints, List.map_cons, List.map_nil])) rfl ?_
    rintro out ⟨k3, rfl, hk3⟩
    refine ⟨rfl, ?_⟩
    refine SO_ ?_
    refine hK _ (S_ ?_);clear hK K hO hA O A
    refine g_ [0,2,3,4] ?_
    refine .of' _ _ ⟨n0 - 1, by omega, i0 + 1, _, ⟨m.i.set i0 k1, m.o.set i0 k2, m.v.set i0 k3⟩, q' + 1 + 1 + 1, by omega, M_, ?_, rfl⟩ L_ L_ L_
    exact ⟨⟨by simp [e1], by simp [e2], by simp [e3]⟩, by omega, by omega⟩
  refine n_ ?_
  obtain ⟨hm6, hqa, hqb⟩ := hv0
  refine wpM_frz [B + 1, B + 2, B + 3] (m.tb (B + 1) (B + 2) (B + 3)) (by intro q hq; simp at hq; rcases hq with rfl | rfl | rfl <;> simp -implicitDefEqProofs (disch := omega) only [go_sem]) (m.frz hm6 T_ T_ T_) ?_
  simp -implicitDefEqProofs (disch := omega) only [go_sem, MM.tb, rdObj]
  refine g_ [2] ?_
  refine wpM_ret ?_
  try refine S_ ?_
  refine hQ _ _ (ret0 [(id, some (rdObj bs q'))] rfl rfl rfl (by rw [Tryz.results55] <;> simp (maxSteps := 1000000) -implicitDefEqProofs (disch := omega) only [go_sem] <;> rfl) ⟨_, q', ⟨m, hm6, rfl⟩, hqa, by omega, rfl⟩ ?_ ?_ ?_ ?_)
  all_goals simp -implicitDefEqProofs (disch := omega) only [go_sem, rdObj, true_or, or_true]
def tb3 (x na : Nat) (a : List Int) (y nb : Nat) (b : List Int) (z nc : Nat) (c : List Int) : List (TypeId × Nat × Nat × Nat × List (List PV)) := [(3, x, 0, na, rowsI (a.take na)), (3, y, 0, nb, rowsI (b.take nb)), (3, z, 0, nc, rowsI (c.take nc))]
theorem rowsOf_intsP {f : Nat → Option AObj} {id n : Nat} {T : TypeId} {l : List Int} (h : f id = some (.cells T (ints l))) (hn : n ≤ l.length) : RowsOf Tryz.prog f 3 id 0 n (rowsI (l.take n)) := by
  refine ⟨by rw [cellsOf3]; omega, by simp [rowsI]; omega, ?_, T, _, h, ?_, ?_⟩
  · intro c hc
    simp only [rowsI, List.mem_map] at hc
    obtain ⟨x, _, rfl⟩ := hc
    rw [cellsOf3]; exact ⟨rfl, rfl⟩
  · rw [cellsOf3]; simp [ints]; omega
  · rw [cellsOf3, rowsI_flat]; simp [ints, List.map_take]
theorem frz3 {f : Nat → Option AObj} {x y z na nb nc : Nat} {a b c : List Int} (hx : f x = some (.cells 3 (ints a))) (hy : f y = some (.cells 3 (ints b))) (hz : f z = some (.cells 3 (ints c))) (ha : na ≤ a.length) (hb : nb ≤ b.length) (hc : nc ≤ c.length) :
    ∀ q ∈ tb3 x na a y nb b z nc c, q.2.1 ∈ [x, y, z] ∧ RowsOf Tryz.prog f q.1 q.2.1 q.2.2.1 q.2.2.2.1 q.2.2.2.2 := by
  intro q hq
  simp only [tb3, List.mem_cons, List.not_mem_nil, or_false] at hq
  rcases hq with rfl | rfl | rfl
  · exact ⟨by simp, rowsOf_intsP hx ha⟩
  · exact ⟨by simp, rowsOf_intsP hy hb⟩
  · exact ⟨by simp, rowsOf_intsP hz hc⟩
theorem l2MemBent_ok (id : Nat) (bs : List Nat) (q : Int) (hbs : Bs bs) (hq0 : 0 ≤ q) (hq : q + 13 ≤ 1000000000000) : RdF 29 [] id bs q 13 (fun v => ∃ m : MM, m.Sm ∧ v = .agg m.cs) := by
  refine callF_of' Tryz.func29 rfl Tryz.ntmps29 (by simp) ?_
  intro f0 B ns Q hB hns hQ
  have hid : id < B := hB id (by simp [hasKey, lk])
  obtain rfl : ns = [] := List.eq_nil_of_length_eq_zero hns
  refine g_ [0,2] ?_
  refine n_ ?_
  refine wpM_regionK [0,2,3] rfl fun Q1 hQ1 => ?_
  refine S_ ?_
  refine call_fn (l := [(id, rdObj bs q)]) (first := []) (cap := []) (ps := [.ptr id 0]) (l2Mem_ok id bs q hbs hq0 (by omega)) Tryz.call55 rfl rfl rfl G_ T_ ?_
  rintro out ⟨x', y', z', m, q', ⟨⟩, hm6, hqa, hqb, rfl⟩
  refine S_ ?_
  have e1 := hm6.i
  have e2 := hm6.o
  have e3 := hm6.v
  refine hQ1 _ _ (S_ ?_);clear hQ1 Q1
  refine n_ ?_
  refine wpM_regionK [2,3,7] rfl fun Q1 hQ1 => ?_
  refine S_ ?_
  refine call_fn (l := [(id, rdObj bs q')]) (first := []) (cap := []) (ps := [.ptr id 0, .int .i64 30]) (pick_ok id bs q' 30 hbs (by omega) (by omega) (by omega)) Tryz.call44 rfl rfl rfl G_ T_ ?_
  rintro out ⟨k1, rfl, h1, h2, h3⟩
  refine S_ ?_
  refine hQ1 _ _ (S_ ?_);clear hQ1 Q1
  refine g_ [2,3,7,8] ?_
  refine c_ (fun hc0 => ?_) fun hc0 => ?_
  ·
    refine g_ [2,3] ?_
    refine wpM_frz [B + 1, B + 2, B + 3] (tb3 (B + 1) 2 m.i (B + 2) 6 m.o (B + 3) 6 m.v) (by intro q hq; simp at hq; rcases hq with rfl | rfl | rfl <;> simp -implicitDefEqProofs (disch := omega) only [go_sem]) (frz3 T_ T_ T_ (by omega) (by omega) (by omega)) ?_
    simp -implicitDefEqProofs (disch := omega) only [go_sem, tb3, rdObj]
    refine g_ [2] ?_
    refine wpM_ret ?_
    try refine S_ ?_
    refine hQ _ _ (ret0 [(id, some (rdObj bs (q' + 1)))] rfl rfl rfl (by rw [Tryz.results29] <;> simp (maxSteps := 1000000) -implicitDefEqProofs (disch := omega) only [go_sem] <;> rfl) ⟨_, q' + 1, ⟨⟨_, _, _⟩, ⟨?_, ?_, ?_⟩, rfl⟩, by omega, by omega, rfl⟩ ?_ ?_ ?_ ?_)
    all_goals (first | (simp -implicitDefEqProofs (disch := omega) only [go_sem, rdObj, true_or, or_true]; done) | (simp only [List.length_take, List.length_set, List.length_append, List.length_cons, List.length_nil]; omega))
  refine g_ [2,3,7,14] ?_
  refine c_ (fun hc1 => ?_) fun hc1 => ?_
  ·
    refine g_ [2,3] ?_
    refine wpM_frz [B + 1, B + 2, B + 3] (tb3 (B + 1) 6 m.i (B + 2) 6 m.o (B + 3) 6 (m.v.set 0 1000001)) (by intro q hq; simp at hq; rcases hq with rfl | rfl | rfl <;> simp -implicitDefEqProofs (disch := omega) only [go_sem]) (frz3 T_ T_ T_ (by omega) (by omega) (by simp; omega)) ?_
    simp -implicitDefEqProofs (disch := omega) only [go_sem, tb3, rdObj]
    refine g_ [2] ?_
    refine wpM_ret ?_
    try refine S_ ?_
    refine hQ _ _ (ret0 [(id, some (rdObj bs (q' + 1)))] rfl rfl rfl (by rw [Tryz.results29] <;> simp (maxSteps := 1000000) -implicitDefEqProofs (disch := omega) only [go_sem] <;> rfl) ⟨_, q' + 1, ⟨⟨_, _, _⟩, ⟨?_, ?_, ?_⟩, rfl⟩, by omega, by omega, rfl⟩ ?_ ?_ ?_ ?_)
    all_goals (first | (simp -implicitDefEqProofs (disch := omega) only [go_sem, rdObj, true_or, or_true]; done) | (simp only [List.length_take, List.length_set, List.length_append, List.length_cons, List.length_nil]; omega))
  refine g_ [2,3,19] ?_
  refine c_ (fun hc2 => ?_) fun hc2 => ?_
  ·
    refine g_ [2,3] ?_
    refine wpM_frz [B + 1, B + 6, B + 3] (tb3 (B + 1) 6 m.i (B + 6) 7 (m.o ++ [0]) (B + 3) 6 m.v) (by intro q hq; simp at hq; rcases hq with rfl | rfl | rfl <;> simp -implicitDefEqProofs (disch := omega) only [go_sem]) (frz3 T_ T_ T_ (by omega) (by simp; omega) (by omega)) ?_
    simp -implicitDefEqProofs (disch := omega) only [go_sem, tb3, rdObj]
    refine g_ [2] ?_
    refine wpM_ret ?_
    try refine S_ ?_
    refine hQ _ _ (ret0 [(id, some (rdObj bs (q' + 1)))] rfl rfl rfl (by rw [Tryz.results29] <;> simp (maxSteps := 1000000) -implicitDefEqProofs (disch := omega) only [go_sem] <;> rfl) ⟨_, q' + 1, ⟨⟨_, _, _⟩, ⟨?_, ?_, ?_⟩, rfl⟩, by omega, by omega, rfl⟩ ?_ ?_ ?_ ?_)
    all_goals (first | (simp -implicitDefEqProofs (disch := omega) only [go_sem, rdObj, true_or, or_true]; done) | (simp only [List.length_take, List.length_set, List.length_append, List.length_cons, List.length_nil]; omega))
  refine wpM_frz [B + 1, B + 2, B + 3] (tb3 (B + 1) 6 m.i (B + 2) 6 m.o (B + 3) 6 m.v) (by intro q hq; simp at hq; rcases hq with rfl | rfl | rfl <;> simp -implicitDefEqProofs (disch := omega) only [go_sem]) (frz3 T_ T_ T_ (by omega) (by omega) (by omega)) ?_
  simp -implicitDefEqProofs (disch := omega) only [go_sem, tb3, rdObj]
  refine g_ [2] ?_
  refine wpM_ret ?_
  try refine S_ ?_
  refine hQ _ _ (ret0 [(id, some (rdObj bs (q' + 1)))] rfl rfl rfl (by rw [Tryz.results29] <;> simp (maxSteps := 1000000) -implicitDefEqProofs (disch := omega) only [go_sem] <;> rfl) ⟨_, q' + 1, ⟨⟨_, _, _⟩, ⟨?_, ?_, ?_⟩, rfl⟩, by omega, by omega, rfl⟩ ?_ ?_ ?_ ?_)
  all_goals (first | (simp -implicitDefEqProofs (disch := omega) only [go_sem, rdObj, true_or, or_true]; done) | (simp only [List.length_take, List.length_set, List.length_append, List.length_cons, List.length_nil]; omega))
theorem l2AddrBent_ok (id : Nat) (bs : List Nat) (q : Int) (hbs : Bs bs) (hq0 : 0 ≤ q) (hq : q + 4 ≤ 1000000000000) : RdF 54 [] id bs q 4 (fun v => ∃ a : AD, v = .agg a.cs) := by
  refine callF_of' Tryz.func54 rfl Tryz.ntmps54 (by simp) ?_
  intro f0 B ns Q hB hns hQ
  have hid : id < B := hB id (by simp [hasKey, lk])
  obtain rfl : ns = [] := List.eq_nil_of_length_eq_zero hns
  refine g_ [0,2] ?_
  refine n_ ?_
  refine wpM_regionK [0,2,3] rfl fun Q1 hQ1 => ?_
  refine S_ ?_
  refine call_fn (l := [(id, rdObj bs q)]) (first := []) (cap := []) (ps := [.ptr id 0]) (l2Addr_ok id bs q hbs hq0 (by omega)) Tryz.call88 rfl rfl rfl G_ T_ ?_
  rintro out ⟨_, q', ⟨a, rfl⟩, hqa, hqb, rfl⟩
  refine S_ ?_
  refine hQ1 _ _ (S_ ?_);clear hQ1 Q1
  refine n_ ?_
  refine wpM_regionK [0,2,3,7] rfl fun Q1 hQ1 => ?_
  refine S_ ?_
  refine call_fn (l := [(id, rdObj bs q')]) (first := []) (cap := []) (ps := [.ptr id 0, .int .i64 16]) (pick_ok id bs q' 16 hbs (by omega) (by omega) (by omega)) Tryz.call44 rfl rfl rfl G_ T_ ?_
  rintro out ⟨k1, rfl, h1, h2, h3⟩
  refine S_ ?_
  refine hQ1 _ _ (S_ ?_);clear hQ1 Q1
  refine g_ [0,2,3,7,8] ?_
  refine c_ (fun hc0 => ?_) fun hc0 => ?_
  ·
    refine wpM_regionK [2,3] rfl fun Q1 hQ1 => ?_
    refine S_ ?_
    refine call_fn (l := [(id, rdObj bs (q' + 1)), (B + 2, .cells 3 (ints [0, 4, -1]))]) (first := []) (cap := []) (ps := [.ptr id 0, .sl 3 (B + 2) 0 3]) (num_ok id (B + 2) bs (q' + 1) [0, 4, -1] 3 rfl (by omega) (by omega) (by omega) hbs (by omega) (by omega)) Tryz.call46 rfl rfl rfl G_ (by simp -implicitDefEqProofs (disch := omega) only [go_sem, ints, List.map_cons, List.map_nil]) ?_
    rintro out ⟨k2, rfl, h4⟩
    refine S_ ?_
    refine hQ1 _ _ (S_ ?_);clear hQ1 Q1
    refine g_ [2] ?_
    refine wpM_ret ?_
    try refine S_ ?_
    first
    | refine hQ _ _ (ret0 [(id, some (rdObj bs (q' + 1 + 1)))] rfl rfl rfl (by rw [Tryz.results54] <;> simp (maxSteps := 1000000) -implicitDefEqProofs (disch := omega) only [go_sem] <;> rfl) ⟨_, q' + 1 + 1, ⟨⟨_, _⟩, rfl⟩, by omega, by omega, rfl⟩ ?_ ?_ ?_ ?_) <;> (simp -implicitDefEqProofs (disch := omega) only [go_sem, rdObj, true_or, or_true]; done)
    | refine hQ _ _ (ret0 [(id, some (rdObj bs (q' + 1)))] rfl rfl rfl (by rw [Tryz.results54] <;> simp (maxSteps := 1000000) -implicitDefEqProofs (disch := omega) only [go_sem] <;> rfl) ⟨_, q' + 1, ⟨⟨_, _⟩, rfl⟩, by omega, by omega, rfl⟩ ?_ ?_ ?_ ?_) <;> (simp -implicitDefEqProofs (disch := omega) only [go_sem, rdObj, true_or, or_true]; done)
  refine g_ [0,2,3,14] ?_
  refine c_ (fun hc1 => ?_) fun hc1 => ?_
  ·
    refine wpM_regionK [2,3] rfl fun Q1 hQ1 => ?_
    refine S_ ?_
    refine call_fn (l := [(id, rdObj bs (q' + 1)), (B + 2, .cells 3 (ints [-1, 6, 5]))]) (first := []) (cap := []) (ps := [.ptr id 0, .sl 3 (B + 2) 0 3]) (num_ok id (B + 2) bs (q' + 1) [-1, 6, 5] 3 rfl (by omega) (by omega) (by omega) hbs (by omega) (by omega)) Tryz.call46 rfl rfl rfl G_ (by simp -implicitDefEqProofs (disch := omega) only [go_sem, ints, List.map_cons, List.map_nil]) ?_
    rintro out ⟨k2, rfl, h4⟩
    refine S_ ?_
    refine hQ1 _ _ (S_ ?_);clear hQ1 Q1
    refine g_ [2] ?_
    refine wpM_ret ?_
    try refine S_ ?_
    first
    | refine hQ _ _ (ret0 [(id, some (rdObj bs (q' + 1 + 1)))] rfl rfl rfl (by rw [Tryz.results54] <;> simp (maxSteps := 1000000) -implicitDefEqProofs (disch := omega) only [go_sem] <;> rfl) ⟨_, q' + 1 + 1, ⟨⟨_, _⟩, rfl⟩, by omega, by omega, rfl⟩ ?_ ?_ ?_ ?_) <;> (simp -implicitDefEqProofs (disch := omega) only [go_sem, rdObj, true_or, or_true]; done)
    | refine hQ _ _ (ret0 [(id, some (rdObj bs (q' + 1)))] rfl rfl rfl (by rw [Tryz.results54] <;> simp (maxSteps := 1000000) -implicitDefEqProofs (disch := omega) only [go_sem] <;> rfl) ⟨_, q' + 1, ⟨⟨_, _⟩, rfl⟩, by omega, by omega, rfl⟩ ?_ ?_ ?_ ?_) <;> (simp -implicitDefEqProofs (disch := omega) only [go_sem, rdObj, true_or, or_true]; done)
  refine g_ [2] ?_
  refine wpM_ret ?_
  try refine S_ ?_
  first
  | refine hQ _ _ (ret0 [(id, some (rdObj bs (q' + 1 + 1)))] rfl rfl rfl (by rw [Tryz.results54] <;> simp (maxSteps := 1000000) -implicitDefEqProofs (disch := omega) only [go_sem] <;> rfl) ⟨_, q' + 1 + 1, ⟨⟨_, _⟩, rfl⟩, by omega, by omega, rfl⟩ ?_ ?_ ?_ ?_) <;> (simp -implicitDefEqProofs (disch := omega) only [go_sem, rdObj, true_or, or_true]; done)
  | refine hQ _ _ (ret0 [(id, some (rdObj bs (q' + 1)))] rfl rfl rfl (by rw [Tryz.results54] <;> simp (maxSteps := 1000000) -implicitDefEqProofs (disch := omega) only [go_sem] <;> rfl) ⟨_, q' + 1, ⟨⟨_, _⟩, rfl⟩, by omega, by omega, rfl⟩ ?_ ?_ ?_ ?_) <;> (simp -implicitDefEqProofs (disch := omega) only [go_sem, rdObj, true_or, or_true]; done)
end Go.Proofs.YtmicbfojofcigaaGreat
namespace Go.Proofs.YtmicbfojofcigaaGreat
open Go Sg
set_option linter.unusedSectionVars false
variable [Glob]
set_option maxRecDepth 100000
set_option linter.unusedSimpArgs false
set_option linter.unusedVariables false
set_option maxHeartbeats 4000000
def exc (l : List Ex) : List PV := (Ex.csL l).flatten
@[go_sem] theorem exc_len (l : List Ex) : (exc l).length = l.length * 5 := by
  induction l with
  | nil => rfl
  | cons e l ih => simp only [exc, Ex.csL, List.flatten_cons, List.length_append, Ex.cs_eq, List.length_cons, List.length_nil] at ih ⊢; omega
theorem exc_app (l : List Ex) (e : Ex) : exc l ++ e.cs = exc (l ++ [e]) := by
  simp [exc, Ex.csL_map]
theorem exc_one (e : Ex) : e.cs = exc [e] := by simp [exc, Ex.csL]
theorem csL_idsL (p : Nat → Prop) (e : Ex) : PV.idsL p e.cs = True := by rw [Ex.cs_eq]; simp [PV.idsL, PV.ids]
theorem idsL_app (p : Nat → Prop) (a b : List PV) : PV.idsL p (a ++ b) = (PV.idsL p a ∧ PV.idsL p b) := by
  induction a with
  | nil => simp [PV.idsL]
  | cons x a ih => simp only [List.cons_append, PV.idsL, ih, and_assoc]
@[go_sem] theorem exc_ids (p : Nat → Prop) (l : List Ex) : PV.idsL p (exc l) = True := by
  induction l with
  | nil => simp [exc, Ex.csL, PV.idsL]
  | cons e l ih => simp only [exc, Ex.csL, List.flatten_cons] at ih ⊢; rw [idsL_app, ih, csL_idsL]; simp
theorem renL_app (p : Nat → Nat) (a b : List PV) : PV.renL p (a ++ b) = PV.renL p a ++ PV.renL p b := by
  induction a with
  | nil => simp [PV.renL]
  | cons x a ih => simp only [List.cons_append, PV.renL, ih]
@[go_sem] theorem exc_ren (p : Nat → Nat) (l : List Ex) : PV.renL p (exc l) = exc l := by
  induction l with
  | nil => simp [exc, Ex.csL, PV.renL]
  | cons e l ih =>
    simp only [exc, Ex.csL, List.flatten_cons] at ih ⊢; rw [renL_app, ih]
    congr 1; rw [Ex.cs_eq]; simp [PV.renL, PV.ren]
theorem subL_app (θ : TypeId → Nat → Nat → Nat → Option PV) (a b : List PV) : PV.subL θ (a ++ b) = PV.subL θ a ++ PV.subL θ b := by
  induction a with
  | nil => simp [PV.subL]
  | cons x a ih => simp only [List.cons_append, PV.subL, ih]
@[go_sem] theorem exc_sub (θ : TypeId → Nat → Nat → Nat → Option PV) (l : List Ex) : PV.subL θ (exc l) = exc l := by
  induction l with
  | nil => simp [exc, Ex.csL, PV.subL]
  | cons e l ih => simp only [exc, Ex.csL, List.flatten_cons] at ih ⊢; rw [subL_app, ih, sub_flatE]
theorem rowsOf_exc {f : Nat → Option AObj} {id : Nat} {T : TypeId} {l : List Ex} (h : f id = some (.cells T (exc l))) : RowsOf Tryz.prog f 27 id 0 l.length (Ex.csL l) := by
  refine ⟨by rw [cellsOf27]; omega, by rw [Ex.csL_len], ?_, T, _, h, ?_, ?_⟩
  · intro c hc
    rw [Ex.csL_map, List.mem_map] at hc
    obtain ⟨x, _, rfl⟩ := hc
    rw [cellsOf27, Ex.cs_eq]; exact ⟨rfl, rfl⟩
  · rw [cellsOf27, exc_len]; omega
  · rw [cellsOf27, List.drop_zero, List.take_of_length_le (by rw [exc_len]; omega)]; rfl
theorem Ex.szL_app (l : List Ex) (e : Ex) : Ex.szL (l ++ [e]) = Ex.szL l + e.sz := by
  induction l with
  | nil => simp [Ex.szL]
  | cons x l ih => simp only [List.cons_append, Ex.szL, ih]; omega
@[go_sem] theorem Ex.mk_kind (k n : Int) (a : AD) (l : List Ex) : (Ex.mk k n a l).kind = k := rfl
@[go_sem] theorem Ex.mk_n (k n : Int) (a : AD) (l : List Ex) : (Ex.mk k n a l).n = n := rfl
@[go_sem] theorem Ex.mk_a (k n : Int) (a : AD) (l : List Ex) : (Ex.mk k n a l).a = a := rfl
@[go_sem] theorem Ex.mk_kids (k n : Int) (a : AD) (l : List Ex) : (Ex.mk k n a l).kids = l := rfl
@[go_sem] theorem Ex.csL_nil : Ex.csL [] = [] := rfl
def eb : Nat → Int
  | 0 => 4
  | d + 1 => 4 + 2 * eb d
def es : Nat → Nat
  | 0 => 1
  | d + 1 => 1 + 2 * es d
theorem eb_pos : ∀ d, 4 ≤ eb d
  | 0 => by simp [eb]
  | d + 1 => by have := eb_pos d; simp only [eb]; omega
theorem es_pos : ∀ d, 1 ≤ es d
  | 0 => by simp [es]
  | d + 1 => by have := es_pos d; simp only [es]; omega
def ExprD (d : Nat) (id : Nat) (bs : List Nat) (q dep : Int) : Prop := RdF 78 [.int .i64 dep] id bs q (eb d) (fun v => ∃ e : Ex, e.sz ≤ es d ∧ v = .agg e.cs)
theorem expr_leaf (d : Nat) (id : Nat) (bs : List Nat) (q dep : Int) (hbs : Bs bs) (hq0 : 0 ≤ q) (hq : q + eb d ≤ 1000000000000) (hd : decide (dep ≤ 1) = true) : ExprD d id bs q dep := by
  have hb4 := eb_pos d
  have hs1 := es_pos d
  refine callF_of' Tryz.func78 rfl Tryz.ntmps78 (by simp) ?_
  intro f0 B ns Q hB hns hQ
  have hid : id < B := hB id (by simp [hasKey, lk])
  obtain rfl : ns = [] := List.eq_nil_of_length_eq_zero hns
  refine g_ [0,1,4] ?_
  refine n_ ?_
  refine wpM_regionK [0,1,4,13] rfl fun Q1 hQ1 => ?_
  simp -implicitDefEqProofs (disch := omega) only [go_sem, hd]
  refine hQ1 _ _ (S_ ?_);clear hQ1 Q1
  refine c1_ ?_
  refine n_ ?_
  refine wpM_regionK [0,4,16] rfl fun Q1 hQ1 => ?_
  refine S_ ?_
  refine call_fn (l := [(id, rdObj bs q)]) (first := []) (cap := []) (ps := [.ptr id 0, .int .i64 3]) (pick_ok id bs q 3 hbs (by omega) (by omega) (by omega)) Tryz.call44 rfl rfl rfl G_ T_ ?_
  rintro out ⟨k1, rfl, h1, h2, h3⟩
  refine S_ ?_
  refine hQ1 _ _ (S_ ?_);clear hQ1 Q1
  refine c_ (fun hc1 => ?_) fun hc1 => ?_
  ·
    refine n_ ?_
    refine wpM_regionK [4] rfl fun Q1 hQ1 => ?_
    refine S_ ?_
    refine call_fn (l := [(id, rdObj bs (q + 1)), (B + 1, .cells 3 (ints [0, 1, 2, 3, -1, 5, 1000000]))]) (first := []) (cap := []) (ps := [.ptr id 0, .sl 3 (B + 1) 0 7]) (num_ok id (B + 1) bs (q + 1) [0, 1, 2, 3, -1, 5, 1000000] 7 rfl (by omega) (by omega) (by omega) hbs (by omega) (by omega)) Tryz.call46 rfl rfl rfl G_ (by simp -implicitDefEqProofs (disch := omega) only [go_sem, ints, List.map_cons, List.map_nil]) ?_
    rintro out ⟨k2, rfl, h4⟩
    refine S_ ?_
    refine hQ1 _ _ (S_ ?_);clear hQ1 Q1
    refine wpM_le [(4, .ptr B 0)] [(B, .cells 27 (Ex.mk 1 k2 ⟨0, 0⟩ []).cs), (id, rdObj bs (q + 1 + 1))] T_ T_ T_ ?_
    refine wpM_ret ?_
    try refine S_ ?_
    first
    | refine hQ _ _ (ret0 [(id, some (rdObj bs (q + 1 + 1)))] rfl rfl rfl (by rw [Tryz.results78] <;> simp (maxSteps := 1000000) -implicitDefEqProofs (disch := omega) only [go_sem] <;> rfl) ⟨_, q + 1 + 1, ⟨Ex.mk 1 k2 ⟨0, 0⟩ [], by simpa [Ex.sz, Ex.szL] using hs1, rfl⟩, by omega, by omega, rfl⟩ ?_ ?_ ?_ ?_) <;> (simp -implicitDefEqProofs (disch := omega) only [go_sem, rdObj, true_or, or_true]; done)
    | refine hQ _ _ (ret0 [(id, some (rdObj bs q'))] rfl rfl rfl (by rw [Tryz.results78] <;> simp (maxSteps := 1000000) -implicitDefEqProofs (disch := omega) only [go_sem] <;> rfl) ⟨_, q', ⟨Ex.mk 2 0 a [], by simpa [Ex.sz, Ex.szL] using hs1, rfl⟩, by omega, by omega, rfl⟩ ?_ ?_ ?_ ?_) <;> (simp -implicitDefEqProofs (disch := omega) only [go_sem, rdObj, true_or, or_true]; done)
  refine n_ ?_
  refine wpM_regionK [4] rfl fun Q1 hQ1 => ?_
  refine S_ ?_
  refine call_fn (l := [(id, rdObj bs (q + 1))]) (first := []) (cap := []) (ps := [.ptr id 0]) (l2Addr_ok id bs (q + 1) hbs (by omega) (by omega)) Tryz.call88 rfl rfl rfl G_ T_ ?_
  rintro out ⟨_, q', ⟨a, rfl⟩, hqa, hqb, rfl⟩
  refine S_ ?_
  refine hQ1 _ _ (S_ ?_);clear hQ1 Q1
  refine wpM_le [(4, .ptr B 0)] [(B, .cells 27 (Ex.mk 2 0 a []).cs), (id, rdObj bs q')] T_ T_ T_ ?_
  refine wpM_ret ?_
  try refine S_ ?_
  first
  | refine hQ _ _ (ret0 [(id, some (rdObj bs (q + 1 + 1)))] rfl rfl rfl (by rw [Tryz.results78] <;> simp (maxSteps := 1000000) -implicitDefEqProofs (disch := omega) only [go_sem] <;> rfl) ⟨_, q + 1 + 1, ⟨Ex.mk 1 k2 ⟨0, 0⟩ [], by simpa [Ex.sz, Ex.szL] using hs1, rfl⟩, by omega, by omega, rfl⟩ ?_ ?_ ?_ ?_) <;> (simp -implicitDefEqProofs (disch := omega) only [go_sem, rdObj, true_or, or_true]; done)
  | refine hQ _ _ (ret0 [(id, some (rdObj bs q'))] rfl rfl rfl (by rw [Tryz.results78] <;> simp (maxSteps := 1000000) -implicitDefEqProofs (disch := omega) only [go_sem] <;> rfl) ⟨_, q', ⟨Ex.mk 2 0 a [], by simpa [Ex.sz, Ex.szL] using hs1, rfl⟩, by omega, by omega, rfl⟩ ?_ ?_ ?_ ?_) <;> (simp -implicitDefEqProofs (disch := omega) only [go_sem, rdObj, true_or, or_true]; done)
theorem expr_node (d : Nat) (id : Nat) (bs : List Nat) (q dep : Int) (hbs : Bs bs) (hq0 : 0 ≤ q) (hq : q + eb (d + 1) ≤ 1000000000000) (hd : decide (dep ≤ 1) = false) (hdep : dep ≤ 1000000)
    (ih : ∀ q', 0 ≤ q' → q' + eb d ≤ 1000000000000 → ExprD d id bs q' (dep - 1)) : ExprD (d + 1) id bs q dep := by
  have hb4 := eb_pos d
  have hs1 := es_pos d
  have hb5 : eb (d + 1) = 4 + 2 * eb d := rfl
  have hdep1 : 1 < dep := by simpa using hd
  have hs5 : es (d + 1) = 1 + 2 * es d := rfl
  refine callF_of' Tryz.func78 rfl Tryz.ntmps78 (by simp) ?_
  intro f0 B ns Q hB hns hQ
  have hid : id < B := hB id (by simp [hasKey, lk])
  obtain rfl : ns = [] := List.eq_nil_of_length_eq_zero hns
  refine g_ [0,1,4] ?_
  refine n_ ?_
  refine wpM_regionK [0,1,4,13] rfl fun Q1 hQ1 => ?_
  simp -implicitDefEqProofs (disch := omega) only [go_sem, hd]
  refine call_fn (l := [(id, rdObj bs q)]) (first := []) (cap := []) (ps := [.ptr id 0, .int .i64 4]) (pick_ok id bs q 4 hbs (by omega) (by omega) (by omega)) Tryz.call44 rfl rfl rfl G_ T_ ?_
  rintro out ⟨k0, rfl, h01, h02, h03⟩
  simp -implicitDefEqProofs (disch := omega) only [go_sem, hd]
  refine hQ1 _ _ (S_ ?_);clear hQ1 Q1
  refine c_ (fun hc0 => ?_) fun hc0 => ?_
  ·
    refine n_ ?_
    refine wpM_regionK [0,4,16] rfl fun Q1 hQ1 => ?_
    refine S_ ?_
    refine call_fn (l := [(id, rdObj bs (q + 1))]) (first := []) (cap := []) (ps := [.ptr id 0, .int .i64 3]) (pick_ok id bs (q + 1) 3 hbs (by omega) (by omega) (by omega)) Tryz.call44 rfl rfl rfl G_ T_ ?_
    rintro out ⟨k1, rfl, h1, h2, h3⟩
    refine S_ ?_
    refine hQ1 _ _ (S_ ?_);clear hQ1 Q1
    refine c_ (fun hc1 => ?_) fun hc1 => ?_
    ·
      refine n_ ?_
      refine wpM_regionK [4] rfl fun Q1 hQ1 => ?_
      refine S_ ?_
      refine call_fn (l := [(id, rdObj bs (q + 1 + 1)), (B + 1, .cells 3 (ints [0, 1, 2, 3, -1, 5, 1000000]))]) (first := []) (cap := []) (ps := [.ptr id 0, .sl 3 (B + 1) 0 7]) (num_ok id (B + 1) bs (q + 1 + 1) [0, 1, 2, 3, -1, 5, 1000000] 7 rfl (by omega) (by omega) (by omega) hbs (by omega) (by omega)) Tryz.call46 rfl rfl rfl G_ (by simp -implicitDefEqProofs (disch := omega) only [go_sem, ints, List.map_cons, List.map_nil]) ?_
      rintro out ⟨k2, rfl, h4⟩
      refine S_ ?_
      refine hQ1 _ _ (S_ ?_);clear hQ1 Q1
      refine wpM_le [(4, .ptr B 0)] [(B, .cells 27 (Ex.mk 1 k2 ⟨0, 0⟩ []).cs), (id, rdObj bs (q + 1 + 1 + 1))] T_ T_ T_ ?_
      refine wpM_ret ?_
      try refine S_ ?_
      first
      | refine hQ _ _ (ret0 [(id, some (rdObj bs (q + 1 + 1 + 1)))] rfl rfl rfl (by rw [Tryz.results78] <;> simp (maxSteps := 1000000) -implicitDefEqProofs (disch := omega) only [go_sem] <;> rfl) ⟨_, q + 1 + 1 + 1, ⟨Ex.mk 1 k2 ⟨0, 0⟩ [], by simp only [Ex.sz, Ex.szL]; omega, rfl⟩, by omega, by omega, rfl⟩ ?_ ?_ ?_ ?_) <;> (simp -implicitDefEqProofs (disch := omega) only [go_sem, rdObj, true_or, or_true]; done)
      | refine hQ _ _ (ret0 [(id, some (rdObj bs q'))] rfl rfl rfl (by rw [Tryz.results78] <;> simp (maxSteps := 1000000) -implicitDefEqProofs (disch := omega) only [go_sem] <;> rfl) ⟨_, q', ⟨Ex.mk 2 0 a [], by simp only [Ex.sz, Ex.szL]; omega, rfl⟩, by omega, by omega, rfl⟩ ?_ ?_ ?_ ?_) <;> (simp -implicitDefEqProofs (disch := omega) only [go_sem, rdObj, true_or, or_true]; done)
      | refine hQ _ _ (ret0 [(id, some (rdObj bs q'))] rfl rfl rfl (by rw [Tryz.results78] <;> simp (maxSteps := 1000000) -implicitDefEqProofs (disch := omega) only [go_sem] <;> rfl) ⟨_, q', ⟨Ex.mk k5 0 ⟨0, 0⟩ l, by (have : Ex.szL l ≤ 2 * es d := (by rcases hr with h | h <;> rw [h] at hsz <;> omega)); simp only [Ex.sz]; omega, rfl⟩, by omega, by omega, rfl⟩ ?_ ?_ ?_ ?_) <;> (simp -implicitDefEqProofs (disch := omega) only [go_sem, rdObj, true_or, or_true]; done)
    refine n_ ?_
    refine wpM_regionK [4] rfl fun Q1 hQ1 => ?_
    refine S_ ?_
    refine call_fn (l := [(id, rdObj bs (q + 1 + 1))]) (first := []) (cap := []) (ps := [.ptr id 0]) (l2Addr_ok id bs (q + 1 + 1) hbs (by omega) (by omega)) Tryz.call88 rfl rfl rfl G_ T_ ?_
    rintro out ⟨_, q', ⟨a, rfl⟩, hqa, hqb, rfl⟩
    refine S_ ?_
    refine hQ1 _ _ (S_ ?_);clear hQ1 Q1
    refine wpM_le [(4, .ptr B 0)] [(B, .cells 27 (Ex.mk 2 0 a []).cs), (id, rdObj bs q')] T_ T_ T_ ?_
    refine wpM_ret ?_
    try refine S_ ?_
    first
    | refine hQ _ _ (ret0 [(id, some (rdObj bs (q + 1 + 1 + 1)))] rfl rfl rfl (by rw [Tryz.results78] <;> simp (maxSteps := 1000000) -implicitDefEqProofs (disch := omega) only [go_sem] <;> rfl) ⟨_, q + 1 + 1 + 1, ⟨Ex.mk 1 k2 ⟨0, 0⟩ [], by simp only [Ex.sz, Ex.szL]; omega, rfl⟩, by omega, by omega, rfl⟩ ?_ ?_ ?_ ?_) <;> (simp -implicitDefEqProofs (disch := omega) only [go_sem, rdObj, true_or, or_true]; done)
    | refine hQ _ _ (ret0 [(id, some (rdObj bs q'))] rfl rfl rfl (by rw [Tryz.results78] <;> simp (maxSteps := 1000000) -implicitDefEqProofs (disch := omega) only [go_sem] <;> rfl) ⟨_, q', ⟨Ex.mk 2 0 a [], by simp only [Ex.sz, Ex.szL]; omega, rfl⟩, by omega, by omega, rfl⟩ ?_ ?_ ?_ ?_) <;> (simp -implicitDefEqProofs (disch := omega) only [go_sem, rdObj, true_or, or_true]; done)
    | refine hQ _ _ (ret0 [(id, some (rdObj bs q'))] rfl rfl rfl (by rw [Tryz.results78] <;> simp (maxSteps := 1000000) -implicitDefEqProofs (disch := omega) only [go_sem] <;> rfl) ⟨_, q', ⟨Ex.mk k5 0 ⟨0, 0⟩ l, by (have : Ex.szL l ≤ 2 * es d := (by rcases hr with h | h <;> rw [h] at hsz <;> omega)); simp only [Ex.sz]; omega, rfl⟩, by omega, by omega, rfl⟩ ?_ ?_ ?_ ?_) <;> (simp -implicitDefEqProofs (disch := omega) only [go_sem, rdObj, true_or, or_true]; done)
  refine n_ ?_
  refine wpM_regionK [0,1,4,5] rfl fun Q1 hQ1 => ?_
  refine S_ ?_
  refine call_fn (l := [(id, rdObj bs (q + 1)), (B + 1, .cells 3 (ints [3, 3, 4, 5, 6, 6, 7, 8, 9, 10]))]) (first := []) (cap := []) (ps := [.ptr id 0, .sl 3 (B + 1) 0 10]) (num_ok id (B + 1) bs (q + 1) [3, 3, 4, 5, 6, 6, 7, 8, 9, 10] 10 rfl (by omega) (by omega) (by omega) hbs (by omega) (by omega)) Tryz.call46 rfl rfl rfl G_ (by simp -implicitDefEqProofs (disch := omega) only [go_sem, ints, List.map_cons, List.map_nil]) ?_
  rintro out ⟨k5, rfl, h5⟩
  refine S_ ?_
  refine hQ1 _ _ (S_ ?_);clear hQ1 Q1
  refine n_ ?_
  refine wpM_regionK [0,1,4,5,6] rfl fun Q1 hQ1 => ?_
  refine S_ ?_
  refine cp_ (l3Kids_ok k5) Tryz.call51 ?_
  refine hQ1 _ _ (S_ ?_);clear hQ1 Q1
  obtain ⟨n, hkn, hn1, hn2⟩ : ∃ n : Nat, kidsN k5 = (n : Int) ∧ 1 ≤ n ∧ n ≤ 2 := by
    simp only [List.mem_cons, List.not_mem_nil, or_false] at h5
    rcases h5 with rfl | rfl | rfl | rfl | rfl | rfl | rfl | rfl | rfl | rfl <;> first | exact ⟨2, rfl, by omega, by omega⟩ | exact ⟨1, rfl, by omega, by omega⟩
  rw [hkn]
  refine n_ ?_
  refine wpM_loopS (fun s r s' => (r = n ∧ s' = s) ∨ ∃ (M0 y : Nat) (l : List Ex) (q' : Int), 0 < l.length ∧ l.length + r = n ∧ s.M ≤ y ∧ y < M0 ∧ Ex.szL l ≤ l.length * es d ∧ q + 2 ≤ q' ∧ q' ≤ q + 2 + (l.length : Int) * eb d ∧ s' = { s with env := setE 6 (.int .i64 (r : Nat)) s.env, l := (y, .cells 27 (exc l)) :: setl (B + 2) (.cells 27 [.int .i64 k5, .int .i64 0, .int .i64 0, .int .i64 0, .sl 27 y 0 l.length]) (setl id (rdObj bs q') s.l), M := M0 }) (n) ?_ ?_
  ·
    refine .of' _ _ (.inl ⟨rfl, rfl⟩) ?_ ?_ ?_ <;> exact L_
  rintro r s' (⟨rfl, rfl⟩ | ⟨M0, y, l, q', hl0, hlr, hy, hyM, hsz, hqa, hqb, rfl⟩)
  ·
    try refine S_ ?_
    refine g_ [0,1,4,5,6,32] ?_
    refine c_ (fun hc2 => ?_) fun hc2 => ?_
    ·
      skip
      refine n_ ?_
      refine dr_ mixed [0,1,4,5,6] 2 2 [B + 2, id, B + 3, B + 4] [⟨[5],[],[],[],false⟩,⟨[35],[0],[],[],false⟩,⟨[0],[],[],[],false⟩,⟨[1],[],[],[],false⟩,⟨[38],[],[],[],false⟩,⟨[37,39],[1],[1],[],true⟩,⟨[40],[],[],[2],false⟩,⟨[36,41],[2],[],[3],false⟩,⟨[5],[],[],[],false⟩,⟨[42,43],[0],[0],[],false⟩] [0,1,2,3,4,5,6,7,8,9] [[],[0],[],[],[3],[2,3,4],[2,3,4,5],[0,1,2,3,4,5,6],[0,1,2,3,4,5,6,7],[0,1,2,3,4,5,6,7,8]] 4 (htbl := by simp; omega) (hnm := by simp) ?_
      intro O A K hO hA hK;simp only [atL_cons,atL_nil,Nat.reduceAdd,Nat.zero_add] at hO hA
      refine SO_ ?_
      refine loud_fn (first := []) (cap := []) (ps := [.ptr id 0, .int .i64 (dep - 1)]) (l := [(id, rdObj bs (q + 1 + 1))]) (ih (q + 1 + 1) (by omega) (by omega)) Tryz.call78 rfl rfl F_ (subG_spec T_) rfl ?_
      rintro out ⟨_, q', ⟨e, hes, rfl⟩, hqa, hqb, rfl⟩
      refine ⟨rfl, ?_⟩
      refine SO_ ?_
      refine hK _ (S_ ?_);clear hK K hO hA O A
      refine g_ [0,1,4,5,6] ?_
      have e1 : [PV.int .i64 e.kind, .int .i64 e.n, .int .i64 e.a.kind, .int .i64 e.a.at', .rows 27 (Ex.csL e.kids)] = exc [e] := by rw [← exc_one, Ex.cs_eq]
      rw [e1, show ((r : Int) - 1) = ((r - 1 : Nat) : Int) by omega]
      refine .of' _ _ ⟨r - 1, by omega, .inr ⟨_, B + 4, [e], q', by simp, by simp; omega, ?_, ?_, by simp [Ex.szL]; omega, by omega, by simp; omega, rfl⟩⟩ ?_ ?_ ?_
      · first | omega | (simp -implicitDefEqProofs (disch := omega) only [go_sem]; done) | (simp -implicitDefEqProofs (disch := omega) only [go_sem]; omega)
      · first | omega | (simp -implicitDefEqProofs (disch := omega) only [go_sem]; done) | (simp -implicitDefEqProofs (disch := omega) only [go_sem]; omega)
      all_goals exact L_
    exfalso; omega
  dsimp only at hy
  have hr : l.length = 1 ∨ l.length = 2 := by omega
  have hqb2 : q' ≤ q + 2 + 2 * eb d := by rcases hr with h | h <;> rw [h] at hqb <;> omega
  try refine S_ ?_
  refine g_ [0,1,4,5,6,32] ?_
  refine c_ (fun hc2 => ?_) fun hc2 => ?_
  ·
    have hr1 : l.length = 1 := by omega
    have hqb3 : q' ≤ q + 2 + eb d := by rw [hr1] at hqb; omega
    refine n_ ?_
    refine dr_ mixed [0,1,4,5,6] 2 3 [B + 2, id, y, M0, M0 + 1] [⟨[5],[],[],[],false⟩,⟨[35],[0],[],[],false⟩,⟨[0],[],[],[],false⟩,⟨[1],[],[],[],false⟩,⟨[38],[],[],[],false⟩,⟨[37,39],[1],[1],[],true⟩,⟨[40],[],[],[3],false⟩,⟨[36,41],[2,3],[2],[4],false⟩,⟨[5],[],[],[],false⟩,⟨[42,43],[0],[0],[],false⟩] [0,1,2,3,4,5,6,7,8,9] [[],[0],[],[],[3],[2,3,4],[2,3,4,5],[0,1,2,3,4,5,6],[0,1,2,3,4,5,6,7],[0,1,2,3,4,5,6,7,8]] 5 (htbl := by simp; omega) (hnm := by simp) ?_
    intro O A K hO hA hK;simp only [atL_cons,atL_nil,Nat.reduceAdd,Nat.zero_add] at hO hA
    refine SO_ ?_
    refine loud_fn (first := []) (cap := []) (ps := [.ptr id 0, .int .i64 (dep - 1)]) (l := [(id, rdObj bs q')]) (ih q' (by omega) (by omega)) Tryz.call78 rfl rfl F_ (subG_spec T_) rfl ?_
    rintro out ⟨_, q2, ⟨e, hes, rfl⟩, hqc, hqd, rfl⟩
    refine ⟨rfl, ?_⟩
    refine SO_ ?_
    refine hK _ (S_ ?_);clear hK K hO hA O A
    refine g_ [0,1,4,5,6] ?_
    have e1 : exc l ++ [PV.int .i64 e.kind, .int .i64 e.n, .int .i64 e.a.kind, .int .i64 e.a.at', .rows 27 (Ex.csL e.kids)] = exc (l ++ [e]) := by rw [← exc_app, Ex.cs_eq e]
    rw [e1, show ((r : Int) - 1) = ((r - 1 : Nat) : Int) by omega]
    refine .of' _ _ ⟨r - 1, by omega, .inr ⟨_, M0 + 1, l ++ [e], q2, by simp, by simp; omega, ?_, ?_, by rw [Ex.szL_app, List.length_append, hr1]; rw [hr1] at hsz; simp; omega, by omega, by rw [List.length_append, hr1]; simp; omega, rfl⟩⟩ ?_ ?_ ?_
    · first | omega | (simp -implicitDefEqProofs (disch := omega) only [go_sem]; done) | (simp -implicitDefEqProofs (disch := omega) only [go_sem]; omega)
    · first | omega | (simp -implicitDefEqProofs (disch := omega) only [go_sem]; done) | (simp -implicitDefEqProofs (disch := omega) only [go_sem]; omega)
    all_goals exact L_
  refine n_ ?_
  have hr0 : r = 0 := by omega
  refine wpM_frz [y] [(27, y, 0, l.length, Ex.csL l)] (by intro q hq; simp at hq; subst hq; simp -implicitDefEqProofs (disch := omega) only [go_sem]) (by intro q hq; simp only [List.mem_cons, List.not_mem_nil, or_false] at hq; subst hq; exact ⟨by simp, rowsOf_exc (T := 27) T_⟩) ?_
  simp -implicitDefEqProofs (disch := omega) only [go_sem, rdObj]
  refine g_ [4] ?_
  refine wpM_ret ?_
  try refine S_ ?_
  first
  | refine hQ _ _ (ret0 [(id, some (rdObj bs (q + 1 + 1 + 1)))] rfl rfl rfl (by rw [Tryz.results78] <;> simp (maxSteps := 1000000) -implicitDefEqProofs (disch := omega) only [go_sem] <;> rfl) ⟨_, q + 1 + 1 + 1, ⟨Ex.mk 1 k2 ⟨0, 0⟩ [], by simp only [Ex.sz, Ex.szL]; omega, rfl⟩, by omega, by omega, rfl⟩ ?_ ?_ ?_ ?_) <;> (simp -implicitDefEqProofs (disch := omega) only [go_sem, rdObj, true_or, or_true]; done)
  | refine hQ _ _ (ret0 [(id, some (rdObj bs q'))] rfl rfl rfl (by rw [Tryz.results78] <;> simp (maxSteps := 1000000) -implicitDefEqProofs (disch := omega) only [go_sem] <;> rfl) ⟨_, q', ⟨Ex.mk 2 0 a [], by simp only [Ex.sz, Ex.szL]; omega, rfl⟩, by omega, by omega, rfl⟩ ?_ ?_ ?_ ?_) <;> (simp -implicitDefEqProofs (disch := omega) only [go_sem, rdObj, true_or, or_true]; done)
  | refine hQ _ _ (ret0 [(id, some (rdObj bs q'))] rfl rfl rfl (by rw [Tryz.results78] <;> simp (maxSteps := 1000000) -implicitDefEqProofs (disch := omega) only [go_sem] <;> rfl) ⟨_, q', ⟨Ex.mk k5 0 ⟨0, 0⟩ l, by (have : Ex.szL l ≤ 2 * es d := (by rcases hr with h | h <;> rw [h] at hsz <;> omega)); simp only [Ex.sz]; omega, rfl⟩, by omega, by omega, rfl⟩ ?_ ?_ ?_ ?_) <;> (simp -implicitDefEqProofs (disch := omega) only [go_sem, rdObj, true_or, or_true]; done)
theorem l3Expr_ok (id : Nat) (bs : List Nat) (hbs : Bs bs) (d : Nat) : ∀ (q dep : Int), 0 ≤ q → q + eb d ≤ 1000000000000 → dep ≤ (d : Int) + 1 → dep ≤ 1000000 → ExprD d id bs q dep := by
  induction d with
  | zero => intro q dep h1 h2 h3 h4; exact expr_leaf 0 id bs q dep hbs h1 h2 (by simp; omega)
  | succ d ih =>
    intro q dep h1 h2 h3 h4
    by_cases hd : dep ≤ 1
    · exact expr_leaf (d + 1) id bs q dep hbs h1 h2 (by simp [hd])
    · exact expr_node d id bs q dep hbs h1 h2 (by simp [hd]) h4 (fun q' g1 g2 => ih q' (dep - 1) g1 g2 (by omega) (by omega))
end Go.Proofs.YtmicbfojofcigaaGreat
namespace Go.Proofs.YtmicbfojofcigaaGreat
open Go Sg
set_option linter.unusedSectionVars false
variable [Glob]
set_option maxRecDepth 100000
set_option linter.unusedSimpArgs false
set_option linter.unusedVariables false
set_option maxHeartbeats 4000000
theorem l3Copy_ok : ∀ (N : Nat) (e : Ex), e.sz ≤ N → e.sz ≤ 1099511627776 → PureF Tryz.prog 24 [.agg e.cs] [.agg e.cs] := by
  intro N
  induction N with
  | zero => intro e h; have := e.sz_pos; omega
  | succ N ih =>
    intro e hN hs
    have hlen := e.kids_len
    refine pureF_of Tryz.func24 rfl Tryz.ntmps24 (by simp) T_ ?_
    intro f0 B Q hQ
    refine g_ [1,2] ?_
    refine g_ [1,2,3] ?_
    refine g_ [1,2,3,4] ?_
    refine n_ ?_
    refine wpM_loopS (fun s r s' => (r = e.kids.length ∧ s' = s) ∨ ∃ (i0 M0 y : Nat), 0 < i0 ∧ i0 + r = e.kids.length ∧ s.M ≤ y ∧ y < M0 ∧ s' = { s with env := setE 4 (.int .i64 (i0 : Nat)) s.env, l := (y, .cells 27 (exc (e.kids.take i0))) :: setl (B + 2) (.cells 27 [.int .i64 e.kind, .int .i64 e.n, .int .i64 e.a.kind, .int .i64 e.a.at', .sl 27 y 0 i0]) s.l, M := M0 }) (e.kids.length) ?_ ?_
    ·
      refine .of' _ _ (.inl ⟨rfl, rfl⟩) ?_ ?_ ?_ <;> exact L_
    rintro r s' (⟨rfl, rfl⟩ | ⟨i0, M0, y, hi0, hir, hy, hyM, rfl⟩)
    ·
      try refine S_ ?_
      refine g_ [1,2,3,4,16] ?_
      refine c_ (fun hc0 => ?_) fun hc0 => ?_
      ·
        have hks := Ex.kid_sz (e := e) (k := 0) (by omega)
        refine n_ ?_
        refine dr_ mixed [1,2,3,4] 2 2 [B + 2, B, B + 3, B + 4] [⟨[3],[],[],[],false⟩,⟨[19],[0],[],[],false⟩,⟨[1],[],[],[],false⟩,⟨[21],[1],[],[],false⟩,⟨[4],[],[],[],false⟩,⟨[22,23],[],[],[],false⟩,⟨[24],[],[],[],false⟩,⟨[25],[],[],[],true⟩,⟨[26],[],[],[2],false⟩,⟨[20,27],[2],[],[3],false⟩,⟨[3],[],[],[],false⟩,⟨[28,29],[0],[0],[],false⟩] [0,1,2,3,4,5,6,7,8,9,10,11] [[],[0],[],[2],[],[2,3,4],[2,3,4,5],[2,3,4,5,6],[2,3,4,5,6,7],[0,1,2,3,4,5,6,7,8],[0,1,2,3,4,5,6,7,8,9],[0,1,2,3,4,5,6,7,8,9,10]] 4 ?_
        intro O A K hO hA hK;simp only [atL_cons,atL_nil,Nat.reduceAdd,Nat.zero_add] at hO hA
        simp -implicitDefEqProofs (disch := omega) only [go_sem, exc_len, hO, hA]
        refine loud_p (ih (e.kids.getD 0 default) (by omega) (by omega)) Tryz.call24 rfl rfl (by first | rfl | (simp -implicitDefEqProofs (disch := omega) only [go_sem] <;> rfl)) rfl ?_
        simp -implicitDefEqProofs (disch := omega) only [go_sem, exc_len, hO, hA]
        refine hK _ (S_ ?_);clear hK K hO hA O A
        refine g_ [1,2,3,4] ?_
        have e1 : [PV.int .i64 (e.kids.getD 0 default).kind, .int .i64 (e.kids.getD 0 default).n, .int .i64 (e.kids.getD 0 default).a.kind, .int .i64 (e.kids.getD 0 default).a.at', .rows 27 (Ex.csL (e.kids.getD 0 default).kids)] = exc (e.kids.take 1) := by
          have this0 : e.kids.getD 0 default = e.kids[0] := by simp [List.getD, show 0 < e.kids.length by omega]
          rw [List.take_succ_eq_append_getElem (by omega), List.take_zero, List.nil_append, ← exc_one, ← this0, Ex.cs_eq]
        rw [e1]
        refine .of' _ _ ⟨e.kids.length - 1, by omega, .inr ⟨1, _, B + 4, by omega, by omega, ?_, ?_, rfl⟩⟩ ?_ ?_ ?_
        · first | omega | (simp -implicitDefEqProofs (disch := omega) only [go_sem]; done) | (simp -implicitDefEqProofs (disch := omega) only [go_sem]; omega)
        · first | omega | (simp -implicitDefEqProofs (disch := omega) only [go_sem]; done) | (simp -implicitDefEqProofs (disch := omega) only [go_sem]; omega)
        all_goals exact L_
      refine n_ ?_
      have hk0 : e.kids = [] := List.eq_nil_of_length_eq_zero (by omega)
      refine wpM_le [(2, .ptr (B + 1) 0), (3, .ptr (B + 2) 0)] [(B + 2, .cells 27 e.cs), (B + 1, .cells 27 [.int .i64 0, .int .i64 0, .int .i64 0, .int .i64 0, .emp])] (by simp -implicitDefEqProofs (disch := omega) only [go_sem, hk0]) (by simp -implicitDefEqProofs (disch := omega) only [go_sem, hk0]) T_ ?_
      refine g_ [2] ?_
      refine e_ Tryz.results24 ?_
      first
      | exact True.intro
      | rfl
    dsimp only at hy
    try refine S_ ?_
    refine g_ [1,2,3,4,16] ?_
    refine c_ (fun hc0 => ?_) fun hc0 => ?_
    ·
      have hks := Ex.kid_sz (e := e) (k := i0) (by omega)
      have htl : (e.kids.take i0).length = i0 := by simp; omega
      refine n_ ?_
      refine dr_ mixed [1,2,3,4] 2 3 [B + 2, B, y, M0, M0 + 1] [⟨[3],[],[],[],false⟩,⟨[19],[0],[],[],false⟩,⟨[1],[],[],[],false⟩,⟨[21],[1],[],[],false⟩,⟨[4],[],[],[],false⟩,⟨[22,23],[],[],[],false⟩,⟨[24],[],[],[],false⟩,⟨[25],[],[],[],true⟩,⟨[26],[],[],[3],false⟩,⟨[20,27],[2,3],[2],[4],false⟩,⟨[3],[],[],[],false⟩,⟨[28,29],[0],[0],[],false⟩] [0,1,2,3,4,5,6,7,8,9,10,11] [[],[0],[],[2],[],[2,3,4],[2,3,4,5],[2,3,4,5,6],[2,3,4,5,6,7],[0,1,2,3,4,5,6,7,8],[0,1,2,3,4,5,6,7,8,9],[0,1,2,3,4,5,6,7,8,9,10]] 5 (htbl := by simp; omega) (hnm := by simp) ?_
      intro O A K hO hA hK;simp only [atL_cons,atL_nil,Nat.reduceAdd,Nat.zero_add] at hO hA
      simp -implicitDefEqProofs (disch := omega) only [go_sem, htl, hO, hA]
      refine loud_p (ih (e.kids.getD i0 default) (by omega) (by omega)) Tryz.call24 rfl rfl (by first | rfl | (simp -implicitDefEqProofs (disch := omega) only [go_sem] <;> rfl)) rfl ?_
      simp -implicitDefEqProofs (disch := omega) only [go_sem, htl, hO, hA]
      refine hK _ (S_ ?_);clear hK K hO hA O A
      refine g_ [1,2,3,4] ?_
      have e1 : exc (e.kids.take i0) ++ [.int .i64 (e.kids.getD i0 default).kind, .int .i64 (e.kids.getD i0 default).n, .int .i64 (e.kids.getD i0 default).a.kind, .int .i64 (e.kids.getD i0 default).a.at', .rows 27 (Ex.csL (e.kids.getD i0 default).kids)] = exc (e.kids.take (i0 + 1)) := by
        rw [List.take_succ_eq_append_getElem (by omega), ← exc_app, Ex.cs_eq]
        have : e.kids.getD i0 default = e.kids[i0] := by simp [List.getD, show i0 < e.kids.length by omega]
        rw [this]
      rw [e1]
      refine .of' _ _ ⟨r - 1, by omega, .inr ⟨i0 + 1, _, M0 + 1, by omega, by omega, ?_, ?_, rfl⟩⟩ ?_ ?_ ?_
      · first | omega | (simp -implicitDefEqProofs (disch := omega) only [go_sem]; done) | (simp -implicitDefEqProofs (disch := omega) only [go_sem]; omega)
      · first | omega | (simp -implicitDefEqProofs (disch := omega) only [go_sem]; done) | (simp -implicitDefEqProofs (disch := omega) only [go_sem]; omega)
      all_goals exact L_
    refine n_ ?_
    have hie : i0 = e.kids.length := by omega
    have htl : e.kids.take i0 = e.kids := by rw [hie, List.take_of_length_le (Nat.le_refl _)]
    rw [htl]
    refine wpM_frz [y] [(27, y, 0, i0, Ex.csL e.kids)] (by intro q hq; simp at hq; subst hq; simp -implicitDefEqProofs (disch := omega) only [go_sem]) (by intro q hq; simp only [List.mem_cons, List.not_mem_nil, or_false] at hq; subst hq; rw [hie]; exact ⟨by simp, rowsOf_exc (T := 27) T_⟩) ?_
    simp -implicitDefEqProofs (disch := omega) only [go_sem]
    refine g_ [2] ?_
    refine e_ Tryz.results24 ?_
    first
    | exact True.intro
    | rfl
theorem l3Some_ok (id : Nat) (bs : List Nat) (q : Int) (hbs : Bs bs) (hq0 : 0 ≤ q) (hq : q + 153 ≤ 1000000000000) : RdF 43 [] id bs q 153 (fun v => ∃ e : Ex, e.sz ≤ 31 ∧ v = .agg e.cs) := by
  refine callF_of' Tryz.func43 rfl Tryz.ntmps43 (by simp) ?_
  intro f0 B ns Q hB hns hQ
  have hid : id < B := hB id (by simp [hasKey, lk])
  obtain rfl : ns = [] := List.eq_nil_of_length_eq_zero hns
  have b4 : eb 4 = 124 := rfl
  have b2 : eb 2 = 28 := rfl
  have s4 : es 4 = 31 := rfl
  have s2 : es 2 = 7 := rfl
  refine g_ [0,2] ?_
  refine n_ ?_
  refine wpM_regionK [0,2,3] rfl fun Q1 hQ1 => ?_
  refine S_ ?_
  refine call_fn (l := [(id, rdObj bs q)]) (first := []) (cap := []) (ps := [.ptr id 0, .int .i64 4]) (pick_ok id bs q 4 hbs (by omega) (by omega) (by omega)) Tryz.call44 rfl rfl rfl G_ T_ ?_
  rintro out ⟨k1, rfl, h1, h2, h3⟩
  refine S_ ?_
  refine call_fn (l := [(id, rdObj bs (q + 1))]) (first := []) (cap := []) (ps := [.ptr id 0, .int .i64 (1 + k1)]) (l3Expr_ok id bs hbs 4 (q + 1) (1 + k1) (by omega) (by omega) (by omega) (by omega)) Tryz.call78 rfl rfl rfl G_ T_ ?_
  rintro out ⟨_, q', ⟨e, hes, rfl⟩, hqa, hqb, rfl⟩
  refine S_ ?_
  refine hQ1 _ _ (S_ ?_);clear hQ1 Q1
  refine n_ ?_
  refine wpM_regionK [0,2,3,11] rfl fun Q1 hQ1 => ?_
  refine S_ ?_
  refine cp_ (exprOk_ok e (by omega)) Tryz.call9 ?_
  refine hQ1 _ _ (S_ ?_);clear hQ1 Q1
  refine c_ (fun hc0 => ?_) fun hc0 => ?_
  ·
    refine n_ ?_
    refine wpM_regionK [2] rfl fun Q1 hQ1 => ?_
    refine S_ ?_
    refine call_fn (l := [(id, rdObj bs q')]) (first := []) (cap := []) (ps := [.ptr id 0, .int .i64 2]) (l3Expr_ok id bs hbs 2 q' 2 (by omega) (by omega) (by omega) (by omega)) Tryz.call78 rfl rfl rfl G_ T_ ?_
    rintro out ⟨_, q2, ⟨e2, hes2, rfl⟩, hqc, hqd, rfl⟩
    refine S_ ?_
    refine hQ1 _ _ (S_ ?_);clear hQ1 Q1
    refine wpM_ret ?_
    try refine S_ ?_
    first
    | refine hQ _ _ (ret0 [(id, some (rdObj bs q2))] rfl rfl rfl (by rw [Tryz.results43] <;> simp (maxSteps := 1000000) -implicitDefEqProofs (disch := omega) only [go_sem] <;> rfl) ⟨_, q2, ⟨e2, by omega, rfl⟩, by omega, by omega, rfl⟩ ?_ ?_ ?_ ?_) <;> (simp -implicitDefEqProofs (disch := omega) only [go_sem, rdObj, true_or, or_true]; done)
    | refine hQ _ _ (ret0 [(id, some (rdObj bs q'))] rfl rfl rfl (by rw [Tryz.results43] <;> simp (maxSteps := 1000000) -implicitDefEqProofs (disch := omega) only [go_sem] <;> rfl) ⟨_, q', ⟨e, by omega, rfl⟩, by omega, by omega, rfl⟩ ?_ ?_ ?_ ?_) <;> (simp -implicitDefEqProofs (disch := omega) only [go_sem, rdObj, true_or, or_true]; done)
  refine g_ [2] ?_
  refine wpM_ret ?_
  try refine S_ ?_
  first
  | refine hQ _ _ (ret0 [(id, some (rdObj bs q2))] rfl rfl rfl (by rw [Tryz.results43] <;> simp (maxSteps := 1000000) -implicitDefEqProofs (disch := omega) only [go_sem] <;> rfl) ⟨_, q2, ⟨e2, by omega, rfl⟩, by omega, by omega, rfl⟩ ?_ ?_ ?_ ?_) <;> (simp -implicitDefEqProofs (disch := omega) only [go_sem, rdObj, true_or, or_true]; done)
  | refine hQ _ _ (ret0 [(id, some (rdObj bs q'))] rfl rfl rfl (by rw [Tryz.results43] <;> simp (maxSteps := 1000000) -implicitDefEqProofs (disch := omega) only [go_sem] <;> rfl) ⟨_, q', ⟨e, by omega, rfl⟩, by omega, by omega, rfl⟩ ?_ ?_ ?_ ?_) <;> (simp -implicitDefEqProofs (disch := omega) only [go_sem, rdObj, true_or, or_true]; done)
theorem l3Bent_ok (id : Nat) (bs : List Nat) (q : Int) (hbs : Bs bs) (hq0 : 0 ≤ q) (hq : q + 158 ≤ 1000000000000) : RdF 28 [] id bs q 158 (fun v => ∃ e : Ex, e.sz ≤ 1000 ∧ v = .agg e.cs) := by
  refine callF_of' Tryz.func28 rfl Tryz.ntmps28 (by simp) ?_
  intro f0 B ns Q hB hns hQ
  have hid : id < B := hB id (by simp [hasKey, lk])
  obtain rfl : ns = [] := List.eq_nil_of_length_eq_zero hns
  refine g_ [0,2] ?_
  refine n_ ?_
  refine wpM_regionK [0,2,3] rfl fun Q1 hQ1 => ?_
  refine S_ ?_
  refine call_fn (l := [(id, rdObj bs q)]) (first := []) (cap := []) (ps := [.ptr id 0]) (l3Some_ok id bs q hbs (by omega) (by omega)) Tryz.call43 rfl rfl rfl G_ T_ ?_
  rintro out ⟨_, q', ⟨e, hes, rfl⟩, hqa, hqb, rfl⟩
  refine S_ ?_
  refine hQ1 _ _ (S_ ?_);clear hQ1 Q1
  refine n_ ?_
  refine wpM_regionK [0,2,3,9] rfl fun Q1 hQ1 => ?_
  refine S_ ?_
  refine call_fn (l := [(id, rdObj bs q')]) (first := []) (cap := []) (ps := [.ptr id 0, .int .i64 60]) (pick_ok id bs q' 60 hbs (by omega) (by omega) (by omega)) Tryz.call44 rfl rfl rfl G_ T_ ?_
  rintro out ⟨k1, rfl, h1, h2, h3⟩
  refine S_ ?_
  refine hQ1 _ _ (S_ ?_);clear hQ1 Q1
  refine g_ [0,2,3,9,10] ?_
  refine c_ (fun hc0 => ?_) fun hc0 => ?_
  ·
    refine wpM_regionK [2,3] rfl fun Q1 hQ1 => ?_
    refine S_ ?_
    refine call_fn (l := [(id, rdObj bs (q' + 1)), (B + 2, .cells 3 (ints [0, 11, 3, 10]))]) (first := []) (cap := []) (ps := [.ptr id 0, .sl 3 (B + 2) 0 4]) (num_ok id (B + 2) bs (q' + 1) [0, 11, 3, 10] 4 rfl (by omega) (by omega) (by omega) hbs (by omega) (by omega)) Tryz.call46 rfl rfl rfl G_ (by simp -implicitDefEqProofs (disch := omega) only [go_sem, ints, List.map_cons, List.map_nil]) ?_
    rintro out ⟨k2, rfl, h4⟩
    refine S_ ?_
    refine hQ1 _ _ (S_ ?_);clear hQ1 Q1
    refine g_ [2] ?_
    refine wpM_ret ?_
    try refine S_ ?_
    first
    | refine hQ _ _ (ret0 [(id, some (rdObj bs (q' + 1 + 1)))] rfl rfl rfl (by rw [Tryz.results28] <;> simp (maxSteps := 1000000) -implicitDefEqProofs (disch := omega) only [go_sem] <;> rfl) ⟨_, q' + 1 + 1, ⟨Ex.mk k2 e.n e.a e.kids, by rw [Ex.sz_eq] at hes; simp only [Ex.sz]; omega, by first | rfl | (rw [Ex.cs_eq]; done)⟩, by omega, by omega, rfl⟩ ?_ ?_ ?_ ?_) <;> (simp -implicitDefEqProofs (disch := omega) only [go_sem, rdObj, true_or, or_true]; done)
    | refine hQ _ _ (ret0 [(id, some (rdObj bs (q' + 1 + 1)))] rfl rfl rfl (by rw [Tryz.results28] <;> simp (maxSteps := 1000000) -implicitDefEqProofs (disch := omega) only [go_sem] <;> rfl) ⟨_, q' + 1 + 1, ⟨Ex.mk e.kind k3 e.a e.kids, by rw [Ex.sz_eq] at hes; simp only [Ex.sz]; omega, by first | rfl | (rw [Ex.cs_eq]; done)⟩, by omega, by omega, rfl⟩ ?_ ?_ ?_ ?_) <;> (simp -implicitDefEqProofs (disch := omega) only [go_sem, rdObj, true_or, or_true]; done)
    | refine hQ _ _ (ret0 [(id, some (rdObj bs (q2)))] rfl rfl rfl (by rw [Tryz.results28] <;> simp (maxSteps := 1000000) -implicitDefEqProofs (disch := omega) only [go_sem] <;> rfl) ⟨_, q2, ⟨Ex.mk e.kind e.n a e.kids, by rw [Ex.sz_eq] at hes; simp only [Ex.sz]; omega, by first | rfl | (rw [Ex.cs_eq]; done)⟩, by omega, by omega, rfl⟩ ?_ ?_ ?_ ?_) <;> (simp -implicitDefEqProofs (disch := omega) only [go_sem, rdObj, true_or, or_true]; done)
    | refine hQ _ _ (ret0 [(id, some (rdObj bs (q' + 1)))] rfl rfl rfl (by rw [Tryz.results28] <;> simp (maxSteps := 1000000) -implicitDefEqProofs (disch := omega) only [go_sem] <;> rfl) ⟨_, q' + 1, ⟨e0, by omega, by first | rfl | (rw [Ex.cs_eq]; done)⟩, by omega, by omega, rfl⟩ ?_ ?_ ?_ ?_) <;> (simp -implicitDefEqProofs (disch := omega) only [go_sem, rdObj, true_or, or_true]; done)
    | refine hQ _ _ (ret0 [(id, some (rdObj bs (q' + 1)))] rfl rfl rfl (by rw [Tryz.results28] <;> simp (maxSteps := 1000000) -implicitDefEqProofs (disch := omega) only [go_sem] <;> rfl) ⟨_, q' + 1, ⟨e0, by (have h4 : i1 = 4 := by omega); subst h4; omega, by first | rfl | (rw [Ex.cs_eq]; done)⟩, by omega, by omega, rfl⟩ ?_ ?_ ?_ ?_) <;> (simp -implicitDefEqProofs (disch := omega) only [go_sem, rdObj, true_or, or_true]; done)
    | refine hQ _ _ (ret0 [(id, some (rdObj bs (q' + 1)))] rfl rfl rfl (by rw [Tryz.results28] <;> simp (maxSteps := 1000000) -implicitDefEqProofs (disch := omega) only [go_sem] <;> rfl) ⟨_, q' + 1, ⟨e, by omega, by first | rfl | (rw [Ex.cs_eq]; done)⟩, by omega, by omega, rfl⟩ ?_ ?_ ?_ ?_) <;> (simp -implicitDefEqProofs (disch := omega) only [go_sem, rdObj, true_or, or_true]; done)
  refine g_ [0,2,3,9,16] ?_
  refine c_ (fun hc1 => ?_) fun hc1 => ?_
  ·
    refine wpM_regionK [2,3] rfl fun Q1 hQ1 => ?_
    refine S_ ?_
    refine call_fn (l := [(id, rdObj bs (q' + 1)), (B + 2, .cells 3 (ints [1, 1000001]))]) (first := []) (cap := []) (ps := [.ptr id 0, .sl 3 (B + 2) 0 2]) (num_ok id (B + 2) bs (q' + 1) [1, 1000001] 2 rfl (by omega) (by omega) (by omega) hbs (by omega) (by omega)) Tryz.call46 rfl rfl rfl G_ (by simp -implicitDefEqProofs (disch := omega) only [go_sem, ints, List.map_cons, List.map_nil]) ?_
    rintro out ⟨k3, rfl, h4⟩
    refine S_ ?_
    refine hQ1 _ _ (S_ ?_);clear hQ1 Q1
    refine g_ [2] ?_
    refine wpM_ret ?_
    try refine S_ ?_
    first
    | refine hQ _ _ (ret0 [(id, some (rdObj bs (q' + 1 + 1)))] rfl rfl rfl (by rw [Tryz.results28] <;> simp (maxSteps := 1000000) -implicitDefEqProofs (disch := omega) only [go_sem] <;> rfl) ⟨_, q' + 1 + 1, ⟨Ex.mk k2 e.n e.a e.kids, by rw [Ex.sz_eq] at hes; simp only [Ex.sz]; omega, by first | rfl | (rw [Ex.cs_eq]; done)⟩, by omega, by omega, rfl⟩ ?_ ?_ ?_ ?_) <;> (simp -implicitDefEqProofs (disch := omega) only [go_sem, rdObj, true_or, or_true]; done)
    | refine hQ _ _ (ret0 [(id, some (rdObj bs (q' + 1 + 1)))] rfl rfl rfl (by rw [Tryz.results28] <;> simp (maxSteps := 1000000) -implicitDefEqProofs (disch := omega) only [go_sem] <;> rfl) ⟨_, q' + 1 + 1, ⟨Ex.mk e.kind k3 e.a e.kids, by rw [Ex.sz_eq] at hes; simp only [Ex.sz]; omega, by first | rfl | (rw [Ex.cs_eq]; done)⟩, by omega, by omega, rfl⟩ ?_ ?_ ?_ ?_) <;> (simp -implicitDefEqProofs (disch := omega) only [go_sem, rdObj, true_or, or_true]; done)
    | refine hQ _ _ (ret0 [(id, some (rdObj bs (q2)))] rfl rfl rfl (by rw [Tryz.results28] <;> simp (maxSteps := 1000000) -implicitDefEqProofs (disch := omega) only [go_sem] <;> rfl) ⟨_, q2, ⟨Ex.mk e.kind e.n a e.kids, by rw [Ex.sz_eq] at hes; simp only [Ex.sz]; omega, by first | rfl | (rw [Ex.cs_eq]; done)⟩, by omega, by omega, rfl⟩ ?_ ?_ ?_ ?_) <;> (simp -implicitDefEqProofs (disch := omega) only [go_sem, rdObj, true_or, or_true]; done)
    | refine hQ _ _ (ret0 [(id, some (rdObj bs (q' + 1)))] rfl rfl rfl (by rw [Tryz.results28] <;> simp (maxSteps := 1000000) -implicitDefEqProofs (disch := omega) only [go_sem] <;> rfl) ⟨_, q' + 1, ⟨e0, by omega, by first | rfl | (rw [Ex.cs_eq]; done)⟩, by omega, by omega, rfl⟩ ?_ ?_ ?_ ?_) <;> (simp -implicitDefEqProofs (disch := omega) only [go_sem, rdObj, true_or, or_true]; done)
    | refine hQ _ _ (ret0 [(id, some (rdObj bs (q' + 1)))] rfl rfl rfl (by rw [Tryz.results28] <;> simp (maxSteps := 1000000) -implicitDefEqProofs (disch := omega) only [go_sem] <;> rfl) ⟨_, q' + 1, ⟨e0, by (have h4 : i1 = 4 := by omega); subst h4; omega, by first | rfl | (rw [Ex.cs_eq]; done)⟩, by omega, by omega, rfl⟩ ?_ ?_ ?_ ?_) <;> (simp -implicitDefEqProofs (disch := omega) only [go_sem, rdObj, true_or, or_true]; done)
    | refine hQ _ _ (ret0 [(id, some (rdObj bs (q' + 1)))] rfl rfl rfl (by rw [Tryz.results28] <;> simp (maxSteps := 1000000) -implicitDefEqProofs (disch := omega) only [go_sem] <;> rfl) ⟨_, q' + 1, ⟨e, by omega, by first | rfl | (rw [Ex.cs_eq]; done)⟩, by omega, by omega, rfl⟩ ?_ ?_ ?_ ?_) <;> (simp -implicitDefEqProofs (disch := omega) only [go_sem, rdObj, true_or, or_true]; done)
  refine g_ [0,2,3,9,22] ?_
  refine c_ (fun hc2 => ?_) fun hc2 => ?_
  ·
    refine wpM_regionK [2,3] rfl fun Q1 hQ1 => ?_
    refine S_ ?_
    refine call_fn (l := [(id, rdObj bs (q' + 1))]) (first := []) (cap := []) (ps := [.ptr id 0]) (l2AddrBent_ok id bs (q' + 1) hbs (by omega) (by omega)) Tryz.call54 rfl rfl rfl G_ T_ ?_
    rintro out ⟨_, q2, ⟨a, rfl⟩, hqc, hqd, rfl⟩
    refine S_ ?_
    refine hQ1 _ _ (S_ ?_);clear hQ1 Q1
    refine g_ [2] ?_
    refine wpM_ret ?_
    try refine S_ ?_
    first
    | refine hQ _ _ (ret0 [(id, some (rdObj bs (q' + 1 + 1)))] rfl rfl rfl (by rw [Tryz.results28] <;> simp (maxSteps := 1000000) -implicitDefEqProofs (disch := omega) only [go_sem] <;> rfl) ⟨_, q' + 1 + 1, ⟨Ex.mk k2 e.n e.a e.kids, by rw [Ex.sz_eq] at hes; simp only [Ex.sz]; omega, by first | rfl | (rw [Ex.cs_eq]; done)⟩, by omega, by omega, rfl⟩ ?_ ?_ ?_ ?_) <;> (simp -implicitDefEqProofs (disch := omega) only [go_sem, rdObj, true_or, or_true]; done)
    | refine hQ _ _ (ret0 [(id, some (rdObj bs (q' + 1 + 1)))] rfl rfl rfl (by rw [Tryz.results28] <;> simp (maxSteps := 1000000) -implicitDefEqProofs (disch := omega) only [go_sem] <;> rfl) ⟨_, q' + 1 + 1, ⟨Ex.mk e.kind k3 e.a e.kids, by rw [Ex.sz_eq] at hes; simp only [Ex.sz]; omega, by first | rfl | (rw [Ex.cs_eq]; done)⟩, by omega, by omega, rfl⟩ ?_ ?_ ?_ ?_) <;> (simp -implicitDefEqProofs (disch := omega) only [go_sem, rdObj, true_or, or_true]; done)
    | refine hQ _ _ (ret0 [(id, some (rdObj bs (q2)))] rfl rfl rfl (by rw [Tryz.results28] <;> simp (maxSteps := 1000000) -implicitDefEqProofs (disch := omega) only [go_sem] <;> rfl) ⟨_, q2, ⟨Ex.mk e.kind e.n a e.kids, by rw [Ex.sz_eq] at hes; simp only [Ex.sz]; omega, by first | rfl | (rw [Ex.cs_eq]; done)⟩, by omega, by omega, rfl⟩ ?_ ?_ ?_ ?_) <;> (simp -implicitDefEqProofs (disch := omega) only [go_sem, rdObj, true_or, or_true]; done)
    | refine hQ _ _ (ret0 [(id, some (rdObj bs (q' + 1)))] rfl rfl rfl (by rw [Tryz.results28] <;> simp (maxSteps := 1000000) -implicitDefEqProofs (disch := omega) only [go_sem] <;> rfl) ⟨_, q' + 1, ⟨e0, by omega, by first | rfl | (rw [Ex.cs_eq]; done)⟩, by omega, by omega, rfl⟩ ?_ ?_ ?_ ?_) <;> (simp -implicitDefEqProofs (disch := omega) only [go_sem, rdObj, true_or, or_true]; done)
    | refine hQ _ _ (ret0 [(id, some (rdObj bs (q' + 1)))] rfl rfl rfl (by rw [Tryz.results28] <;> simp (maxSteps := 1000000) -implicitDefEqProofs (disch := omega) only [go_sem] <;> rfl) ⟨_, q' + 1, ⟨e0, by (have h4 : i1 = 4 := by omega); subst h4; omega, by first | rfl | (rw [Ex.cs_eq]; done)⟩, by omega, by omega, rfl⟩ ?_ ?_ ?_ ?_) <;> (simp -implicitDefEqProofs (disch := omega) only [go_sem, rdObj, true_or, or_true]; done)
    | refine hQ _ _ (ret0 [(id, some (rdObj bs (q' + 1)))] rfl rfl rfl (by rw [Tryz.results28] <;> simp (maxSteps := 1000000) -implicitDefEqProofs (disch := omega) only [go_sem] <;> rfl) ⟨_, q' + 1, ⟨e, by omega, by first | rfl | (rw [Ex.cs_eq]; done)⟩, by omega, by omega, rfl⟩ ?_ ?_ ?_ ?_) <;> (simp -implicitDefEqProofs (disch := omega) only [go_sem, rdObj, true_or, or_true]; done)
  refine g_ [2,3,9,27] ?_
  refine c_ (fun hc3 => ?_) fun hc3 => ?_
  ·
    refine g_ [2,3,4] ?_
    refine n_ ?_
    refine wpM_loopS (fun s n s' => ∃ (i0 M0 : Nat) (e0 : Ex), i0 + n = 6 ∧ s.M ≤ M0 ∧ (e0.sz ≤ 31 + i0) ∧ s' = { s with env := setE 4 (.int .i64 (i0 : Nat)) s.env, l := setl (B + 1) (.cells 27 e0.cs) s.l, M := M0 }) (6) ?_ ?_
    ·
      refine .of' _ _ ⟨0, _, e, by omega, Nat.le_refl _, by omega, rfl⟩ ?_ ?_ ?_ <;> exact L_
    rintro n0 s' ⟨i0, M0, e0, hi0, hM0, hv0, rfl⟩
    try dsimp only at hM0
    try refine S_ ?_
    refine g_ [2,3,4,30] ?_
    refine c_ (fun hc4 => ?_) fun hc4 => ?_
    ·
      have hl0 : i0 < 6 := by omega
      refine g_ [2,3,4] ?_
      refine wpM_frz [M0] [(27, M0, 0, 1, Ex.csL [e0])] (by intro q hq; simp at hq; subst hq; simp -implicitDefEqProofs (disch := omega) only [go_sem]) (by intro q hq; simp only [List.mem_cons, List.not_mem_nil, or_false] at hq; subst hq; exact ⟨by simp, rowsOf_exc (T := 27) (l := [e0]) (by rw [← exc_one, Ex.cs_eq]; simp -implicitDefEqProofs (disch := omega) only [go_sem])⟩) ?_
      simp -implicitDefEqProofs (disch := omega) only [go_sem, rdObj]
      refine g_ [2,3,4] ?_
      refine .of' _ _ ⟨n0 - 1, by omega, i0 + 1, _, Ex.mk 10 0 ⟨0, 0⟩ [e0], by omega, M_, ?_, rfl⟩ L_ L_ L_
      simp only [Ex.sz, Ex.szL]; omega
    refine g_ [2] ?_
    refine wpM_ret ?_
    try refine S_ ?_
    first
    | refine hQ _ _ (ret0 [(id, some (rdObj bs (q' + 1 + 1)))] rfl rfl rfl (by rw [Tryz.results28] <;> simp (maxSteps := 1000000) -implicitDefEqProofs (disch := omega) only [go_sem] <;> rfl) ⟨_, q' + 1 + 1, ⟨Ex.mk k2 e.n e.a e.kids, by rw [Ex.sz_eq] at hes; simp only [Ex.sz]; omega, by first | rfl | (rw [Ex.cs_eq]; done)⟩, by omega, by omega, rfl⟩ ?_ ?_ ?_ ?_) <;> (simp -implicitDefEqProofs (disch := omega) only [go_sem, rdObj, true_or, or_true]; done)
    | refine hQ _ _ (ret0 [(id, some (rdObj bs (q' + 1 + 1)))] rfl rfl rfl (by rw [Tryz.results28] <;> simp (maxSteps := 1000000) -implicitDefEqProofs (disch := omega) only [go_sem] <;> rfl) ⟨_, q' + 1 + 1, ⟨Ex.mk e.kind k3 e.a e.kids, by rw [Ex.sz_eq] at hes; simp only [Ex.sz]; omega, by first | rfl | (rw [Ex.cs_eq]; done)⟩, by omega, by omega, rfl⟩ ?_ ?_ ?_ ?_) <;> (simp -implicitDefEqProofs (disch := omega) only [go_sem, rdObj, true_or, or_true]; done)
    | refine hQ _ _ (ret0 [(id, some (rdObj bs (q2)))] rfl rfl rfl (by rw [Tryz.results28] <;> simp (maxSteps := 1000000) -implicitDefEqProofs (disch := omega) only [go_sem] <;> rfl) ⟨_, q2, ⟨Ex.mk e.kind e.n a e.kids, by rw [Ex.sz_eq] at hes; simp only [Ex.sz]; omega, by first | rfl | (rw [Ex.cs_eq]; done)⟩, by omega, by omega, rfl⟩ ?_ ?_ ?_ ?_) <;> (simp -implicitDefEqProofs (disch := omega) only [go_sem, rdObj, true_or, or_true]; done)
    | refine hQ _ _ (ret0 [(id, some (rdObj bs (q' + 1)))] rfl rfl rfl (by rw [Tryz.results28] <;> simp (maxSteps := 1000000) -implicitDefEqProofs (disch := omega) only [go_sem] <;> rfl) ⟨_, q' + 1, ⟨e0, by omega, by first | rfl | (rw [Ex.cs_eq]; done)⟩, by omega, by omega, rfl⟩ ?_ ?_ ?_ ?_) <;> (simp -implicitDefEqProofs (disch := omega) only [go_sem, rdObj, true_or, or_true]; done)
    | refine hQ _ _ (ret0 [(id, some (rdObj bs (q' + 1)))] rfl rfl rfl (by rw [Tryz.results28] <;> simp (maxSteps := 1000000) -implicitDefEqProofs (disch := omega) only [go_sem] <;> rfl) ⟨_, q' + 1, ⟨e0, by (have h4 : i1 = 4 := by omega); subst h4; omega, by first | rfl | (rw [Ex.cs_eq]; done)⟩, by omega, by omega, rfl⟩ ?_ ?_ ?_ ?_) <;> (simp -implicitDefEqProofs (disch := omega) only [go_sem, rdObj, true_or, or_true]; done)
    | refine hQ _ _ (ret0 [(id, some (rdObj bs (q' + 1)))] rfl rfl rfl (by rw [Tryz.results28] <;> simp (maxSteps := 1000000) -implicitDefEqProofs (disch := omega) only [go_sem] <;> rfl) ⟨_, q' + 1, ⟨e, by omega, by first | rfl | (rw [Ex.cs_eq]; done)⟩, by omega, by omega, rfl⟩ ?_ ?_ ?_ ?_) <;> (simp -implicitDefEqProofs (disch := omega) only [go_sem, rdObj, true_or, or_true]; done)
  refine g_ [2,3,36] ?_
  refine c_ (fun hc5 => ?_) fun hc5 => ?_
  ·
    refine g_ [2,3,5] ?_
    refine n_ ?_
    refine wpM_loopS (fun s n s' => ∃ (i1 M1 : Nat) (e0 : Ex), i1 + n = 4 ∧ s.M ≤ M1 ∧ (e0.sz + 1 ≤ 32 * 2 ^ i1) ∧ s' = { s with env := setE 5 (.int .i64 (i1 : Nat)) s.env, l := setl (B + 1) (.cells 27 e0.cs) s.l, M := M1 }) (4) ?_ ?_
    ·
      refine .of' _ _ ⟨0, _, e, by omega, Nat.le_refl _, by simp; omega, rfl⟩ ?_ ?_ ?_ <;> exact L_
    rintro n1 s' ⟨i1, M1, e0, hi1, hM1, hv1, rfl⟩
    try dsimp only at hM1
    try refine S_ ?_
    refine g_ [2,3,5,39] ?_
    refine c_ (fun hc6 => ?_) fun hc6 => ?_
    ·
      have hl1 : i1 < 4 := by omega
      have hp2 : 2 ^ i1 ≤ 8 := by
        have : i1 = 0 ∨ i1 = 1 ∨ i1 = 2 ∨ i1 = 3 := by omega
        rcases this with rfl | rfl | rfl | rfl <;> simp
      have hsz : e0.sz ≤ 1000 := by omega
      refine n_ ?_
      refine dr_ mixed [2,3,5] 1 1 [B + 1, M1] [⟨[3],[0],[],[],false⟩,⟨[3],[0],[],[],false⟩,⟨[43],[],[],[],true⟩,⟨[42,44],[],[],[1],false⟩,⟨[45],[],[],[],false⟩,⟨[3,46],[0],[0],[],false⟩] [0,1,2,3,4,5] [[],[],[1],[0,1,2],[0,1,2,3],[0,1,2,3,4]] 2 (htbl := by simp; omega) (hnm := by simp) ?_
      intro O A K hO hA hK;simp only [atL_cons,atL_nil,Nat.reduceAdd,Nat.zero_add] at hO hA
      refine SO_ ?_
      refine lp_ (l3Copy_ok e0.sz e0 (Nat.le_refl _) (by omega)) Tryz.call24 ?_
      refine hK _ (S_ ?_);clear hK K hO hA O A
      refine wpM_frz [M1] [(27, M1, 0, 2, Ex.csL [e0, e0])] (by intro q hq; simp at hq; subst hq; simp -implicitDefEqProofs (disch := omega) only [go_sem]) (by intro q hq; simp only [List.mem_cons, List.not_mem_nil, or_false] at hq; subst hq; exact ⟨by simp, rowsOf_exc (T := 27) (l := [e0, e0]) (by rw [show [e0, e0] = [e0] ++ [e0] from rfl, ← exc_app, ← exc_one, Ex.cs_eq]; simp -implicitDefEqProofs (disch := omega) only [go_sem])⟩) ?_
      simp -implicitDefEqProofs (disch := omega) only [go_sem, rdObj]
      refine g_ [2,3,5] ?_
      refine .of' _ _ ⟨n1 - 1, by omega, i1 + 1, _, Ex.mk 3 0 ⟨0, 0⟩ [e0, e0], by omega, M_, ?_, rfl⟩ L_ L_ L_
      simp only [Ex.sz, Ex.szL, Nat.pow_succ]; omega
    refine g_ [2] ?_
    refine wpM_ret ?_
    try refine S_ ?_
    first
    | refine hQ _ _ (ret0 [(id, some (rdObj bs (q' + 1 + 1)))] rfl rfl rfl (by rw [Tryz.results28] <;> simp (maxSteps := 1000000) -implicitDefEqProofs (disch := omega) only [go_sem] <;> rfl) ⟨_, q' + 1 + 1, ⟨Ex.mk k2 e.n e.a e.kids, by rw [Ex.sz_eq] at hes; simp only [Ex.sz]; omega, by first | rfl | (rw [Ex.cs_eq]; done)⟩, by omega, by omega, rfl⟩ ?_ ?_ ?_ ?_) <;> (simp -implicitDefEqProofs (disch := omega) only [go_sem, rdObj, true_or, or_true]; done)
    | refine hQ _ _ (ret0 [(id, some (rdObj bs (q' + 1 + 1)))] rfl rfl rfl (by rw [Tryz.results28] <;> simp (maxSteps := 1000000) -implicitDefEqProofs (disch := omega) only [go_sem] <;> rfl) ⟨_, q' + 1 + 1, ⟨Ex.mk e.kind k3 e.a e.kids, by rw [Ex.sz_eq] at hes; simp only [Ex.sz]; omega, by first | rfl | (rw [Ex.cs_eq]; done)⟩, by omega, by omega, rfl⟩ ?_ ?_ ?_ ?_) <;> (simp -implicitDefEqProofs (disch := omega) only [go_sem, rdObj, true_or, or_true]; done)
    | refine hQ _ _ (ret0 [(id, some (rdObj bs (q2)))] rfl rfl rfl (by rw [Tryz.results28] <;> simp (maxSteps := 1000000) -implicitDefEqProofs (disch := omega) only [go_sem] <;> rfl) ⟨_, q2, ⟨Ex.mk e.kind e.n a e.kids, by rw [Ex.sz_eq] at hes; simp only [Ex.sz]; omega, by first | rfl | (rw [Ex.cs_eq]; done)⟩, by omega, by omega, rfl⟩ ?_ ?_ ?_ ?_) <;> (simp -implicitDefEqProofs (disch := omega) only [go_sem, rdObj, true_or, or_true]; done)
    | refine hQ _ _ (ret0 [(id, some (rdObj bs (q' + 1)))] rfl rfl rfl (by rw [Tryz.results28] <;> simp (maxSteps := 1000000) -implicitDefEqProofs (disch := omega) only [go_sem] <;> rfl) ⟨_, q' + 1, ⟨e0, by omega, by first | rfl | (rw [Ex.cs_eq]; done)⟩, by omega, by omega, rfl⟩ ?_ ?_ ?_ ?_) <;> (simp -implicitDefEqProofs (disch := omega) only [go_sem, rdObj, true_or, or_true]; done)
    | refine hQ _ _ (ret0 [(id, some (rdObj bs (q' + 1)))] rfl rfl rfl (by rw [Tryz.results28] <;> simp (maxSteps := 1000000) -implicitDefEqProofs (disch := omega) only [go_sem] <;> rfl) ⟨_, q' + 1, ⟨e0, by (have h4 : i1 = 4 := by omega); subst h4; omega, by first | rfl | (rw [Ex.cs_eq]; done)⟩, by omega, by omega, rfl⟩ ?_ ?_ ?_ ?_) <;> (simp -implicitDefEqProofs (disch := omega) only [go_sem, rdObj, true_or, or_true]; done)
    | refine hQ _ _ (ret0 [(id, some (rdObj bs (q' + 1)))] rfl rfl rfl (by rw [Tryz.results28] <;> simp (maxSteps := 1000000) -implicitDefEqProofs (disch := omega) only [go_sem] <;> rfl) ⟨_, q' + 1, ⟨e, by omega, by first | rfl | (rw [Ex.cs_eq]; done)⟩, by omega, by omega, rfl⟩ ?_ ?_ ?_ ?_) <;> (simp -implicitDefEqProofs (disch := omega) only [go_sem, rdObj, true_or, or_true]; done)
  refine g_ [2] ?_
  refine wpM_ret ?_
  try refine S_ ?_
  first
  | refine hQ _ _ (ret0 [(id, some (rdObj bs (q' + 1 + 1)))] rfl rfl rfl (by rw [Tryz.results28] <;> simp (maxSteps := 1000000) -implicitDefEqProofs (disch := omega) only [go_sem] <;> rfl) ⟨_, q' + 1 + 1, ⟨Ex.mk k2 e.n e.a e.kids, by rw [Ex.sz_eq] at hes; simp only [Ex.sz]; omega, by first | rfl | (rw [Ex.cs_eq]; done)⟩, by omega, by omega, rfl⟩ ?_ ?_ ?_ ?_) <;> (simp -implicitDefEqProofs (disch := omega) only [go_sem, rdObj, true_or, or_true]; done)
  | refine hQ _ _ (ret0 [(id, some (rdObj bs (q' + 1 + 1)))] rfl rfl rfl (by rw [Tryz.results28] <;> simp (maxSteps := 1000000) -implicitDefEqProofs (disch := omega) only [go_sem] <;> rfl) ⟨_, q' + 1 + 1, ⟨Ex.mk e.kind k3 e.a e.kids, by rw [Ex.sz_eq] at hes; simp only [Ex.sz]; omega, by first | rfl | (rw [Ex.cs_eq]; done)⟩, by omega, by omega, rfl⟩ ?_ ?_ ?_ ?_) <;> (simp -implicitDefEqProofs (disch := omega) only [go_sem, rdObj, true_or, or_true]; done)
  | refine hQ _ _ (ret0 [(id, some (rdObj bs (q2)))] rfl rfl rfl (by rw [Tryz.results28] <;> simp (maxSteps := 1000000) -implicitDefEqProofs (disch := omega) only [go_sem] <;> rfl) ⟨_, q2, ⟨Ex.mk e.kind e.n a e.kids, by rw [Ex.sz_eq] at hes; simp only [Ex.sz]; omega, by first | rfl | (rw [Ex.cs_eq]; done)⟩, by omega, by omega, rfl⟩ ?_ ?_ ?_ ?_) <;> (simp -implicitDefEqProofs (disch := omega) only [go_sem, rdObj, true_or, or_true]; done)
  | refine hQ _ _ (ret0 [(id, some (rdObj bs (q' + 1)))] rfl rfl rfl (by rw [Tryz.results28] <;> simp (maxSteps := 1000000) -implicitDefEqProofs (disch := omega) only [go_sem] <;> rfl) ⟨_, q' + 1, ⟨e0, by omega, by first | rfl | (rw [Ex.cs_eq]; done)⟩, by omega, by omega, rfl⟩ ?_ ?_ ?_ ?_) <;> (simp -implicitDefEqProofs (disch := omega) only [go_sem, rdObj, true_or, or_true]; done)
  | refine hQ _ _ (ret0 [(id, some (rdObj bs (q' + 1)))] rfl rfl rfl (by rw [Tryz.results28] <;> simp (maxSteps := 1000000) -implicitDefEqProofs (disch := omega) only [go_sem] <;> rfl) ⟨_, q' + 1, ⟨e0, by (have h4 : i1 = 4 := by omega); subst h4; omega, by first | rfl | (rw [Ex.cs_eq]; done)⟩, by omega, by omega, rfl⟩ ?_ ?_ ?_ ?_) <;> (simp -implicitDefEqProofs (disch := omega) only [go_sem, rdObj, true_or, or_true]; done)
  | refine hQ _ _ (ret0 [(id, some (rdObj bs (q' + 1)))] rfl rfl rfl (by rw [Tryz.results28] <;> simp (maxSteps := 1000000) -implicitDefEqProofs (disch := omega) only [go_sem] <;> rfl) ⟨_, q' + 1, ⟨e, by omega, by first | rfl | (rw [Ex.cs_eq]; done)⟩, by omega, by omega, rfl⟩ ?_ ?_ ?_ ?_) <;> (simp -implicitDefEqProofs (disch := omega) only [go_sem, rdObj, true_or, or_true]; done)
end Go.Proofs.YtmicbfojofcigaaGreat
namespace Go.Proofs.YtmicbfojofcigaaGreat
open Go Sg
set_option linter.unusedSectionVars false
variable [Glob]
set_option maxRecDepth 100000
set_option linter.unusedSimpArgs false
set_option linter.unusedVariables false
set_option maxHeartbeats 4000000
inductive Sm where
  | mk (kind : Int) (to' : AD) (e : Ex) (th el : List Sm)
  deriving Inhabited
def Sm.kind : Sm → Int | .mk k _ _ _ _ => k
def Sm.to' : Sm → AD | .mk _ a _ _ _ => a
def Sm.e : Sm → Ex | .mk _ _ e _ _ => e
def Sm.th : Sm → List Sm | .mk _ _ _ l _ => l
def Sm.el : Sm → List Sm | .mk _ _ _ _ l => l
mutual
def Sm.cs : Sm → List PV
  | .mk k a e th el => [.int .i64 k, .int .i64 a.kind, .int .i64 a.at', .int .i64 e.kind, .int .i64 e.n, .int .i64 e.a.kind, .int .i64 e.a.at', .rows 27 (Ex.csL e.kids), .rows 45 (Sm.csL th), .rows 45 (Sm.csL el)]
def Sm.csL : List Sm → List (List PV)
  | [] => []
  | s :: l => s.cs :: Sm.csL l
end
mutual
def Sm.sz : Sm → Nat | .mk _ _ e th el => 1 + e.sz + Sm.szL th + Sm.szL el
def Sm.szL : List Sm → Nat | [] => 0 | s :: l => s.sz + Sm.szL l
end
@[go_sem] theorem Sm.cs_eq (s : Sm) : s.cs = [.int .i64 s.kind, .int .i64 s.to'.kind, .int .i64 s.to'.at', .int .i64 s.e.kind, .int .i64 s.e.n, .int .i64 s.e.a.kind, .int .i64 s.e.a.at', .rows 27 (Ex.csL s.e.kids), .rows 45 (Sm.csL s.th), .rows 45 (Sm.csL s.el)] := by cases s; simp only [Sm.cs, Sm.kind, Sm.to', Sm.e, Sm.th, Sm.el]
theorem Sm.csL_map (l : List Sm) : Sm.csL l = l.map Sm.cs := by
  induction l with
  | nil => rfl
  | cons e l ih => simp [Sm.csL, ih]
@[go_sem] theorem Sm.csL_len (l : List Sm) : (Sm.csL l).length = l.length := by simp [Sm.csL_map]
@[go_sem] theorem Sm.csL_get (l : List Sm) (k : Nat) (h : k < l.length) : (Sm.csL l).getD k [] = (l.getD k default).cs := by simp [Sm.csL_map, List.getD, h]
theorem Sm.sz_eq (s : Sm) : s.sz = 1 + s.e.sz + Sm.szL s.th + Sm.szL s.el := by cases s; simp only [Sm.sz, Sm.e, Sm.th, Sm.el]
theorem Sm.len_szL (l : List Sm) : l.length ≤ Sm.szL l := by
  induction l with
  | nil => simp
  | cons s l ih => simp only [List.length_cons, Sm.szL]; have := s.sz_eq; omega
theorem Sm.get_szL (l : List Sm) (k : Nat) (h : k < l.length) : (l.getD k default).sz ≤ Sm.szL l := by
  induction l generalizing k with
  | nil => simp at h
  | cons e l ih =>
    simp only [Sm.szL]
    cases k with
    | zero => simp
    | succ k =>
      have := ih k (by simpa using h)
      simp only [List.getD_cons_succ]; omega
theorem Sm.get_in {l : List Sm} {k : Nat} (h : k < l.length) : (l.getD k default).e.sz + Sm.szL (l.getD k default).th + Sm.szL (l.getD k default).el < Sm.szL l := by
  have h1 := Sm.get_szL l k h
  have h2 := (l.getD k default).sz_eq
  omega
def manyS : Nat → List Sm → Nat
  | 0, l => l.length
  | d + 1, l => l.length + (l.map fun s => manyS d s.th + manyS d s.el).sum
theorem manyS_le (d : Nat) : ∀ l : List Sm, manyS d l ≤ Sm.szL l := by
  induction d with
  | zero => intro l; exact Sm.len_szL l
  | succ d ih =>
    intro l
    simp only [manyS]
    induction l with
    | nil => simp
    | cons s l ihl => simp only [List.length_cons, List.map_cons, List.sum_cons, Sm.szL]; have h1 := ih s.th; have h2 := ih s.el; have := s.sz_eq; omega
theorem l4Many_ok (d : Nat) : ∀ (l : List Sm) (deep : Int), deep.toNat = d → deep ≤ 1000000 → Sm.szL l ≤ 1099511627776 → PureF Tryz.prog 108 [.rows 45 (Sm.csL l), .int .i64 deep] [.int .i64 (manyS d l : Nat)] := by
  induction d with
  | zero =>
    intro l deep hd hdl hs
    have hlen := Sm.len_szL l
    refine pureF_of Tryz.func108 rfl Tryz.ntmps108 (by simp) T_ ?_
    intro f0 B Q hQ
    have hlt : decide (deep > 0) = false := by simp; omega
    refine g_ [0,1] ?_
    refine g_ [0,1,5] ?_
    refine g_ [0,1,5,6] ?_
    refine n_ ?_
    refine wpM_loopS (fun s n s' => s' = s) (0) ?_ ?_
    ·
      exact .here rfl
    rintro n s' rfl
    try refine S_ ?_
    refine gD_ [0,1,5,6,16] ?_
    refine c_ (fun hc0 => ?_) fun hc0 => ?_
    · simp [hlt] at hc0
    refine g_ [4] ?_
    refine e_ Tryz.results108 ?_
    first
    | exact True.intro
    | rfl
  | succ d ih =>
    intro l deep hd hdl hs
    have hlen := Sm.len_szL l
    refine pureF_of Tryz.func108 rfl Tryz.ntmps108 (by simp) T_ ?_
    intro f0 B Q hQ
    have hlt : decide (deep > 0) = true := by simp; omega
    have hmx := manyS_le (d + 1) l
    refine g_ [0,1] ?_
    refine g_ [0,1,5] ?_
    refine g_ [0,1,5,6] ?_
    refine n_ ?_
    refine wpM_loopS (fun s n s' => ∃ i M : Nat, i + n = l.length ∧ s.M ≤ M ∧ s' = { s with env := setE 6 (.int .i64 (i : Nat)) (setE 5 (.int .i64 ((l.length + ((l.take i).map fun s => manyS d s.th + manyS d s.el).sum : Nat) : Int)) s.env), M := M }) (l.length) ?_ ?_
    ·
      refine .of ⟨0, _, by omega, Nat.le_refl _, rfl⟩ ?_ ?_ ?_ rfl rfl (Nat.le_refl _) rfl <;> exact L_
    rintro n s' ⟨i, M, hi, hM, rfl⟩
    try refine S_ ?_
    refine n_ ?_
    refine wpM_regionK [0,1,5,6,16] rfl fun Q1 hQ1 => ?_
    simp (contextual := true) (maxSteps := 1000000) (implicitDefEqProofs := false) (disch := first | omega | (simp only [decide_eq_true_eq, decide_eq_false_iff_not, Bool.and_eq_true, Bool.or_eq_false_iff, Bool.not_eq_true'] at *; omega)) only [go_sem, hlt, Bool.and_true]
    refine hQ1 _ _ (S_ ?_);clear hQ1 Q1
    refine c_ (fun hc0 => ?_) fun hc0 => ?_
    ·
      have hi2 : i < l.length := by omega
      have hin := Sm.get_in hi2
      have hsum := take_sum (fun s : Sm => manyS d s.th + manyS d s.el) l i hi2
      have hle := take_sum_le (fun s : Sm => manyS d s.th + manyS d s.el) l (i + 1)
      simp only [manyS] at hmx
      rw [hsum] at hle
      refine n_ ?_
      refine dr_ mixed [0,1,5,6] 0 0 [] [⟨[5],[],[],[],false⟩,⟨[0],[],[],[],false⟩,⟨[6],[],[],[],false⟩,⟨[20,21],[],[],[],false⟩,⟨[22],[],[],[],false⟩,⟨[23],[],[],[],false⟩,⟨[1],[],[],[],false⟩,⟨[25],[],[],[],false⟩,⟨[24,26],[],[],[],true⟩,⟨[19,27],[],[],[],false⟩,⟨[0],[],[],[],false⟩,⟨[6],[],[],[],false⟩,⟨[29,30],[],[],[],false⟩,⟨[31],[],[],[],false⟩,⟨[32],[],[],[],false⟩,⟨[1],[],[],[],false⟩,⟨[34],[],[],[],false⟩,⟨[33,35],[],[],[],true⟩,⟨[28,36],[],[],[],false⟩,⟨[37],[],[],[],false⟩] [0,1,2,3,4,5,6,7,10,11,12,13,14,15,16,8,9,17,18,19] [[],[],[],[1,2],[1,2,3],[1,2,3,4],[],[6],[1,2,3,4,5,6,7],[0,1,2,3,4,5,6,7,8],[],[],[10,11],[10,11,12],[10,11,12,13],[],[15],[1,2,3,4,5,6,7,8,10,11,12,13,14,15,16],[0,1,2,3,4,5,6,7,8,9,10,11,12,13,14,15,16,17],[0,1,2,3,4,5,6,7,8,9,10,11,12,13,14,15,16,17,18]] 0 ?_
      intro O A K hO hA hK;simp only [atL_cons,atL_nil,Nat.reduceAdd,Nat.zero_add] at hO hA
      refine SO_ ?_
      refine lp_ (ih (l.getD i default).th (deep - 1) (by omega) (by omega) (by omega)) Tryz.call108 ?_
      refine lp_ (ih (l.getD i default).el (deep - 1) (by omega) (by omega) (by omega)) Tryz.call108 ?_
      refine hK _ (S_ ?_);clear hK K hO hA O A
      refine g_ [0,1,5,6] ?_
      refine .of ⟨n - 1, by omega, i + 1, M, by omega, hM, rfl⟩ ?_ ?_ ?_ rfl rfl (Nat.le_refl _) rfl
      · simp -implicitDefEqProofs (disch := omega) only [go_sem, PV.int.injEq]
        rw [hsum]
        constructor <;> omega
      all_goals exact L_
    refine g_ [4] ?_
    refine e_ Tryz.results108 ?_
    first
    | exact True.intro
    | have hie : i = l.length := by omega
      simp only [manyS]
      rw [hie, List.take_of_length_le (Nat.le_refl _)]
def Sm.plain (s : Sm) : Bool := if s.kind == 1 then s.to'.ok && s.to'.kind != 1 && (s.th.length : Int) == 0 && (s.el.length : Int) == 0
  else if s.kind == 2 then s.to'.kind == 0 && s.to'.at' == 0
  else if s.kind == 3 then s.to'.kind == 0 && s.to'.at' == 0 && (s.el.length : Int) == 0 else false
def formS : Nat → List Sm → Bool
  | 0, l => l.length == 0
  | d + 1, l => l.all fun s => s.plain && s.e.ok && formS d s.th && formS d s.el
theorem l4Form_ok (d : Nat) : ∀ (l : List Sm) (deep : Int), deep.toNat = d → deep ≤ 1000000 → Sm.szL l ≤ 1099511627776 → PureF Tryz.prog 109 [.rows 45 (Sm.csL l), .int .i64 deep] [.bool (formS d l)] := by
  induction d with
  | zero =>
    intro l deep hd hdl hs
    have hlen := Sm.len_szL l
    refine pureF_of Tryz.func109 rfl Tryz.ntmps109 (by simp) T_ ?_
    intro f0 B Q hQ
    have hlt : decide (deep < 1) = true := by simp; omega
    refine g_ [0,1] ?_
    refine n_ ?_
    refine wpM_regionK [0,1,14] rfl fun Q1 hQ1 => ?_
    simp (contextual := true) (maxSteps := 1000000) (implicitDefEqProofs := false) (disch := first | omega | (simp only [decide_eq_true_eq, decide_eq_false_iff_not, Bool.and_eq_true, Bool.or_eq_false_iff, Bool.not_eq_true'] at *; omega)) only [go_sem, hlt, Bool.and_true]
    refine hQ1 _ _ (S_ ?_);clear hQ1 Q1
    refine c_ (fun hc0 => ?_) fun hc0 => ?_
    ·
      refine g_ [4] ?_
      refine e_ Tryz.results109 ?_
      first
      | exact True.intro
      | first | rfl | (simp only [formS]; symm; rw [beq_eq_false_iff_ne]; omega)
    have hl0 : l = [] := by cases l with
      | nil => rfl
      | cons x y => simp at hc0
    subst hl0
    refine g_ [0,1,5] ?_
    refine n_ ?_
    refine wpM_loopS (fun s n s' => s' = s) (0) ?_ ?_
    ·
      exact .here rfl
    rintro n s' rfl
    try refine S_ ?_
    refine g_ [0,1,5,18] ?_
    refine c_ (fun hc1 => ?_) fun hc1 => ?_
    · simp at hc1
    refine g_ [4] ?_
    refine e_ Tryz.results109 ?_
    first
    | exact True.intro
    | first | rfl | (simp only [formS]; symm; rw [beq_eq_false_iff_ne]; omega)
  | succ d ih =>
    intro l deep hd hdl hs
    have hlen := Sm.len_szL l
    refine pureF_of Tryz.func109 rfl Tryz.ntmps109 (by simp) T_ ?_
    intro f0 B Q hQ
    have hlt : decide (deep < 1) = false := by simp; omega
    refine g_ [0,1] ?_
    refine n_ ?_
    refine wpM_regionK [0,1,14] rfl fun Q1 hQ1 => ?_
    simp (contextual := true) (maxSteps := 1000000) (implicitDefEqProofs := false) (disch := first | omega | (simp only [decide_eq_true_eq, decide_eq_false_iff_not, Bool.and_eq_true, Bool.or_eq_false_iff, Bool.not_eq_true'] at *; omega)) only [go_sem, hlt, Bool.and_false]
    refine hQ1 _ _ (S_ ?_);clear hQ1 Q1
    refine c1_ ?_
    refine g_ [0,1,5] ?_
    refine n_ ?_
    refine wpM_loopS (fun s n s' => ∃ i M : Nat, i + n = l.length ∧ s.M ≤ M ∧ (l.take i).all (fun s => s.plain && s.e.ok && formS d s.th && formS d s.el) = true ∧ s' = { s with env := setE 5 (.int .i64 i) s.env, M := M }) (l.length) ?_ ?_
    ·
      refine .of ⟨0, _, by omega, Nat.le_refl _, by simp, rfl⟩ ?_ ?_ ?_ rfl rfl (Nat.le_refl _) rfl <;> exact L_
    rintro n s' ⟨i, M, hi, hM, hall, rfl⟩
    try refine S_ ?_
    refine g_ [0,1,5,18] ?_
    refine c_ (fun hc1 => ?_) fun hc1 => ?_
    ·
      have hi2 : i < l.length := by omega
      have hin := Sm.get_in hi2
      refine g_ [0,1,5,6] ?_
      refine g_ [0,1,5,6,7] ?_
      refine g_ [0,1,5,6,7,26] ?_
      refine g_ [0,1,5,6,7,26,27] ?_
      refine c_ (fun hc2 => ?_) fun hc2 => ?_
      ·
        refine wpM_regionK [0,1,5,6,7] rfl fun Q1 hQ1 => ?_
        refine SD_ ?_
        refine cpD_ (addrOk_ok (l.getD i default).to') Tryz.call53 ?_
        refine hQ1 _ _ (S_ ?_);clear hQ1 Q1
        refine n_ ?_
        refine wpM_regionK [0,1,5,91] rfl fun Q1 hQ1 => ?_
        refine SD_ ?_
        first | refine cg_ (fun hb => exprOk_ok (l.getD i default).e (by omega)) Tryz.call9 ?_ | refine cpD_ (exprOk_ok (l.getD i default).e (by omega)) Tryz.call9 ?_
        first | refine cg_ (fun hb => ih (l.getD i default).th (deep - 1) (by omega) (by omega) (by omega)) Tryz.call109 ?_ | refine cpD_ (ih (l.getD i default).th (deep - 1) (by omega) (by omega) (by omega)) Tryz.call109 ?_
        first | refine cg_ (fun hb => ih (l.getD i default).el (deep - 1) (by omega) (by omega) (by omega)) Tryz.call109 ?_ | refine cpD_ (ih (l.getD i default).el (deep - 1) (by omega) (by omega) (by omega)) Tryz.call109 ?_
        refine hQ1 _ _ (S_ ?_);clear hQ1 Q1
        refine c_ (fun hc3 => ?_) fun hc3 => ?_
        ·
          refine g_ [4] ?_
          refine e_ Tryz.results109 ?_
          first
          | exact True.intro
          | first
            | (simp only [formS]; exact (all_yes hi hc1 hall).symm)
            | (simp only [formS]; refine (all_no hi2 ?_).symm
               try simp only [Bool.not_and, Bool.or_assoc] at hc3
               try simp only [Bool.not_and, Bool.or_assoc] at hc5
               try simp only [Bool.not_and, Bool.or_assoc] at hc7
               simp only [Sm.plain, *, ↓reduceIte, Bool.false_eq_true, Bool.not_and, Bool.or_assoc])
        refine g_ [0,1,5] ?_
        refine .of ⟨n - 1, by omega, i + 1, M + 1, by omega, Nat.le_succ_of_le hM, ?_, rfl⟩ ?_ ?_ ?_ rfl rfl (Nat.le_refl _) rfl
        · rw [take_all _ _ _ hi2, hall, Bool.true_and]
          try simp only [Bool.or_eq_false_iff, Bool.not_eq_false', Bool.and_eq_true] at hc3
          try simp only [Bool.or_eq_false_iff, Bool.not_eq_false', Bool.and_eq_true] at hc5
          try simp only [Bool.or_eq_false_iff, Bool.not_eq_false', Bool.and_eq_true] at hc7
          simp only [Sm.plain, *, ↓reduceIte, Bool.false_eq_true, Bool.and_self]
        all_goals exact L_
      refine g_ [0,1,5,6,7,26,50] ?_
      refine c_ (fun hc4 => ?_) fun hc4 => ?_
      ·
        refine g_ [0,1,5,6,7] ?_
        refine n_ ?_
        refine wpM_regionK [0,1,5,91] rfl fun Q1 hQ1 => ?_
        refine SD_ ?_
        first | refine cg_ (fun hb => exprOk_ok (l.getD i default).e (by omega)) Tryz.call9 ?_ | refine cpD_ (exprOk_ok (l.getD i default).e (by omega)) Tryz.call9 ?_
        first | refine cg_ (fun hb => ih (l.getD i default).th (deep - 1) (by omega) (by omega) (by omega)) Tryz.call109 ?_ | refine cpD_ (ih (l.getD i default).th (deep - 1) (by omega) (by omega) (by omega)) Tryz.call109 ?_
        first | refine cg_ (fun hb => ih (l.getD i default).el (deep - 1) (by omega) (by omega) (by omega)) Tryz.call109 ?_ | refine cpD_ (ih (l.getD i default).el (deep - 1) (by omega) (by omega) (by omega)) Tryz.call109 ?_
        refine hQ1 _ _ (S_ ?_);clear hQ1 Q1
        refine c_ (fun hc5 => ?_) fun hc5 => ?_
        ·
          refine g_ [4] ?_
          refine e_ Tryz.results109 ?_
          first
          | exact True.intro
          | first
            | (simp only [formS]; exact (all_yes hi hc1 hall).symm)
            | (simp only [formS]; refine (all_no hi2 ?_).symm
               try simp only [Bool.not_and, Bool.or_assoc] at hc3
               try simp only [Bool.not_and, Bool.or_assoc] at hc5
               try simp only [Bool.not_and, Bool.or_assoc] at hc7
               simp only [Sm.plain, *, ↓reduceIte, Bool.false_eq_true, Bool.not_and, Bool.or_assoc])
        refine g_ [0,1,5] ?_
        refine .of ⟨n - 1, by omega, i + 1, M + 1, by omega, Nat.le_succ_of_le hM, ?_, rfl⟩ ?_ ?_ ?_ rfl rfl (Nat.le_refl _) rfl
        · rw [take_all _ _ _ hi2, hall, Bool.true_and]
          try simp only [Bool.or_eq_false_iff, Bool.not_eq_false', Bool.and_eq_true] at hc3
          try simp only [Bool.or_eq_false_iff, Bool.not_eq_false', Bool.and_eq_true] at hc5
          try simp only [Bool.or_eq_false_iff, Bool.not_eq_false', Bool.and_eq_true] at hc7
          simp only [Sm.plain, *, ↓reduceIte, Bool.false_eq_true, Bool.and_self]
        all_goals exact L_
      refine g_ [0,1,5,6,7,56] ?_
      refine c_ (fun hc6 => ?_) fun hc6 => ?_
      ·
        refine gD_ [0,1,5,6,7] ?_
        refine n_ ?_
        refine wpM_regionK [0,1,5,91] rfl fun Q1 hQ1 => ?_
        refine SD_ ?_
        first | refine cg_ (fun hb => exprOk_ok (l.getD i default).e (by omega)) Tryz.call9 ?_ | refine cpD_ (exprOk_ok (l.getD i default).e (by omega)) Tryz.call9 ?_
        first | refine cg_ (fun hb => ih (l.getD i default).th (deep - 1) (by omega) (by omega) (by omega)) Tryz.call109 ?_ | refine cpD_ (ih (l.getD i default).th (deep - 1) (by omega) (by omega) (by omega)) Tryz.call109 ?_
        first | refine cg_ (fun hb => ih (l.getD i default).el (deep - 1) (by omega) (by omega) (by omega)) Tryz.call109 ?_ | refine cpD_ (ih (l.getD i default).el (deep - 1) (by omega) (by omega) (by omega)) Tryz.call109 ?_
        refine hQ1 _ _ (S_ ?_);clear hQ1 Q1
        refine c_ (fun hc7 => ?_) fun hc7 => ?_
        ·
          refine g_ [4] ?_
          refine e_ Tryz.results109 ?_
          first
          | exact True.intro
          | first
            | (simp only [formS]; exact (all_yes hi hc1 hall).symm)
            | (simp only [formS]; refine (all_no hi2 ?_).symm
               try simp only [Bool.not_and, Bool.or_assoc] at hc3
               try simp only [Bool.not_and, Bool.or_assoc] at hc5
               try simp only [Bool.not_and, Bool.or_assoc] at hc7
               simp only [Sm.plain, *, ↓reduceIte, Bool.false_eq_true, Bool.not_and, Bool.or_assoc])
        refine g_ [0,1,5] ?_
        refine .of ⟨n - 1, by omega, i + 1, M + 1, by omega, Nat.le_succ_of_le hM, ?_, rfl⟩ ?_ ?_ ?_ rfl rfl (Nat.le_refl _) rfl
        · rw [take_all _ _ _ hi2, hall, Bool.true_and]
          try simp only [Bool.or_eq_false_iff, Bool.not_eq_false', Bool.and_eq_true] at hc3
          try simp only [Bool.or_eq_false_iff, Bool.not_eq_false', Bool.and_eq_true] at hc5
          try simp only [Bool.or_eq_false_iff, Bool.not_eq_false', Bool.and_eq_true] at hc7
          simp only [Sm.plain, *, ↓reduceIte, Bool.false_eq_true, Bool.and_self]
        all_goals exact L_
      refine wpM_skip ?_
      refine S_ ?_
      refine wpM_seq ?_
      refine wpM_regionK [0, 1, 5, 91] rfl ?_; intro Q1 hQ1
      refine SD_ ?_
      refine hQ1 _ _ ?_; clear hQ1 Q1
      refine S_ ?_
      refine wpM_condK ?_
      refine S_ ?_
      refine wpM_seq ?_
      refine wpM_regionK [4] rfl ?_; intro Q1 hQ1
      refine S_ ?_
      refine hQ1 _ _ ?_; clear hQ1 Q1
      refine S_ ?_
      refine wpM_ret ?_
      try refine S_ ?_
      refine hQ _ _ rfl rfl rfl (by simp -implicitDefEqProofs (disch := omega) only [go_sem, le_yes, true_or]) ?_ (.inl rfl)
      rw [Tryz.results109]
      try simp -implicitDefEqProofs (disch := omega) only [go_sem, List.cons.injEq, PV.bool.injEq, PV.int.injEq, PV.agg.injEq]
      all_goals
        simp only [formS]; refine (all_no hi2 ?_).symm
        simp only [Sm.plain, hc2, hc4, hc6, ↓reduceIte, Bool.false_eq_true, Bool.false_and, Bool.not_false]
    refine g_ [4] ?_
    refine e_ Tryz.results109 ?_
    first
    | exact True.intro
    | first
      | (simp only [formS]; exact (all_yes hi hc1 hall).symm)
      | (simp only [formS]; refine (all_no hi2 ?_).symm
         try simp only [Bool.not_and, Bool.or_assoc] at hc3
         try simp only [Bool.not_and, Bool.or_assoc] at hc5
         try simp only [Bool.not_and, Bool.or_assoc] at hc7
         simp only [Sm.plain, *, ↓reduceIte, Bool.false_eq_true, Bool.not_and, Bool.or_assoc])
def okS (l : List Sm) : Bool := decide (manyS 4 l ≤ 16) && formS 4 l
theorem stmtsOk_ok (l : List Sm) (hs : Sm.szL l ≤ 1099511627776) : PureF Tryz.prog 93 [.rows 45 (Sm.csL l)] [.bool (okS l)] := by
  refine pureF_of Tryz.func93 rfl Tryz.ntmps93 (by simp) T_ ?_
  intro f0 B Q hQ
  refine g_ [0] ?_
  refine n_ ?_
  refine wpM_regionK [2] rfl fun Q1 hQ1 => ?_
  refine SD_ ?_
  refine cpD_ (l4Many_ok 4 l 4 rfl (by omega) hs) Tryz.call108 ?_
  first | refine cg_ (fun hb => l4Form_ok 4 l 4 rfl (by omega) hs) Tryz.call109 ?_ | refine cpD_ (l4Form_ok 4 l 4 rfl (by omega) hs) Tryz.call109 ?_
  refine hQ1 _ _ (S_ ?_);clear hQ1 Q1
  refine e_ Tryz.results93 ?_
  first
  | exact True.intro
  | have : decide ((manyS 4 l : Int) ≤ 16) = decide (manyS 4 l ≤ 16) := by simp; omega
    simp only [okS, this]
end Go.Proofs.YtmicbfojofcigaaGreat
namespace Go.Proofs.YtmicbfojofcigaaGreat
open Go Sg
set_option linter.unusedSectionVars false
variable [Glob]
set_option maxRecDepth 100000
set_option linter.unusedSimpArgs false
set_option linter.unusedVariables false
set_option maxHeartbeats 4000000
def smc (l : List Sm) : List PV := (Sm.csL l).flatten
@[go_sem] theorem smc_len (l : List Sm) : (smc l).length = l.length * 10 := by
  induction l with
  | nil => rfl
  | cons e l ih => simp only [smc, Sm.csL, List.flatten_cons, List.length_append, Sm.cs_eq, List.length_cons, List.length_nil] at ih ⊢; omega
theorem smc_app (l : List Sm) (e : Sm) : smc l ++ e.cs = smc (l ++ [e]) := by
  simp [smc, Sm.csL_map]
theorem smc_one (e : Sm) : e.cs = smc [e] := by simp [smc, Sm.csL]
theorem smcs_idsL (p : Nat → Prop) (e : Sm) : PV.idsL p e.cs = True := by rw [Sm.cs_eq]; simp [PV.idsL, PV.ids]
@[go_sem] theorem smc_ids (p : Nat → Prop) (l : List Sm) : PV.idsL p (smc l) = True := by
  induction l with
  | nil => simp [smc, Sm.csL, PV.idsL]
  | cons e l ih => simp only [smc, Sm.csL, List.flatten_cons] at ih ⊢; rw [idsL_app, ih, smcs_idsL]; simp
@[go_sem] theorem smc_ren (p : Nat → Nat) (l : List Sm) : PV.renL p (smc l) = smc l := by
  induction l with
  | nil => simp [smc, Sm.csL, PV.renL]
  | cons e l ih =>
    simp only [smc, Sm.csL, List.flatten_cons] at ih ⊢; rw [renL_app, ih]
    congr 1; rw [Sm.cs_eq]; simp [PV.renL, PV.ren]
@[go_sem] theorem smc_sub (θ : TypeId → Nat → Nat → Nat → Option PV) (l : List Sm) : PV.subL θ (smc l) = smc l := by
  induction l with
  | nil => simp [smc, Sm.csL, PV.subL]
  | cons e l ih =>
    simp only [smc, Sm.csL, List.flatten_cons] at ih ⊢; rw [subL_app, ih]
    congr 1; rw [Sm.cs_eq]; simp [PV.subL, PV.sub]
theorem rowsOf_smc {f : Nat → Option AObj} {id n : Nat} {T : TypeId} {l : List Sm} (h : f id = some (.cells T (smc l))) (hn : l.length = n) : RowsOf Tryz.prog f 45 id 0 n (Sm.csL l) := by
  subst hn
  refine ⟨by rw [cellsOf45]; omega, by rw [Sm.csL_len], ?_, T, _, h, ?_, ?_⟩
  · intro c hc
    rw [Sm.csL_map, List.mem_map] at hc
    obtain ⟨x, _, rfl⟩ := hc
    rw [cellsOf45, Sm.cs_eq]; exact ⟨rfl, rfl⟩
  · rw [cellsOf45, smc_len]; omega
  · rw [cellsOf45, List.drop_zero, List.take_of_length_le (by rw [smc_len]; omega)]; rfl
theorem Sm.szL_app (l : List Sm) (e : Sm) : Sm.szL (l ++ [e]) = Sm.szL l + e.sz := by
  induction l with
  | nil => simp [Sm.szL]
  | cons x l ih => simp only [List.cons_append, Sm.szL, ih]; omega
@[go_sem] theorem Sm.mk_kind (k : Int) (a : AD) (e : Ex) (th el : List Sm) : (Sm.mk k a e th el).kind = k := rfl
@[go_sem] theorem Sm.mk_to (k : Int) (a : AD) (e : Ex) (th el : List Sm) : (Sm.mk k a e th el).to' = a := rfl
@[go_sem] theorem Sm.mk_e (k : Int) (a : AD) (e : Ex) (th el : List Sm) : (Sm.mk k a e th el).e = e := rfl
@[go_sem] theorem Sm.mk_th (k : Int) (a : AD) (e : Ex) (th el : List Sm) : (Sm.mk k a e th el).th = th := rfl
@[go_sem] theorem Sm.mk_el (k : Int) (a : AD) (e : Ex) (th el : List Sm) : (Sm.mk k a e th el).el = el := rfl
@[go_sem] theorem Sm.csL_nil : Sm.csL [] = [] := rfl
@[go_sem high] theorem repd5 (z : List PV) : rep 5 z = z ++ (z ++ (z ++ (z ++ (z)))) := by simp [rep, List.replicate_succ]
@[go_sem] theorem rdObj_sub (θ : TypeId → Nat → Nat → Nat → Option PV) (bs : List Nat) (q : Int) : subObj θ (rdObj bs q) = rdObj bs q := by simp [rdObj, subObj, PV.subL, PV.sub]
theorem l2To_ok (id : Nat) (bs : List Nat) (q : Int) (hbs : Bs bs) (hq0 : 0 ≤ q) (hq : q + 2 ≤ 1000000000000) : RdF 107 [] id bs q 2 (fun v => ∃ a : AD, v = .agg a.cs) := by
  refine callF_of' Tryz.func107 rfl Tryz.ntmps107 (by simp) ?_
  intro f0 B ns Q hB hns hQ
  have hid : id < B := hB id (by simp [hasKey, lk])
  obtain rfl : ns = [] := List.eq_nil_of_length_eq_zero hns
  refine g_ [0,2] ?_
  refine n_ ?_
  refine wpM_regionK [2] rfl fun Q1 hQ1 => ?_
  refine S_ ?_
  refine call_fn (l := [(id, rdObj bs q)]) (first := []) (cap := []) (ps := [.ptr id 0, .int .i64 2]) (pick_ok id bs q 2 hbs (by omega) (by omega) (by omega)) Tryz.call44 rfl rfl rfl G_ T_ ?_
  rintro out ⟨k1, rfl, h1, h2, h3⟩
  refine S_ ?_
  refine call_fn (l := [(id, rdObj bs (q + 1))]) (first := []) (cap := []) (ps := [.ptr id 0, .int .i64 3]) (pick_ok id bs (q + 1) 3 hbs (by omega) (by omega) (by omega)) Tryz.call44 rfl rfl rfl G_ T_ ?_
  rintro out ⟨k2, rfl, h4, h5, h6⟩
  refine S_ ?_
  refine hQ1 _ _ (S_ ?_);clear hQ1 Q1
  refine wpM_ret ?_
  try refine S_ ?_
  refine hQ _ _ (ret0 [(id, some (rdObj bs (q + 1 + 1)))] rfl rfl rfl (by rw [Tryz.results107] <;> simp (maxSteps := 1000000) -implicitDefEqProofs (disch := omega) only [go_sem] <;> rfl) ⟨_, q + 1 + 1, ⟨⟨2 + k1, k2⟩, rfl⟩, by omega, by omega, rfl⟩ ?_ ?_ ?_ ?_)
  all_goals simp -implicitDefEqProofs (disch := omega) only [go_sem, rdObj, true_or, or_true]
theorem l4Count_ok (id : Nat) (bs : List Nat) (q : Int) (hbs : Bs bs) (hq0 : 0 ≤ q) (hq : q + 40 ≤ 1000000000000) : RdF 94 [] id bs q 40 (fun v => ∃ s : Sm, s.sz ≤ 60 ∧ v = .agg s.cs) := by
  refine callF_of' Tryz.func94 rfl Tryz.ntmps94 (by simp) ?_
  intro f0 B ns Q hB hns hQ
  have hid : id < B := hB id (by simp [hasKey, lk])
  obtain rfl : ns = [] := List.eq_nil_of_length_eq_zero hns
  have b1 : eb 1 = 12 := rfl
  have s1 : es 1 = 3 := rfl
  refine g_ [0,2] ?_
  refine n_ ?_
  refine wpM_regionK [0,2,3] rfl fun Q1 hQ1 => ?_
  refine S_ ?_
  refine call_fn (l := [(id, rdObj bs q)]) (first := []) (cap := []) (ps := [.ptr id 0, .int .i64 3]) (pick_ok id bs q 3 hbs (by omega) (by omega) (by omega)) Tryz.call44 rfl rfl rfl G_ T_ ?_
  rintro out ⟨k1, rfl, h1, h2, h3⟩
  refine S_ ?_
  refine hQ1 _ _ (S_ ?_);clear hQ1 Q1
  refine g_ [0,2,3,4] ?_
  refine wpM_le [(0, .ptr id 0), (2, .ptr B 0), (3, .ptr (B + 1) 0), (4, .ptr (B + 2) 0)] [(B + 2, .cells 27 (Ex.mk 2 0 ⟨3, k1⟩ []).cs), (B + 1, .cells 24 (AD.mk 3 k1).cs), (B, .cells 45 (Sm.mk 0 ⟨0, 0⟩ (Ex.mk 0 0 ⟨0, 0⟩ []) [] []).cs), (id, rdObj bs (q + 1))] T_ T_ T_ ?_
  refine n_ ?_
  refine dr_ mixed [0,2,3,4,5] 3 2 [B + 2, id, B + 3, B + 4, B + 5] [⟨[4],[0],[],[],false⟩,⟨[0],[],[],[],false⟩,⟨[],[],[],[2],false⟩,⟨[14,15],[1,2],[1],[],true⟩,⟨[16],[],[],[],false⟩,⟨[13,17],[],[],[3],false⟩,⟨[18],[],[],[],false⟩,⟨[],[],[],[4],false⟩,⟨[5,19],[4],[4],[],false⟩] [0,1,2,7,3,4,5,6,8] [[],[],[],[1,2],[1,2,3],[0,1,2,3,4],[0,1,2,3,4,5],[],[0,1,2,3,4,5,6,7]] 5 (htbl := by simp; omega) (hnm := by simp) ?_
  intro O A K hO hA hK;simp only [atL_cons,atL_nil,Nat.reduceAdd,Nat.zero_add] at hO hA
  refine SO_ ?_
  refine loud_fn (first := []) (cap := []) (ps := [.ptr id 0, .sl 3 (B + 3) 0 5]) (l := [(id, rdObj bs (q + 1)), (B + 3, .cells 3 (ints [1, 3, 5, 9, 200]))]) (num_ok id (B + 3) bs (q + 1) [1, 3, 5, 9, 200] 5 rfl (by omega) (by omega) (by omega) hbs (by omega) (by omega)) Tryz.call46 rfl rfl F_ (subG_spec (by simp -implicitDefEqProofs (disch := omega) only [go_sem, ints, List.map_cons, List.map_nil])) rfl ?_
  rintro out ⟨k2, rfl, h4⟩
  refine ⟨rfl, ?_⟩
  refine SO_ ?_
  refine hK _ (S_ ?_);clear hK K hO hA O A
  refine wpM_le [(0, .ptr id 0), (2, .ptr B 0), (3, .ptr (B + 1) 0), (4, .ptr (B + 2) 0), (5, .ptr (B + 5) 0)] [(B + 4, .cells 27 (exc [Ex.mk 2 0 ⟨3, k1⟩ [], Ex.mk 1 k2 ⟨0, 0⟩ []])), (B + 5, .cells 27 [.int .i64 6, .int .i64 0, .int .i64 0, .int .i64 0, .sl 27 (B + 4) 0 2]), (B + 2, .cells 27 (Ex.mk 2 0 ⟨3, k1⟩ []).cs), (B + 1, .cells 24 (AD.mk 3 k1).cs), (B, .cells 45 (Sm.mk 0 ⟨0, 0⟩ (Ex.mk 0 0 ⟨0, 0⟩ []) [] []).cs), (id, rdObj bs (q + 1 + 1))] T_ (by simp -implicitDefEqProofs (disch := omega) only [go_sem, exc, Ex.csL, List.flatten_cons, List.flatten_nil, List.cons_append, List.nil_append]) T_ ?_
  refine wpM_frz [B + 4] [(27, B + 4, 0, 2, Ex.csL [Ex.mk 2 0 ⟨3, k1⟩ [], Ex.mk 1 k2 ⟨0, 0⟩ []])] (by intro q hq; simp at hq; subst hq; simp -implicitDefEqProofs (disch := omega) only [go_sem]) (by intro q hq; simp only [List.mem_cons, List.not_mem_nil, or_false] at hq; subst hq; exact ⟨by simp, rowsOf_exc (T := 27) (l := [Ex.mk 2 0 ⟨3, k1⟩ [], Ex.mk 1 k2 ⟨0, 0⟩ []]) T_⟩) ?_
  simp -implicitDefEqProofs (disch := omega) only [go_sem]
  refine n_ ?_
  refine dr_ mixed [0,2,3,5,6] 3 2 [B + 2, id, B + 6, B + 7, B + 8] [⟨[4],[0],[],[],false⟩,⟨[0],[],[],[],false⟩,⟨[],[],[],[2],false⟩,⟨[21,22],[1,2],[1],[],true⟩,⟨[23],[],[],[],false⟩,⟨[20,24],[],[],[3],false⟩,⟨[25],[],[],[],false⟩,⟨[],[],[],[4],false⟩,⟨[6,26],[4],[4],[],false⟩] [0,1,2,7,3,4,5,6,8] [[],[],[],[1,2],[1,2,3],[0,1,2,3,4],[0,1,2,3,4,5],[],[0,1,2,3,4,5,6,7]] 5 (htbl := by simp; omega) (hnm := by simp) ?_
  intro O A K hO hA hK;simp only [atL_cons,atL_nil,Nat.reduceAdd,Nat.zero_add] at hO hA
  refine SO_ ?_
  refine loud_fn (first := []) (cap := []) (ps := [.ptr id 0, .sl 3 (B + 6) 0 4]) (l := [(id, rdObj bs (q + 1 + 1)), (B + 6, .cells 3 (ints [1, 1, 2, 0]))]) (num_ok id (B + 6) bs (q + 1 + 1) [1, 1, 2, 0] 4 rfl (by omega) (by omega) (by omega) hbs (by omega) (by omega)) Tryz.call46 rfl rfl F_ (subG_spec (by simp -implicitDefEqProofs (disch := omega) only [go_sem, ints, List.map_cons, List.map_nil])) rfl ?_
  rintro out ⟨k3, rfl, h5⟩
  refine ⟨rfl, ?_⟩
  refine SO_ ?_
  refine hK _ (S_ ?_);clear hK K hO hA O A
  refine wpM_le [(0, .ptr id 0), (2, .ptr B 0), (3, .ptr (B + 1) 0), (5, .ptr (B + 5) 0), (6, .ptr (B + 8) 0)] [(B + 7, .cells 27 (exc [Ex.mk 2 0 ⟨3, k1⟩ [], Ex.mk 1 k3 ⟨0, 0⟩ []])), (B + 8, .cells 27 [.int .i64 3, .int .i64 0, .int .i64 0, .int .i64 0, .sl 27 (B + 7) 0 2]), (B + 5, .cells 27 (Ex.mk 6 0 ⟨0, 0⟩ [Ex.mk 2 0 ⟨3, k1⟩ [], Ex.mk 1 k2 ⟨0, 0⟩ []]).cs), (B + 1, .cells 24 (AD.mk 3 k1).cs), (B, .cells 45 (Sm.mk 0 ⟨0, 0⟩ (Ex.mk 0 0 ⟨0, 0⟩ []) [] []).cs), (id, rdObj bs (q + 1 + 1 + 1))] T_ (by simp -implicitDefEqProofs (disch := omega) only [go_sem, exc, Ex.csL, List.flatten_cons, List.flatten_nil, List.cons_append, List.nil_append]) T_ ?_
  refine wpM_frz [B + 7] [(27, B + 7, 0, 2, Ex.csL [Ex.mk 2 0 ⟨3, k1⟩ [], Ex.mk 1 k3 ⟨0, 0⟩ []])] (by intro q hq; simp at hq; subst hq; simp -implicitDefEqProofs (disch := omega) only [go_sem]) (by intro q hq; simp only [List.mem_cons, List.not_mem_nil, or_false] at hq; subst hq; exact ⟨by simp, rowsOf_exc (T := 27) (l := [Ex.mk 2 0 ⟨3, k1⟩ [], Ex.mk 1 k3 ⟨0, 0⟩ []]) T_⟩) ?_
  simp -implicitDefEqProofs (disch := omega) only [go_sem]
  refine g_ [0,2,7] ?_
  refine wpM_le [(0, .ptr id 0), (2, .ptr B 0), (7, .ptr (B + 10) 0)] [(B + 9, .cells 45 (smc [(Sm.mk 1 ⟨3, k1⟩ (Ex.mk 3 0 ⟨0, 0⟩ [Ex.mk 2 0 ⟨3, k1⟩ [], Ex.mk 1 k3 ⟨0, 0⟩ []]) [] [])])), (B + 10, .cells 45 [.int .i64 3, .int .i64 0, .int .i64 0, .int .i64 6, .int .i64 0, .int .i64 0, .int .i64 0, .rows 27 (Ex.csL [Ex.mk 2 0 ⟨3, k1⟩ [], Ex.mk 1 k2 ⟨0, 0⟩ []]), .sl 45 (B + 9) 0 1, .rows 45 []]), (B, .cells 45 (Sm.mk 0 ⟨0, 0⟩ (Ex.mk 0 0 ⟨0, 0⟩ []) [] []).cs), (id, rdObj bs (q + 1 + 1 + 1))] T_ (by simp -implicitDefEqProofs (disch := omega) only [go_sem, smc, Sm.csL, List.flatten_cons, List.flatten_nil, List.cons_append, List.nil_append]) T_ ?_
  refine n_ ?_
  refine wpM_regionK [0,2,7,35] rfl fun Q1 hQ1 => ?_
  refine S_ ?_
  refine call_fn (l := [(id, rdObj bs (q + 1 + 1 + 1))]) (first := []) (cap := []) (ps := [.ptr id 0, .int .i64 2]) (pick_ok id bs (q + 1 + 1 + 1) 2 hbs (by omega) (by omega) (by omega)) Tryz.call44 rfl rfl rfl G_ T_ ?_
  rintro out ⟨k4, rfl, h6, h7, h8⟩
  refine S_ ?_
  refine hQ1 _ _ (S_ ?_);clear hQ1 Q1
  refine c_ (fun hc0 => ?_) fun hc0 => ?_
  ·
    refine dr_ mixed [2,7] 2 3 [B + 10, B + 9, id, B + 11, B + 12] [⟨[7],[],[],[],false⟩,⟨[36],[0],[],[],false⟩,⟨[0],[],[],[],false⟩,⟨[38],[2],[2],[],true⟩,⟨[0],[],[],[],false⟩,⟨[40],[2],[2],[],true⟩,⟨[39,41],[],[],[],false⟩,⟨[42],[],[],[3],false⟩,⟨[37,43],[1,3],[1],[4],false⟩,⟨[7],[],[],[],false⟩,⟨[44,45],[0],[0],[],false⟩] [0,1,2,4,3,5,6,7,8,9,10] [[],[0],[],[2],[],[2,3,4],[2,3,4,5],[2,3,4,5,6],[0,1,2,3,4,5,6,7],[0,1,2,3,4,5,6,7,8],[0,1,2,3,4,5,6,7,8,9]] 5 (htbl := by simp; omega) (hnm := by simp) ?_
    intro O A K hO hA hK;simp only [atL_cons,atL_nil,Nat.reduceAdd,Nat.zero_add] at hO hA
    refine SO_ ?_
    refine loud_fn (first := []) (cap := []) (ps := [.ptr id 0]) (l := [(id, rdObj bs (q + 1 + 1 + 1 + 1))]) (l2To_ok id bs (q + 1 + 1 + 1 + 1) hbs (by omega) (by omega)) Tryz.call107 rfl rfl F_ (subG_spec T_) rfl ?_
    rintro out ⟨_, q1, ⟨a, rfl⟩, hqa, hqb, rfl⟩
    refine ⟨rfl, ?_⟩
    refine SO_ ?_
    refine loud_fn (first := []) (cap := []) (ps := [.ptr id 0, .int .i64 2]) (l := [(id, rdObj bs q1)]) (l3Expr_ok id bs hbs 1 q1 2 (by omega) (by omega) (by omega) (by omega)) Tryz.call78 rfl rfl F_ (subG_spec T_) rfl ?_
    rintro out ⟨_, q2, ⟨e, hes, rfl⟩, hqc, hqd, rfl⟩
    refine ⟨rfl, ?_⟩
    refine SO_ ?_
    refine hK _ (S_ ?_);clear hK K hO hA O A
    refine wpM_le [(2, .ptr B 0), (7, .ptr (B + 10) 0)] [(B + 12, .cells 45 (smc [(Sm.mk 1 ⟨3, k1⟩ (Ex.mk 3 0 ⟨0, 0⟩ [Ex.mk 2 0 ⟨3, k1⟩ [], Ex.mk 1 k3 ⟨0, 0⟩ []]) [] []), (Sm.mk 1 a e [] [])])), (B + 10, .cells 45 [.int .i64 3, .int .i64 0, .int .i64 0, .int .i64 6, .int .i64 0, .int .i64 0, .int .i64 0, .rows 27 (Ex.csL [Ex.mk 2 0 ⟨3, k1⟩ [], Ex.mk 1 k2 ⟨0, 0⟩ []]), .sl 45 (B + 12) 0 2, .rows 45 []]), (B, .cells 45 (Sm.mk 0 ⟨0, 0⟩ (Ex.mk 0 0 ⟨0, 0⟩ []) [] []).cs), (id, rdObj bs q2)] T_ (by simp -implicitDefEqProofs (disch := omega) only [go_sem, smc, Sm.csL, List.flatten_cons, List.flatten_nil, List.cons_append, List.nil_append]) T_ ?_
    refine wpM_frz [B + 12] [(45, B + 12, 0, 2, Sm.csL [(Sm.mk 1 ⟨3, k1⟩ (Ex.mk 3 0 ⟨0, 0⟩ [Ex.mk 2 0 ⟨3, k1⟩ [], Ex.mk 1 k3 ⟨0, 0⟩ []]) [] []), (Sm.mk 1 a e [] [])])] (by intro q hq; simp at hq; subst hq; simp -implicitDefEqProofs (disch := omega) only [go_sem]) (by intro q hq; simp only [List.mem_cons, List.not_mem_nil, or_false] at hq; subst hq; exact ⟨by simp, rowsOf_smc (T := 45) (l := [(Sm.mk 1 ⟨3, k1⟩ (Ex.mk 3 0 ⟨0, 0⟩ [Ex.mk 2 0 ⟨3, k1⟩ [], Ex.mk 1 k3 ⟨0, 0⟩ []]) [] []), (Sm.mk 1 a e [] [])]) T_ rfl⟩) ?_
    simp -implicitDefEqProofs (disch := omega) only [go_sem]
    refine g_ [2] ?_
    refine wpM_ret ?_
    try refine S_ ?_
    refine hQ _ _ (ret0 [(id, some (rdObj bs q2))] rfl rfl rfl (by rw [Tryz.results94] <;> simp (maxSteps := 1000000) -implicitDefEqProofs (disch := omega) only [go_sem] <;> rfl) ⟨_, q2, ⟨Sm.mk 3 ⟨0, 0⟩ (Ex.mk 6 0 ⟨0, 0⟩ [Ex.mk 2 0 ⟨3, k1⟩ [], Ex.mk 1 k2 ⟨0, 0⟩ []]) [(Sm.mk 1 ⟨3, k1⟩ (Ex.mk 3 0 ⟨0, 0⟩ [Ex.mk 2 0 ⟨3, k1⟩ [], Ex.mk 1 k3 ⟨0, 0⟩ []]) [] []), (Sm.mk 1 a e [] [])] [], by simp [Sm.sz, Sm.szL, Ex.sz, Ex.szL]; omega, by first | rfl | (rw [Sm.cs_eq]; rfl)⟩, by omega, by omega, rfl⟩ ?_ ?_ ?_ ?_)
    all_goals simp -implicitDefEqProofs (disch := omega) only [go_sem, rdObj, true_or, or_true]
  refine wpM_frz [B + 9] [(45, B + 9, 0, 1, Sm.csL [(Sm.mk 1 ⟨3, k1⟩ (Ex.mk 3 0 ⟨0, 0⟩ [Ex.mk 2 0 ⟨3, k1⟩ [], Ex.mk 1 k3 ⟨0, 0⟩ []]) [] [])])] (by intro q hq; simp at hq; subst hq; simp -implicitDefEqProofs (disch := omega) only [go_sem]) (by intro q hq; simp only [List.mem_cons, List.not_mem_nil, or_false] at hq; subst hq; exact ⟨by simp, rowsOf_smc (T := 45) (l := [(Sm.mk 1 ⟨3, k1⟩ (Ex.mk 3 0 ⟨0, 0⟩ [Ex.mk 2 0 ⟨3, k1⟩ [], Ex.mk 1 k3 ⟨0, 0⟩ []]) [] [])]) T_ rfl⟩) ?_
  simp -implicitDefEqProofs (disch := omega) only [go_sem]
  refine g_ [2] ?_
  refine wpM_ret ?_
  try refine S_ ?_
  refine hQ _ _ (ret0 [(id, some (rdObj bs (q + 1 + 1 + 1 + 1)))] rfl rfl rfl (by rw [Tryz.results94] <;> simp (maxSteps := 1000000) -implicitDefEqProofs (disch := omega) only [go_sem] <;> rfl) ⟨_, q + 1 + 1 + 1 + 1, ⟨Sm.mk 3 ⟨0, 0⟩ (Ex.mk 6 0 ⟨0, 0⟩ [Ex.mk 2 0 ⟨3, k1⟩ [], Ex.mk 1 k2 ⟨0, 0⟩ []]) [(Sm.mk 1 ⟨3, k1⟩ (Ex.mk 3 0 ⟨0, 0⟩ [Ex.mk 2 0 ⟨3, k1⟩ [], Ex.mk 1 k3 ⟨0, 0⟩ []]) [] [])] [], by simp [Sm.sz, Sm.szL, Ex.sz, Ex.szL], by first | rfl | (rw [Sm.cs_eq]; rfl)⟩, by omega, by omega, rfl⟩ ?_ ?_ ?_ ?_)
  all_goals simp -implicitDefEqProofs (disch := omega) only [go_sem, rdObj, true_or, or_true]
end Go.Proofs.YtmicbfojofcigaaGreat
