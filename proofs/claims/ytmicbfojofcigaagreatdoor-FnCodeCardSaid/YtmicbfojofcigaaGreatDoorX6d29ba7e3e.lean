/- A part of a proof: lemmas and contracts of functions; the last text of the claim says what is proved. -/
import Derived.Test.YtmicbfojofcigaaGreatDoorX58ca1f125c
set_option linter.unusedSectionVars false
set_option linter.unusedSimpArgs false
set_option linter.unusedVariables false
namespace Go.Proofs.YtmicbfojofcigaaGreatDoor
open Go Sg
set_option maxRecDepth 100000
set_option linter.unusedSimpArgs false
set_option linter.unusedVariables false
set_option linter.unusedSectionVars false
set_option maxHeartbeats 4000000
variable [ErrL]
def wh (c : MM → Bool) (b : MM → Nat → MM × Nat × Bool) : Nat → MM → Nat → MM × Nat × Bool
  | 0, m, _ => (m, 0, true)
  | g + 1, m, F => if c m then (if (b m F).2.2 then b m F else if (b m F).2.1 = 0 then ((b m F).1, 0, true) else wh c b g (b m F).1 ((b m F).2.1 - 1)) else (m, F, false)
mutual
def Sm.ex : Sm → MM → Nat → MM × Nat × Bool
  | .mk k a e th el, m, F => if k == 1 then (m.put a (e.of m), F, false)
    else if k == 3 then wh (fun m => e.of m != 0) (fun m F => Sm.exL th m F) (F + 1) m F
    else if e.of m != 0 then Sm.exL th m F else Sm.exL el m F
def Sm.exL : List Sm → MM → Nat → MM × Nat × Bool
  | [], m, F => (m, F, false)
  | s :: l, m, F => if (s.ex m F).2.2 then s.ex m F else Sm.exL l (s.ex m F).1 (s.ex m F).2.1
end
@[go_sem] theorem Sm.exL_nil (m : MM) (F : Nat) : Sm.exL [] m F = (m, F, false) := by simp only [Sm.exL]
theorem Sm.ex_eq (s : Sm) (m : MM) (F : Nat) : s.ex m F = if s.kind == 1 then (m.put s.to' (s.e.of m), F, false)
    else if s.kind == 3 then wh (fun m => s.e.of m != 0) (fun m F => Sm.exL s.th m F) (F + 1) m F
    else if s.e.of m != 0 then Sm.exL s.th m F else Sm.exL s.el m F := by cases s; simp only [Sm.ex, Sm.kind, Sm.to', Sm.e, Sm.th, Sm.el] <;> rfl
theorem wh_le {c : MM → Bool} {b : MM → Nat → MM × Nat × Bool} (h : ∀ m F, (b m F).2.1 ≤ F) : ∀ g m F, (wh c b g m F).2.1 ≤ F
  | 0, m, F => by simp [wh]
  | g + 1, m, F => by
    simp only [wh]
    split
    · split
      · exact h m F
      · split
        · simp
        · exact Nat.le_trans (wh_le h g _ _) (by have := h m F; omega)
    · simp
theorem wh_six {c : MM → Bool} {b : MM → Nat → MM × Nat × Bool} (h : ∀ m F, m.Six → (b m F).1.Six) : ∀ g m F, m.Six → (wh c b g m F).1.Six
  | 0, m, F => fun hm => hm
  | g + 1, m, F => fun hm => by
    simp only [wh]
    split
    · split
      · exact h m F hm
      · split
        · exact h m F hm
        · exact wh_six h g _ _ (h m F hm)
    · exact hm
mutual
theorem Sm.ex_le : (s : Sm) → (m : MM) → (F : Nat) → (s.ex m F).2.1 ≤ F
  | .mk k a e th el, m, F => by
    simp only [Sm.ex]
    split
    · simp
    · split
      · exact wh_le (fun m F => Sm.exL_le th m F) _ _ _
      · split
        · exact Sm.exL_le th m F
        · exact Sm.exL_le el m F
theorem Sm.exL_le : (l : List Sm) → (m : MM) → (F : Nat) → (Sm.exL l m F).2.1 ≤ F
  | [], m, F => by simp [Sm.exL]
  | s :: l, m, F => by
    simp only [Sm.exL]
    split
    · exact Sm.ex_le s m F
    · exact Nat.le_trans (Sm.exL_le l _ _) (Sm.ex_le s m F)
end
mutual
theorem Sm.ex_six : (s : Sm) → (m : MM) → (F : Nat) → m.Six → (s.ex m F).1.Six
  | .mk k a e th el, m, F => fun hm => by
    simp only [Sm.ex]
    split
    · exact MM.put_six hm _ _
    · split
      · exact wh_six (fun m F hm => Sm.exL_six th m F hm) _ _ _ hm
      · split
        · exact Sm.exL_six th m F hm
        · exact Sm.exL_six el m F hm
theorem Sm.exL_six : (l : List Sm) → (m : MM) → (F : Nat) → m.Six → (Sm.exL l m F).1.Six
  | [], m, F => fun hm => hm
  | s :: l, m, F => fun hm => by
    simp only [Sm.exL]
    split
    · exact Sm.ex_six s m F hm
    · exact Sm.exL_six l _ _ (Sm.ex_six s m F hm)
end
theorem pair3 {x : MM × Nat × Bool} (h : x.2.2 = false) : (x.1, x.2.1, false) = x := by rw [← h]
theorem Sm.exL_app (l r : List Sm) (m : MM) (F : Nat) : Sm.exL (l ++ r) m F = if (Sm.exL l m F).2.2 then Sm.exL l m F else Sm.exL r (Sm.exL l m F).1 (Sm.exL l m F).2.1 := by
  induction l generalizing m F with
  | nil => simp [Sm.exL]
  | cons s l ih =>
    simp only [List.cons_append, Sm.exL]
    split
    · rfl
    · rw [ih]
theorem Sm.exL_take (l : List Sm) (m : MM) (F i : Nat) (h : i < l.length) : Sm.exL (l.take (i + 1)) m F = if (Sm.exL (l.take i) m F).2.2 then Sm.exL (l.take i) m F else (l.getD i default).ex (Sm.exL (l.take i) m F).1 (Sm.exL (l.take i) m F).2.1 := by
  rw [List.take_succ_eq_append_getElem h, Sm.exL_app]
  split
  · rfl
  · simp only [Sm.exL, List.getD, List.getElem?_eq_getElem h, Option.getD_some]
    split
    · rfl
    · rename_i h1; rw [Bool.not_eq_true] at h1; exact pair3 h1
theorem Sm.exL_long {l : List Sm} {m : MM} {F i : Nat} (h : (Sm.exL (l.take i) m F).2.2 = true) : Sm.exL l m F = Sm.exL (l.take i) m F := by
  have := Sm.exL_app (l.take i) (l.drop i) m F
  rw [List.take_append_drop, if_pos h] at this
  exact this
theorem formS_at {d : Nat} {l : List Sm} (h : formS d l = true) {i : Nat} (hi : i < l.length) : (l.getD i default).plain = true ∧ (l.getD i default).e.ok = true ∧ ∃ d', formS d' (l.getD i default).th = true ∧ formS d' (l.getD i default).el = true := by
  cases d with
  | zero => simp only [formS, beq_iff_eq] at h; omega
  | succ d =>
    simp only [formS, List.all_eq_true] at h
    have := h (l.getD i default) (by simp [List.getD, hi])
    simp only [Bool.and_eq_true] at this
    exact ⟨this.1.1.1, this.1.1.2, d, this.1.2, this.2⟩
theorem ok_form {e : Ex} (h : e.ok = true) : formD 6 e = true := by
  simp only [Ex.ok, Bool.and_eq_true] at h; first | exact h.1 | exact h.2
theorem put_flat {m : MM} (hm : m.Six) {a : AD} (ha : a.ok = true) (h1 : a.kind ≠ 1) (n : Int) : (m.put a n).flat = m.flat.set (pos a) (cut n) := by
  have hk : 1 ≤ a.kind ∧ a.kind ≤ 3 ∧ 0 ≤ a.at' ∧ a.at' < 6 := by simp only [AD.ok, Bool.and_eq_true, decide_eq_true_eq] at ha; omega
  have e1 := hm.i
  have e2 := hm.o
  have h23 : a.kind = 2 ∨ a.kind = 3 := by omega
  rcases h23 with h2 | h2
  · rw [MM.put2 (by rw [h2]; rfl)]
    unfold MM.flat pos
    rw [h2]
    show m.i ++ (m.o.set a.at'.toNat (cut n) ++ m.v) = (m.i ++ (m.o ++ m.v)).set (1 * 6 + a.at'.toNat) (cut n)
    rw [List.set_append_right _ _ (by omega), List.set_append_left _ _ (by omega)]
    congr 3; omega
  · rw [MM.put3 (by rw [h2]; rfl) (by rw [h2]; rfl)]
    unfold MM.flat pos
    rw [h2]
    show m.i ++ (m.o ++ m.v.set a.at'.toNat (cut n)) = (m.i ++ (m.o ++ m.v)).set (2 * 6 + a.at'.toNat) (cut n)
    rw [List.set_append_right _ _ (by omega), List.set_append_right _ _ (by omega)]
    congr 3; omega
def rfoot (r id F : Nat) (m : MM) : List (Nat × AObj) := [(r, .cells 68 [.ptr id 0, .int .i64 (F : Int)]), (id, .cells 122 (ints m.flat))]
@[go_sem] theorem rfoot_eq (r id F : Nat) (m : MM) : rfoot r id F m = [(r, .cells 68 [.ptr id 0, .int .i64 (F : Int)]), (id, .cells 122 (ints m.flat))] := rfl
def ru (r id : Nat) (x : MM × Nat × Bool) : List (Nat × Option AObj) := [(r, some (.cells 68 [.ptr id 0, .int .i64 (x.2.1 : Int)])), (id, some (.cells 122 (ints x.1.flat)))]
@[go_sem] theorem ru_eq (r id : Nat) (x : MM × Nat × Bool) : ru r id x = [(r, some (.cells 68 [.ptr id 0, .int .i64 (x.2.1 : Int)])), (id, some (.cells 122 (ints x.1.flat)))] := rfl
def ROut (r id : Nat) (x : MM × Nat × Bool) (_ : List Nat) (o : COut) : Prop := o = { rs := [errV x.2.2], u := ru r id x }
def AllK (r id : Nat) (l : List Sm) : Prop := ∀ (m : MM) (F : Nat), m.Six → F ≤ 1000 → CallF Tryz.prog 43 [.ptr r 0, .rows 52 (Sm.csL l)] (rfoot r id F m) 0 (ROut r id (Sm.exL l m F))
def DoK (r id : Nat) (s : Sm) (fo : Nat) (v : PV) : Prop := ∀ (m : MM) (F : Nat), m.Six → F ≤ 1000 → CallF Tryz.prog fo [v, .ptr r 0] (rfoot r id F m) 0 (ROut r id (s.ex m F))
theorem take_ok (r id F : Nat) (m : MM) (hrd : r ≠ id) (hF : F ≤ 1000) : CallF Tryz.prog 190 [.ptr r 0] (rfoot r id F m) 0 (ROut r id (m, F - 1, decide (F = 0))) := by
  refine callF_of' Tryz.func190 rfl Tryz.ntmps190 (by simp) ?_
  intro f0 B ns Q hB hns hQ
  have hid : r < B := hB r (by simp [hasKey, lk, rfoot])
  obtain rfl : ns = [] := List.eq_nil_of_length_eq_zero hns
  refine g_ [0] ?_
  refine g_ [0,7] ?_
  refine c_ (fun hc0 => ?_) fun hc0 => ?_
  ·
    refine g_ [2] ?_
    refine wpM_ret ?_
    try refine S_ ?_
    have h0 : F = 0 := by simpa using hc0
    subst h0
    refine hQ _ _ (ret0 (ru r id (m, 0, true)) rfl rfl rfl (by rw [Tryz.results190] <;> simp (maxSteps := 1000000) -implicitDefEqProofs (disch := omega) only [go_sem] <;> rfl) rfl ?_ ?_ ?_ ?_)
    all_goals simp -implicitDefEqProofs (disch := omega) only [go_sem, true_or, or_true]
  refine g_ [] ?_
  refine g_ [2] ?_
  refine wpM_ret ?_
  try refine S_ ?_
  have h0 : ¬ F = 0 := by simpa using hc0
  have h1 : ((F - 1 : Nat) : Int) = (F : Int) - 1 := by omega
  refine hQ _ _ (ret0 (ru r id (m, F - 1, false)) rfl rfl rfl (by rw [Tryz.results190] <;> simp (maxSteps := 1000000) -implicitDefEqProofs (disch := omega) only [go_sem] <;> rfl) (by rw [ROut, decide_eq_false h0]; rfl) ?_ ?_ ?_ ?_)
  all_goals simp -implicitDefEqProofs (disch := omega) only [go_sem, h1, true_or, or_true]
theorem set_do (r id : Nat) (hrd : r ≠ id) (s : Sm) (hk : (s.kind == 1) = true) (ha : s.to'.ok = true) (h1 : s.to'.kind ≠ 1) (he : s.e.ok = true) : DoK r id s 191 (.agg [.int .i64 s.to'.kind, .int .i64 s.to'.at', .int .i64 s.e.kind, .int .i64 s.e.n, .int .i64 s.e.a.kind, .int .i64 s.e.a.at', .rows 50 (Ex.csL s.e.kids)]) := by
  intro m F hm hF
  rw [Sm.ex_eq, hk, if_pos rfl]
  have hr := reckon_ok m hm id 6 s.e (ok_form he)
  have hp := put_flat hm ha h1 (s.e.of m)
  refine callF_of' Tryz.func191 rfl Tryz.ntmps191 (by simp) ?_
  intro f0 B ns Q hB hns hQ
  have hid : r < B := hB r (by simp [hasKey, lk, rfoot])
  have hid2 : id < B := hB id (by simp [hasKey, lk, rfoot, hrd])
  obtain rfl : ns = [] := List.eq_nil_of_length_eq_zero hns
  refine g_ [1,2] ?_
  refine n_ ?_
  refine dr_ mixed [] 0 3 [B, r, id] [⟨[1],[],[],[],false⟩,⟨[5],[],[],[],false⟩,⟨[6],[],[],[],false⟩,⟨[7],[1],[],[],false⟩,⟨[2],[],[],[],false⟩,⟨[9],[0],[],[],false⟩,⟨[1],[],[],[],false⟩,⟨[11],[],[],[],false⟩,⟨[12],[],[],[],false⟩,⟨[13],[1],[],[],false⟩,⟨[2],[],[],[],false⟩,⟨[15],[0],[],[],false⟩,⟨[14,16],[2],[],[],true⟩,⟨[8,10,17],[2],[2],[],true⟩] [0,1,2,3,4,5,6,7,8,9,10,11,12,13] [[],[0],[0,1],[0,1,2],[],[4],[],[6],[6,7],[6,7,8],[],[10],[6,7,8,9,10,11],[0,1,2,3,4,5,6,7,8,9,10,11,12]] 3 (htbl := by simp; omega) (hnm := by simp) ?_
  intro O A K hO hA hK;simp only [atL_cons,atL_nil,Nat.reduceAdd,Nat.zero_add] at hO hA
  refine SO_ ?_
  refine loud_r hr (subG_spec T_) Tryz.call169 rfl rfl F_ rfl ?_
  refine SO_ ?_
  refine loud_fn (first := []) (cap := []) (ps := [.ptr id 0, .agg s.to'.cs, .int .i64 (s.e.of m)]) (l := mobj id m) (iput_ok id m.flat s.to' (s.e.of m) ha h1 (MM.flat_len hm)) Tryz.call130 rfl rfl F_ (subG_spec T_) rfl ?_
  rintro out rfl
  rw [← hp]
  refine ⟨rfl, ?_⟩
  refine SO_ ?_
  refine hK _ (S_ ?_);clear hK K hO hA O A
  refine g_ [4] ?_
  refine wpM_ret ?_
  try refine S_ ?_
  refine hQ _ _ (ret0 (ru r id (m.put s.to' (s.e.of m), F, false)) rfl rfl rfl (by rw [Tryz.results191] <;> simp (maxSteps := 1000000) -implicitDefEqProofs (disch := omega) only [go_sem] <;> rfl) rfl ?_ ?_ ?_ ?_)
  all_goals simp -implicitDefEqProofs (disch := omega) only [go_sem, true_or, or_true]
theorem if_do (r id : Nat) (hrd : r ≠ id) (s : Sm) (hk : (s.kind == 1) = false) (hk3 : (s.kind == 3) = false) (he : s.e.ok = true) (ht : AllK r id s.th) (hl : AllK r id s.el) : DoK r id s 195 (.agg [.int .i64 s.e.kind, .int .i64 s.e.n, .int .i64 s.e.a.kind, .int .i64 s.e.a.at', .rows 50 (Ex.csL s.e.kids), .rows 52 (Sm.csL s.th), .rows 52 (Sm.csL s.el)]) := by
  intro m F hm hF
  rw [Sm.ex_eq, hk, hk3, if_neg (by simp), if_neg (by simp)]
  have hr := reckon_ok m hm id 6 s.e (ok_form he)
  refine callF_of' Tryz.func195 rfl Tryz.ntmps195 (by simp) ?_
  intro f0 B ns Q hB hns hQ
  have hid : r < B := hB r (by simp [hasKey, lk, rfoot])
  have hid2 : id < B := hB id (by simp [hasKey, lk, rfoot, hrd])
  obtain rfl : ns = [] := List.eq_nil_of_length_eq_zero hns
  refine g_ [1,2] ?_
  refine n_ ?_
  refine dr_ mixed [1,2,12] 0 3 [B, r, id] [⟨[1],[],[],[],false⟩,⟨[5],[],[],[],false⟩,⟨[6],[],[],[],false⟩,⟨[7],[1],[],[],false⟩,⟨[2],[],[],[],false⟩,⟨[9],[0],[],[],false⟩,⟨[8,10],[2],[],[],true⟩,⟨[11],[],[],[],true⟩] [0,1,2,3,4,5,6,7] [[],[0],[0,1],[0,1,2],[],[4],[0,1,2,3,4,5],[0,1,2,3,4,5,6]] 3 (htbl := by simp; omega) (hnm := by simp) ?_
  intro O A K hO hA hK;simp only [atL_cons,atL_nil,Nat.reduceAdd,Nat.zero_add] at hO hA
  refine SO_ ?_
  refine loud_r hr (subG_spec T_) Tryz.call169 rfl rfl F_ rfl ?_
  refine SO_ ?_
  refine lp_ (ion_ok (s.e.of m)) Tryz.call136 ?_
  refine hK _ (S_ ?_);clear hK K hO hA O A
  refine c_ (fun hc0 => ?_) fun hc0 => ?_
  ·
    refine n_ ?_
    refine wpM_regionK [4] rfl fun Q1 hQ1 => ?_
    refine S_ ?_
    refine call_fn (l := rfoot r id F m) (first := []) (cap := []) (ps := [.ptr r 0, .rows 52 (Sm.csL s.th)]) (ht m F hm hF) Tryz.call43 rfl rfl rfl G_ T_ ?_
    rintro out rfl
    refine S_ ?_
    refine hQ1 _ _ (S_ ?_);clear hQ1 Q1
    refine wpM_ret ?_
    try refine S_ ?_
    rw [if_pos hc0] at hQ
    refine hQ _ _ (ret0 (ru r id (Sm.exL s.th m F)) rfl rfl rfl (by rw [Tryz.results195] <;> simp (maxSteps := 1000000) -implicitDefEqProofs (disch := omega) only [go_sem] <;> rfl) rfl ?_ ?_ ?_ ?_)
    all_goals simp -implicitDefEqProofs (disch := omega) only [go_sem, true_or, or_true]
  refine n_ ?_
  refine wpM_regionK [4] rfl fun Q1 hQ1 => ?_
  refine S_ ?_
  refine call_fn (l := rfoot r id F m) (first := []) (cap := []) (ps := [.ptr r 0, .rows 52 (Sm.csL s.el)]) (hl m F hm hF) Tryz.call43 rfl rfl rfl G_ T_ ?_
  rintro out rfl
  refine S_ ?_
  refine hQ1 _ _ (S_ ?_);clear hQ1 Q1
  refine wpM_ret ?_
  try refine S_ ?_
  rw [if_neg (by rw [hc0]; simp)] at hQ
  refine hQ _ _ (ret0 (ru r id (Sm.exL s.el m F)) rfl rfl rfl (by rw [Tryz.results195] <;> simp (maxSteps := 1000000) -implicitDefEqProofs (disch := omega) only [go_sem] <;> rfl) rfl ?_ ?_ ?_ ?_)
  all_goals simp -implicitDefEqProofs (disch := omega) only [go_sem, true_or, or_true]
@[go_sem] theorem neq_errV (x : Operand) (v : Value) (b : Bool) : binOpA Tryz.prog .neq 70 x (.const v) (errV b) .nilif = some (.bool b) := by
  cases b
  · exact neq_nil2 x v
  · exact neq_errn x (.const v)
theorem while_do (r id : Nat) (hrd : r ≠ id) (s : Sm) (hk : (s.kind == 1) = false) (hk3 : (s.kind == 3) = true) (he : s.e.ok = true) (ht : AllK r id s.th) : DoK r id s 199 (.agg [.int .i64 s.e.kind, .int .i64 s.e.n, .int .i64 s.e.a.kind, .int .i64 s.e.a.at', .rows 50 (Ex.csL s.e.kids), .rows 52 (Sm.csL s.th)]) := by
  intro m F hm hF
  rw [Sm.ex_eq, hk, hk3, if_neg (by simp), if_pos rfl]
  have hr : ∀ m : MM, m.Six → RecK m id s.e := fun m hm => reckon_ok m hm id 6 s.e (ok_form he)
  refine callF_of' Tryz.func199 rfl Tryz.ntmps199 (by simp) ?_
  intro f0 B ns Q hB hns hQ
  have hid : r < B := hB r (by simp [hasKey, lk, rfoot])
  have hid2 : id < B := hB id (by simp [hasKey, lk, rfoot, hrd])
  obtain rfl : ns = [] := List.eq_nil_of_length_eq_zero hns
  generalize hcb : (fun m F => Sm.exL s.th m F) = b at hQ
  generalize hcc : (fun m => s.e.of m != 0) = c at hQ
  generalize hW : wh c b (F + 1) m F = W at hQ
  refine g_ [1,2] ?_
  refine n_ ?_
  refine wpM_loopS (fun q n s' => ∃ (g M : Nat) (m' : MM), m'.Six ∧ n < g ∧ n ≤ 1000 ∧ W = wh c b g m' n ∧ q.M ≤ M ∧ s' = { q with env := q.env, l := [(B, .cells 153 [.int .i64 s.e.kind, .int .i64 s.e.n, .int .i64 s.e.a.kind, .int .i64 s.e.a.at', .rows 50 (Ex.csL s.e.kids), .rows 52 (Sm.csL s.th)])] ++ rfoot r id n m', M := M }) (F) ?_ ?_
  ·
    refine .of' _ _ ⟨F + 1, _, m, hm, by omega, hF, hW.symm, Nat.le_refl _, rfl⟩ ?_ ?_ ?_ <;> exact L_
  rintro n s' ⟨g, M, m', hm', hng, hn, hw, hM, rfl⟩
  clear hW
  try dsimp only at hM
  obtain ⟨g, rfl⟩ : ∃ g', g = g' + 1 := ⟨g - 1, by omega⟩
  simp only [wh] at hw
  have hc' : c m' = (s.e.of m' != 0) := by rw [← hcc]
  have hb' : b m' n = Sm.exL s.th m' n := by rw [← hcb]
  rw [hc', hb'] at hw
  have hle := Sm.exL_le s.th m' n
  have hsx := Sm.exL_six s.th m' n hm'
  try refine S_ ?_
  refine n_ ?_
  refine dr_ mixed [1,2,14] 0 3 [B, r, id] [⟨[1],[],[],[],false⟩,⟨[7],[],[],[],false⟩,⟨[8],[],[],[],false⟩,⟨[9],[1],[],[],false⟩,⟨[2],[],[],[],false⟩,⟨[11],[0],[],[],false⟩,⟨[10,12],[2],[],[],true⟩,⟨[13],[],[],[],true⟩] [0,1,2,3,4,5,6,7] [[],[0],[0,1],[0,1,2],[],[4],[0,1,2,3,4,5],[0,1,2,3,4,5,6]] 3 (htbl := by simp; omega) (hnm := by simp) ?_
  intro O A K hO hA hK;simp only [atL_cons,atL_nil,Nat.reduceAdd,Nat.zero_add] at hO hA
  refine SO_ ?_
  refine loud_r (hr m' hm') (subG_spec T_) Tryz.call169 rfl rfl F_ rfl ?_
  refine SO_ ?_
  refine lp_ (ion_ok (s.e.of m')) Tryz.call136 ?_
  refine hK _ (S_ ?_);clear hK K hO hA O A
  refine c_ (fun hc0 => ?_) fun hc0 => ?_
  ·
    rw [if_pos hc0] at hw
    refine n_ ?_
    refine wpM_regionK [1,2,5] rfl fun Q1 hQ1 => ?_
    refine S_ ?_
    refine call_fn (l := rfoot r id n m') (first := []) (cap := []) (ps := [.ptr r 0, .rows 52 (Sm.csL s.th)]) (ht m' n hm' hn) Tryz.call43 rfl rfl rfl G_ T_ ?_
    rintro out rfl
    refine S_ ?_
    refine hQ1 _ _ (S_ ?_);clear hQ1 Q1
    refine g_ [1,2,5,20] ?_
    refine c_ (fun hc1 => ?_) fun hc1 => ?_
    ·
      rw [if_pos hc1] at hw
      refine g_ [4] ?_
      refine wpM_ret ?_
      try refine S_ ?_
      rw [hw] at hQ
      refine hQ _ _ (ret0 (ru r id (Sm.exL s.th m' n)) rfl rfl rfl (by rw [Tryz.results199] <;> simp (maxSteps := 1000000) -implicitDefEqProofs (disch := omega) only [go_sem] <;> rfl) rfl ?_ ?_ ?_ ?_)
      all_goals simp -implicitDefEqProofs (disch := omega) only [go_sem, true_or, or_true]
    rw [if_neg (by rw [hc1]; simp)] at hw
    refine n_ ?_
    refine wpM_regionK [1,2,6] rfl fun Q1 hQ1 => ?_
    refine S_ ?_
    refine call_fn (l := rfoot r id (Sm.exL s.th m' n).2.1 (Sm.exL s.th m' n).1) (first := []) (cap := []) (ps := [.ptr r 0]) (take_ok r id (Sm.exL s.th m' n).2.1 (Sm.exL s.th m' n).1 hrd (by omega)) Tryz.call190 rfl rfl rfl G_ T_ ?_
    rintro out rfl
    refine S_ ?_
    refine hQ1 _ _ (S_ ?_);clear hQ1 Q1
    refine g_ [1,2,6,25] ?_
    refine c_ (fun hc2 => ?_) fun hc2 => ?_
    ·
      rw [if_pos hc2] at hw
      refine g_ [4] ?_
      refine wpM_ret ?_
      try refine S_ ?_
      rw [hw] at hQ
      refine hQ _ _ (ret0 (ru r id ((Sm.exL s.th m' n).1, 0, true)) rfl rfl rfl (by rw [Tryz.results199] <;> simp (maxSteps := 1000000) -implicitDefEqProofs (disch := omega) only [go_sem] <;> rfl) (by rw [decide_eq_true hc2]; rfl) ?_ ?_ ?_ ?_)
      all_goals simp -implicitDefEqProofs (disch := omega) only [go_sem, hc2, true_or, or_true]
    rw [if_neg hc2] at hw
    refine n_ ?_
    refine .of' _ _ ⟨(Sm.exL s.th m' n).2.1 - 1, by omega, g, _, (Sm.exL s.th m' n).1, hsx, by omega, by omega, hw, ?_, rfl⟩ ?_ ?_ ?_
    · exact M_
    all_goals exact L_
  rw [if_neg (by rw [hc0]; simp)] at hw
  refine g_ [4] ?_
  refine wpM_ret ?_
  try refine S_ ?_
  rw [hw] at hQ
  refine hQ _ _ (ret0 (ru r id (m', n, false)) rfl rfl rfl (by rw [Tryz.results199] <;> simp (maxSteps := 1000000) -implicitDefEqProofs (disch := omega) only [go_sem] <;> rfl) rfl ?_ ?_ ?_ ?_)
  all_goals simp -implicitDefEqProofs (disch := omega) only [go_sem, true_or, or_true]
theorem do_do (r id : Nat) (hrd : r ≠ id) (s : Sm) (hp : s.plain = true) (he : s.e.ok = true) (ht : AllK r id s.th) (hl : AllK r id s.el) : ∃ t v fp, doOf s = .iface t v ∧ (∀ args w, (callFunc fp args).run Tryz.prog w = .ok (.enter fp args) w) ∧
    (∀ (u : Value) w, (method (Tryz.prog.types.size + Made.depth) t u "loop.example/stopgate/impl.do").run Tryz.prog w = .ok (fp, u) w) ∧ DoK r id s fp v := by
  by_cases h1 : s.kind = 1
  · have ha : s.to'.ok = true ∧ s.to'.kind ≠ 1 := by
      simp only [Sm.plain, h1, beq_self_eq_true, if_true, Bool.and_eq_true, bne_iff_ne] at hp
      exact hp.1.1
    exact ⟨149, _, 191, by simp only [doOf, h1, beq_self_eq_true, if_true] <;> rfl, Tryz.call191, method_run info149 Tryz.underlying149 (by simp) (by rfl) rfl rfl, set_do r id hrd s (by rw [h1]; rfl) ha.1 ha.2 he⟩
  by_cases h2 : s.kind = 2
  · exact ⟨151, _, 195, by simp only [doOf, h2, beq_self_eq_true, if_true] <;> rfl, Tryz.call195, method_run info151 Tryz.underlying151 (by simp) (by rfl) rfl rfl, if_do r id hrd s (by rw [h2]; rfl) (by rw [h2]; rfl) he ht hl⟩
  have h3 : s.kind = 3 := by
    by_cases h3 : s.kind = 3
    · exact h3
    · simp [Sm.plain, h1, h2, h3] at hp
  exact ⟨153, _, 199, by simp only [doOf, h3, beq_self_eq_true, if_true] <;> rfl, Tryz.call199, method_run info153 Tryz.underlying153 (by simp) (by rfl) rfl rfl, while_do r id hrd s (by rw [h3]; rfl) (by rw [h3]; rfl) he ht⟩
theorem all_ok (r id : Nat) (hrd : r ≠ id) : ∀ (N : Nat) (l : List Sm), Sm.szL l ≤ N → Sm.szL l ≤ 1099511627776 → (∃ d, formS d l = true) → AllK r id l := by
  intro N
  induction N with
  | zero =>
    intro l hN hs ⟨d, hf⟩ m F hm hF
    have h0 : l.length = 0 := by have := Sm.len_szL l; omega
    obtain rfl : l = [] := List.eq_nil_of_length_eq_zero h0
    refine callF_of' Tryz.func43 rfl Tryz.ntmps43 (by simp) ?_
    intro f0 B ns Q hB hns hQ
    have hid : r < B := hB r (by simp [hasKey, lk, rfoot])
    have hid2 : id < B := hB id (by simp [hasKey, lk, rfoot, hrd])
    obtain rfl : ns = [] := List.eq_nil_of_length_eq_zero hns
    refine g_ [0,1] ?_
    refine g_ [0,8,9,10] ?_
    refine n_ ?_
    refine wpM_loopS (fun s n s' => s' = s) (0) ?_ ?_
    ·
      exact .here rfl
    rintro n s' rfl
    try refine S_ ?_
    refine g_ [0,8,9,10,11] ?_
    refine c_ (fun hc0 => ?_) fun hc0 => ?_
    · simp at hc0
    refine g_ [4] ?_
    refine wpM_ret ?_
    try refine S_ ?_
    refine hQ _ _ (ret0 (ru r id (m, F, false)) rfl rfl rfl (by rw [Tryz.results43] <;> simp (maxSteps := 1000000) -implicitDefEqProofs (disch := omega) only [go_sem] <;> rfl) rfl ?_ ?_ ?_ ?_)
    all_goals simp -implicitDefEqProofs (disch := omega) only [go_sem, true_or, or_true]
  | succ N ih =>
    intro l hN hs ⟨d, hf⟩ m F hm hF
    have hlen := Sm.len_szL l
    have hdo : ∀ i, i < l.length → ∃ t v fp, doOf (l.getD i default) = .iface t v ∧ (∀ args w, (callFunc fp args).run Tryz.prog w = .ok (.enter fp args) w) ∧
        (∀ (u : Value) w, (method (Tryz.prog.types.size + Made.depth) t u "loop.example/stopgate/impl.do").run Tryz.prog w = .ok (fp, u) w) ∧ DoK r id (l.getD i default) fp v := by
      intro i hi
      obtain ⟨h1, h2, d', h3, h4⟩ := formS_at hf hi
      have := Sm.get_in hi
      exact do_do r id hrd _ h1 h2 (ih _ (by omega) (by omega) ⟨d', h3⟩) (ih _ (by omega) (by omega) ⟨d', h4⟩)
    refine callF_of' Tryz.func43 rfl Tryz.ntmps43 (by simp) ?_
    intro f0 B ns Q hB hns hQ
    have hid : r < B := hB r (by simp [hasKey, lk, rfoot])
    have hid2 : id < B := hB id (by simp [hasKey, lk, rfoot, hrd])
    obtain rfl : ns = [] := List.eq_nil_of_length_eq_zero hns
    refine g_ [0,1] ?_
    refine g_ [0,8,9,10] ?_
    refine n_ ?_
    refine wpM_loopS (fun q n s' => ∃ (i M : Nat), i + n = l.length ∧ B ≤ M ∧ (Sm.exL (l.take i) m F).2.2 = false ∧ s' = { q with env := setE 10 (.int .i64 (i : Nat)) q.env, l := rfoot r id (Sm.exL (l.take i) m F).2.1 (Sm.exL (l.take i) m F).1, M := M }) (l.length) ?_ ?_
    ·
      refine .of' _ _ ⟨0, _, by omega, Nat.le_refl _, rfl, rfl⟩ ?_ ?_ ?_ <;> exact L_
    rintro n s' ⟨i, M, hi, hM, hv, rfl⟩
    have hsx := Sm.exL_six (l.take i) m F hm
    have hle := Sm.exL_le (l.take i) m F
    try refine S_ ?_
    refine g_ [0,8,9,10,11] ?_
    refine c_ (fun hc0 => ?_) fun hc0 => ?_
    ·
      have hi2 : i < l.length := by omega
      have htk := Sm.exL_take l m F i hi2
      rw [hv, if_neg (by simp)] at htk
      obtain ⟨t, v, fp, hr, q1, q2, q3⟩ := hdo i hi2
      refine g_ [0,6,8,9,10] ?_
      refine n_ ?_
      refine wpM_regionK [0,7,8,9,10] rfl fun Q1 hQ1 => ?_
      refine S_ ?_
      refine cp_ (doOf_ok (l.getD i default)) Tryz.call64 ?_
      refine call_inv (l := rfoot r id (Sm.exL (l.take i) m F).2.1 (Sm.exL (l.take i) m F).1) (ps := [.ptr r 0]) (k := 0) (q3 _ _ hsx (by omega)) q1 q2 rfl rfl (by simp -implicitDefEqProofs (disch := omega) only [go_sem, hr]) T_ T_ ?_
      rintro out rfl
      rw [← htk]
      refine S_ ?_
      refine hQ1 _ _ (S_ ?_);clear hQ1 Q1
      refine g_ [0,7,8,9,10,19] ?_
      refine c_ (fun hc1 => ?_) fun hc1 => ?_
      ·
        refine g_ [4] ?_
        refine wpM_ret ?_
        try refine S_ ?_
        rw [Sm.exL_long hc1] at hQ
        refine hQ _ _ (ret0 (ru r id (Sm.exL (l.take (i + 1)) m F)) rfl rfl rfl (by rw [Tryz.results43] <;> simp (maxSteps := 1000000) -implicitDefEqProofs (disch := omega) only [go_sem] <;> rfl) (by rw [ROut, hc1]) ?_ ?_ ?_ ?_)
        all_goals simp -implicitDefEqProofs (disch := omega) only [go_sem, true_or, or_true]
      refine g_ [0,8,9,10] ?_
      refine .of' _ _ ⟨n - 1, by omega, i + 1, _, by omega, ?_, hc1, rfl⟩ ?_ ?_ ?_
      · exact M_
      all_goals exact L_
    refine g_ [4] ?_
    refine wpM_ret ?_
    try refine S_ ?_
    obtain rfl : i = l.length := by omega
    rw [List.take_of_length_le (Nat.le_refl _)] at hv
    refine hQ _ _ (ret0 (ru r id (Sm.exL l m F)) rfl rfl rfl (by rw [Tryz.results43] <;> simp (maxSteps := 1000000) -implicitDefEqProofs (disch := omega) only [go_sem] <;> rfl) (by rw [ROut, hv]; rfl) ?_ ?_ ?_ ?_)
    all_goals simp -implicitDefEqProofs (disch := omega) only [go_sem, true_or, or_true, List.take_of_length_le (Nat.le_refl l.length)]
end Go.Proofs.YtmicbfojofcigaaGreatDoor
namespace Go.Proofs.YtmicbfojofcigaaGreatDoor
open Go Sg
set_option maxRecDepth 100000
set_option linter.unusedSimpArgs false
set_option linter.unusedVariables false
set_option linter.unusedSectionVars false
set_option maxHeartbeats 4000000
variable [ErrL]
theorem badS_eq (n d : Int) (s : Sm) : badS n d s = (decide (n > 16) || decide (d ≥ 4) || !(s.plain && s.e.ok)) := by
  unfold badS
  rw [vis_ok]
  cases hp : s.plain
  · simp
  · have : doNil s = false := by
      unfold Sm.plain at hp
      unfold doNil
      cases h1 : s.kind == 1 <;> cases h2 : s.kind == 2 <;> cases h3 : s.kind == 3 <;> simp_all
    rw [this]
    cases s.e.ok <;> simp
theorem manyS_cons (k : Nat) (s : Sm) (l : List Sm) : manyS (k + 1) (s :: l) = 1 + manyS k s.th + manyS k s.el + manyS (k + 1) l := by
  simp only [manyS, List.length_cons, List.map_cons, List.sum_cons]; omega
theorem formS_cons (k : Nat) (s : Sm) (l : List Sm) : formS (k + 1) (s :: l) = (s.plain && s.e.ok && formS k s.th && formS k s.el && formS (k + 1) l) := by
  simp only [formS, List.all_cons]
theorem manyS_nil (k : Nat) : manyS k [] = 0 := by cases k <;> rfl
theorem formS_nil (k : Nat) : formS k [] = true := by cases k <;> rfl
theorem visL_eq (k : Nat) : ∀ (l : List Sm) (d c : Nat), d + k = 4 → c ≤ 16 → Sm.visL l d c = if formS k l = true ∧ c + manyS k l ≤ 16 then some (c + manyS k l) else none := by
  induction k with
  | zero =>
    intro l d c hd hc
    cases l with
    | nil => simp [Sm.visL, formS, manyS, hc]
    | cons s l =>
      simp only [Sm.visL, Sm.vis_eq, badS_eq]
      have : decide ((d : Int) ≥ 4) = true := by simp; omega
      simp [this, formS]
  | succ k ih =>
    intro l
    induction l with
    | nil => intro d c hd hc; simp [Sm.visL, formS_nil, manyS_nil, hc]
    | cons s l ihl =>
      intro d c hd hc
      simp only [Sm.visL, Sm.vis_eq, badS_eq]
      have hd4 : decide ((d : Int) ≥ 4) = false := by simp; omega
      rw [manyS_cons, formS_cons, hd4, Bool.or_false]
      by_cases h16 : c + 1 > 16
      · have : decide (((c : Int) + 1) > 16) = true := by simp; omega
        rw [this, Bool.true_or, if_pos rfl, if_neg (by omega)]
      · have : decide (((c : Int) + 1) > 16) = false := by simp; omega
        rw [this, Bool.false_or]
        cases hp : (s.plain && s.e.ok)
        · simp
        · simp only [Bool.not_true, Bool.false_eq_true, if_false, Bool.true_and]
          rw [ih s.th (d + 1) (c + 1) (by omega) (by omega)]
          by_cases h1 : formS k s.th = true ∧ c + 1 + manyS k s.th ≤ 16
          · rw [if_pos h1]
            dsimp only
            rw [ih s.el (d + 1) _ (by omega) h1.2]
            by_cases h2 : formS k s.el = true ∧ c + 1 + manyS k s.th + manyS k s.el ≤ 16
            · rw [if_pos h2]
              dsimp only
              rw [ihl d _ hd h2.2]
              rw [h1.1, h2.1]
              simp only [Bool.true_and]
              have e : c + 1 + manyS k s.th + manyS k s.el + manyS (k + 1) l = c + (1 + manyS k s.th + manyS k s.el + manyS (k + 1) l) := by omega
              rw [e]
            · rw [if_neg h2, if_neg]
              rintro ⟨g1, g2⟩
              simp only [Bool.and_eq_true] at g1
              exact h2 ⟨g1.1.2, by omega⟩
          · rw [if_neg h1, if_neg]
            rintro ⟨g1, g2⟩
            simp only [Bool.and_eq_true] at g1
            exact h1 ⟨g1.1.1, by omega⟩
theorem visL_ok (l : List Sm) : Sm.visL l 0 0 = if okS l = true then some (manyS 4 l) else none := by
  rw [visL_eq 4 l 0 0 rfl (by omega)]
  simp only [Nat.zero_add, okS, Bool.and_eq_true, decide_eq_true_eq, and_comm]
theorem visL_is (l : List Sm) : (Sm.visL l 0 0).isSome = okS l := by
  rw [visL_ok]; cases okS l <;> rfl
theorem okS_form {l : List Sm} (h : okS l = true) : formS 4 l = true ∧ manyS 4 l ≤ 16 := by
  simpa [okS, and_comm] using h
theorem istmtsOk_ok (l : List Sm) (hs : Sm.szL l ≤ 1099511627776) : PureF Tryz.prog 24 [.rows 52 (Sm.csL l)] [.bool (okS l)] := by
  refine pureF_of Tryz.func24 rfl Tryz.ntmps24 (by simp) T_ ?_
  intro f0 B Q hQ
  have hv := visL_is l
  refine g_ [0] ?_
  refine g_ [0,3] ?_
  refine n_ ?_
  refine wpM_regionK [2] rfl fun Q1 hQ1 => ?_
  refine S_ ?_
  refine call_fn (l := [(B, .cells 3 [.int .i64 ((0 : Nat) : Int)])]) (first := []) (cap := []) (ps := [.rows 52 (Sm.csL l), .int .i64 ((0 : Nat) : Int), .ptr B 0]) (count_ok B _ l (Nat.le_refl _) hs 0 0 (by omega) (by omega)) Tryz.call46 rfl rfl rfl G_ (by simp -implicitDefEqProofs (disch := omega) only [go_sem, Int.natCast_zero]) ?_
  rintro out ⟨r1, c1, hr1, hc1, hk1, rfl⟩
  refine S_ ?_
  refine hQ1 _ _ (S_ ?_);clear hQ1 Q1
  refine e_ Tryz.results24 ?_
  first
  | exact True.intro
  | rw [← hr1, hv]
def manyOk (l : List Sm) : Nat := if okS l then manyS 4 l else 0
theorem imany_ok (l : List Sm) (hs : Sm.szL l ≤ 1099511627776) : PureF Tryz.prog 18 [.rows 52 (Sm.csL l)] [.int .i64 (manyOk l : Nat)] := by
  refine pureF_of Tryz.func18 rfl Tryz.ntmps18 (by simp) T_ ?_
  intro f0 B Q hQ
  have hv := visL_ok l
  refine g_ [0] ?_
  refine g_ [0,3] ?_
  refine n_ ?_
  refine wpM_regionK [3,6] rfl fun Q1 hQ1 => ?_
  refine S_ ?_
  refine call_fn (l := [(B, .cells 3 [.int .i64 ((0 : Nat) : Int)])]) (first := []) (cap := []) (ps := [.rows 52 (Sm.csL l), .int .i64 ((0 : Nat) : Int), .ptr B 0]) (count_ok B _ l (Nat.le_refl _) hs 0 0 (by omega) (by omega)) Tryz.call46 rfl rfl rfl G_ (by simp -implicitDefEqProofs (disch := omega) only [go_sem, Int.natCast_zero]) ?_
  rintro out ⟨r1, c1, hr1, hc1', hk1, rfl⟩
  refine S_ ?_
  refine hQ1 _ _ (S_ ?_);clear hQ1 Q1
  refine c_ (fun hc0 => ?_) fun hc0 => ?_
  ·
    refine g_ [2] ?_
    refine e_ Tryz.results18 ?_
    first
    | exact True.intro
    | unfold manyOk
      rw [hv] at hr1
      cases hok : okS l <;> rw [hok] at hr1 <;> subst hr1
      · first | rfl | (simp at hc0; done)
      · first
        | (exfalso; simp at hc0; done)
        | (have h1 := (hk1 _ rfl).1
           rw [h1]; rfl)
  refine g_ [2] ?_
  refine e_ Tryz.results18 ?_
  first
  | exact True.intro
  | unfold manyOk
    rw [hv] at hr1
    cases hok : okS l <;> rw [hok] at hr1 <;> subst hr1
    · first | rfl | (simp at hc0; done)
    · first
      | (exfalso; simp at hc0; done)
      | (have h1 := (hk1 _ rfl).1
         rw [h1]; rfl)
theorem ended_ok (id : Nat) (m : MM) (hm : m.Six) (F : Int) (b : Bool) : CallF Tryz.prog 44 [.ptr id 0, .int .i64 F, errV b] (mobj id m) 3 (fun ns o => ∃ x y z, ns = [x, y, z] ∧ o = { rs := [.agg (ocs x y z), .int .i64 (if b then 1 else 0), .int .i64 (if b then 0 else F)], nw := m.ol x y z }) := by
  refine callF_of' Tryz.func44 rfl Tryz.ntmps44 (by simp) ?_
  intro f0 B ns Q hB hns hQ
  have hid : id < B := hB id (by simp [hasKey, lk, mobj])
  obtain ⟨x, y, z, rfl⟩ : ∃ x y z, ns = [x, y, z] := by
    match ns, hns with
    | [x, y, z], _ => exact ⟨x, y, z, rfl⟩
  refine g_ [0,1,2,6] ?_
  refine n_ ?_
  refine wpM_regionK [0,1,6,11] rfl fun Q1 hQ1 => ?_
  refine S_ ?_
  refine cp_ (errIs_ok b) Tryz.call82 ?_
  refine hQ1 _ _ (S_ ?_);clear hQ1 Q1
  refine c_ (fun hc0 => ?_) fun hc0 => ?_
  ·
    refine n_ ?_
    refine wpM_regionK [6,7,8] rfl fun Q1 hQ1 => ?_
    refine S_ ?_
    refine call_fn (l := mobj id m) (first := []) (cap := []) (ps := [.ptr id 0]) (mem_ok m hm id) Tryz.call83 rfl rfl rfl G_ T_ ?_
    rintro out ⟨x2, y2, z2, ⟨⟩, rfl⟩
    refine S_ ?_
    refine hQ1 _ _ (S_ ?_);clear hQ1 Q1
    refine wpM_ret ?_
    try refine S_ ?_
    subst hc0
    refine hQ _ _ (retK [B + 1, B + 2, B + 3] [] (m.ol x y z) rfl rfl rfl (by rw [Tryz.results44] <;> simp (maxSteps := 1000000) -implicitDefEqProofs (disch := omega) only [go_sem] <;> rfl) ?_ ⟨x, y, z, rfl, rfl⟩ ?_ ?_ ?_ ?_ ?_ ?_)
    all_goals (first | (simp -implicitDefEqProofs (disch := omega) only [go_sem, List.nodup_cons, List.nodup_nil, true_or, or_true, List.mem_cons, List.not_mem_nil, if_true]; done) | (simp -implicitDefEqProofs (disch := omega) only [go_sem, List.nodup_cons, List.nodup_nil, true_or, or_true, List.mem_cons, List.not_mem_nil]; omega))
  refine n_ ?_
  refine wpM_regionK [6,7,8] rfl fun Q1 hQ1 => ?_
  refine S_ ?_
  refine call_fn (l := mobj id m) (first := []) (cap := []) (ps := [.ptr id 0]) (mem_ok m hm id) Tryz.call83 rfl rfl rfl G_ T_ ?_
  rintro out ⟨x2, y2, z2, ⟨⟩, rfl⟩
  refine S_ ?_
  refine hQ1 _ _ (S_ ?_);clear hQ1 Q1
  refine wpM_ret ?_
  try refine S_ ?_
  subst hc0
  refine hQ _ _ (retK [B + 1, B + 2, B + 3] [] (m.ol x y z) rfl rfl rfl (by rw [Tryz.results44] <;> simp (maxSteps := 1000000) -implicitDefEqProofs (disch := omega) only [go_sem] <;> rfl) ?_ ⟨x, y, z, rfl, rfl⟩ ?_ ?_ ?_ ?_ ?_ ?_)
  all_goals (first | (simp -implicitDefEqProofs (disch := omega) only [go_sem, List.nodup_cons, List.nodup_nil, true_or, or_true, List.mem_cons, List.not_mem_nil, if_true]; done) | (simp -implicitDefEqProofs (disch := omega) only [go_sem, List.nodup_cons, List.nodup_nil, true_or, or_true, List.mem_cons, List.not_mem_nil]; omega))
end Go.Proofs.YtmicbfojofcigaaGreatDoor
namespace Go.Proofs.YtmicbfojofcigaaGreatDoor
open Go Sg
set_option maxRecDepth 100000
set_option linter.unusedSimpArgs false
set_option linter.unusedVariables false
set_option linter.unusedSectionVars false
set_option maxHeartbeats 4000000
variable [ErrL]
def endO (x : MM × Nat × Bool) : MM × Int × Int := (x.1, if x.2.2 then 1 else 0, if x.2.2 then 0 else (x.2.1 : Int))
def noM : MM := ⟨[], [], []⟩
def runOk (m : MM) (l : List Sm) (F : Int) : Bool := m.ok && okS l && decide (0 ≤ F) && decide (F ≤ 100)
def runS (m : MM) (l : List Sm) (F : Int) : MM × Int × Int := if runOk m l F then endO (Sm.exL l m F.toNat) else (noM, 2, 0)
theorem isrun_ok (m : MM) (l : List Sm) (F : Int) (hm : m.Sm) (hs : Sm.szL l ≤ 1099511627776) : PureF Tryz.prog 16 [.agg m.cs, .rows 52 (Sm.csL l), .int .i64 F] [.agg (runS m l F).1.cs, .int .i64 (runS m l F).2.1, .int .i64 (runS m l F).2.2] := by
  refine pureF_of Tryz.func16 rfl Tryz.ntmps16 (by simp) T_ ?_
  intro f0 B Q hQ
  refine g_ [1,2,3,6] ?_
  refine n_ ?_
  refine wpM_regionK [1,2,6,9,10] rfl fun Q1 hQ1 => ?_
  refine S_ ?_
  refine call_fn (l := []) (first := []) (cap := []) (ps := [.agg m.cs]) (readMem_ok' m hm) Tryz.call42 rfl rfl rfl G_ T_ ?_
  rintro out ⟨x', p, l2, ⟨⟩, hp, rfl⟩
  refine S_ ?_
  refine hQ1 _ _ (S_ ?_);clear hQ1 Q1
  refine n_ ?_
  refine wpM_regionK [1,2,6,9,32] rfl fun Q1 hQ1 => ?_
  refine SD_ ?_
  first | refine cg_ (fun hb => istmtsOk_ok l hs) Tryz.call24 ?_ | refine cpD_ (istmtsOk_ok l hs) Tryz.call24 ?_
  refine hQ1 _ _ (S_ ?_);clear hQ1 Q1
  refine c_ (fun hc0 => ?_) fun hc0 => ?_
  ·
    refine g_ [6,7,8] ?_
    have hcs : runS m l F = (noM, 2, 0) := by
      rw [runS, if_neg]
      intro hh
      simp only [runOk, Bool.and_eq_true, decide_eq_true_eq] at hh
      obtain ⟨⟨⟨h1, h2⟩, h3⟩, h4⟩ := hh
      rw [h1, h2, decide_eq_false (by omega : ¬ F < 0), decide_eq_false (by omega : ¬ F > 100)] at hc0
      cases hc0
    refine wpM_le [(6, .ptr (B + 1) 0), (7, .int .i64 2), (8, .int .i64 0)] [(B + 1, .cells 33 [.rows 3 [], .rows 3 [], .rows 3 []])] T_ T_ T_ ?_
    refine e_ Tryz.results16 ?_
    first
    | exact True.intro
    | rw [hcs]
      repeat' apply And.intro
      all_goals rfl
  simp only [Bool.or_eq_false_iff, Bool.not_eq_false', decide_eq_false_iff_not] at hc0
  obtain ⟨⟨⟨h1, h2⟩, h3⟩, h4⟩ := hc0
  have hok : runOk m l F = true := by
    simp only [runOk, Bool.and_eq_true, decide_eq_true_eq]
    exact ⟨⟨⟨h1, h2⟩, by omega⟩, by omega⟩
  have hcs : runS m l F = endO (Sm.exL l m F.toNat) := by rw [runS, if_pos hok]
  have hsix := MM.ok_six h1
  have hsx := Sm.exL_six l m F.toNat hsix
  have hpp : p = .ptr (B + 2) 0 ∧ l2 = m.flat := by
    rcases hp with ⟨_, h2, h3⟩ | ⟨h5, _⟩
    · exact ⟨h2, h3⟩
    · rw [h1] at h5; cases h5
  obtain ⟨rfl, rfl⟩ := hpp
  have hFn : ((F.toNat : Nat) : Int) = F := by omega
  refine g_ [1,6,9,11] ?_
  refine n_ ?_
  refine wpM_regionK [6,9,11,12] rfl fun Q1 hQ1 => ?_
  refine S_ ?_
  refine call_fn (l := rfoot (B + 3) (B + 2) F.toNat m) (first := []) (cap := []) (ps := [.ptr (B + 3) 0, .rows 52 (Sm.csL l)]) (all_ok (B + 3) (B + 2) (by omega) _ l (Nat.le_refl _) hs ⟨4, (okS_form h2).1⟩ m F.toNat hsix (by omega)) Tryz.call43 rfl rfl rfl T_ (by simp -implicitDefEqProofs (disch := omega) only [go_sem, hFn]) ?_
  rintro out rfl
  refine S_ ?_
  refine hQ1 _ _ (S_ ?_);clear hQ1 Q1
  generalize hx : Sm.exL l m F.toNat = X at *
  refine n_ ?_
  refine wpM_regionK [6,7,8] rfl fun Q1 hQ1 => ?_
  refine S_ ?_
  refine call_fn (l := mobj (B + 2) X.1) (first := []) (cap := []) (ps := [.ptr (B + 2) 0, .int .i64 (X.2.1 : Int), errV X.2.2]) (ended_ok (B + 2) X.1 hsx (X.2.1 : Int) X.2.2) Tryz.call44 rfl rfl rfl G_ T_ ?_
  rintro out ⟨x2, y2, z2, ⟨⟩, rfl⟩
  refine S_ ?_
  refine hQ1 _ _ (S_ ?_);clear hQ1 Q1
  refine wpM_frz [B + 4, B + 5, B + 6] (X.1.tb (B + 4) (B + 5) (B + 6)) (by intro q hq; simp at hq; rcases hq with rfl | rfl | rfl <;> simp -implicitDefEqProofs (disch := omega) only [go_sem]) (X.1.frz hsx T_ T_ T_) ?_
  simp -implicitDefEqProofs (disch := omega) only [go_sem, MM.tb]
  refine e_ Tryz.results16 ?_
  first
  | exact True.intro
  | rw [hcs]
    repeat' apply And.intro
    all_goals rfl
end Go.Proofs.YtmicbfojofcigaaGreatDoor
namespace Go.Proofs.YtmicbfojofcigaaGreatDoor
open Go Sg
set_option linter.unusedSectionVars false
variable [Glob]
set_option maxRecDepth 100000
set_option linter.unusedSimpArgs false
set_option linter.unusedVariables false
set_option linter.unusedSectionVars false
set_option maxHeartbeats 4000000
structure GI where
  op : Int
  n : Int
  a : AD
  deriving Inhabited
def GI.cs (i : GI) : List PV := [.int .i64 i.op, .int .i64 i.n, .int .i64 i.a.kind, .int .i64 i.a.at']
@[go_sem] theorem GI.cs_eq (i : GI) : i.cs = [.int .i64 i.op, .int .i64 i.n, .int .i64 i.a.kind, .int .i64 i.a.at'] := rfl
def insR (l : List GI) : List (List PV) := l.map GI.cs
@[go_sem] theorem insR_len (l : List GI) : (insR l).length = l.length := by simp [insR]
@[go_sem] theorem insR_get (l : List GI) (k : Nat) (h : k < l.length) : (insR l).getD k [] = (l.getD k default).cs := by simp [insR, List.getD, h]
def insC (l : List GI) : List PV := (insR l).flatten
@[go_sem] theorem insR_flat (l : List GI) : (insR l).flatten = insC l := rfl
@[go_sem] theorem insC_len (l : List GI) : (insC l).length = l.length * 4 := by
  induction l with
  | nil => rfl
  | cons x l ih => simp only [insC, insR, List.map_cons, List.flatten_cons, List.length_append, List.length_cons] at ih ⊢; rw [ih]; simp [GI.cs]; omega
theorem insC_app (l r : List GI) : insC (l ++ r) = insC l ++ insC r := by simp [insC, insR]
theorem insC_one (i : GI) : insC [i] = i.cs := by simp [insC, insR]
@[go_sem] theorem insC_snoc (l : List GI) (x y z w : Int) : insC l ++ [.int .i64 x, .int .i64 y, .int .i64 z, .int .i64 w] = insC (l ++ [⟨x, y, ⟨z, w⟩⟩]) := by rw [insC_app, insC_one]; rfl
@[go_sem] theorem insC_cat (l r : List GI) : insC l ++ insC r = insC (l ++ r) := (insC_app l r).symm
@[go_sem] theorem idsL_insC (p : Nat → Prop) (l : List GI) : PV.idsL p (insC l) = True := by
  induction l with
  | nil => simp [insC, insR, PV.idsL]
  | cons x l ih => simp only [insC, insR, List.map_cons, List.flatten_cons, GI.cs, List.cons_append, List.nil_append, PV.idsL, PV.ids, true_and] at ih ⊢; exact ih
@[go_sem] theorem renL_insC (p : Nat → Nat) (l : List GI) : PV.renL p (insC l) = insC l := by
  induction l with
  | nil => rfl
  | cons x l ih => simp only [insC, insR, List.map_cons, List.flatten_cons, GI.cs, List.cons_append, List.nil_append, PV.renL, PV.ren] at ih ⊢; rw [ih]
@[go_sem] theorem insC_nil : insC [] = [] := rfl
@[go_sem] theorem cell_insC (l : List GI) : (insC l).all PV.cell = true := by
  induction l with
  | nil => rfl
  | cons x l ih => simp only [insC, insR, List.map_cons, List.flatten_cons, GI.cs, List.cons_append, List.nil_append, List.all_cons, PV.cell, Bool.true_and] at ih ⊢; exact ih
@[go_sem] theorem insC_all (l : List GI) : List.take (l.length * 4) (insC l) = insC l := List.take_of_length_le (by rw [insC_len]; omega)
theorem rowsOf_insC {f : Nat → Option AObj} {id n : Nat} {T : TypeId} {l : List GI} (h : f id = some (.cells T (insC l))) (hn : l.length = n) : RowsOf Tryz.prog f 81 id 0 n (insR l) := by
  subst hn
  refine ⟨by rw [cellsOf81]; omega, by simp [insR], ?_, T, _, h, ?_, ?_⟩
  · intro c hc
    simp only [insR, List.mem_map] at hc
    obtain ⟨x, _, rfl⟩ := hc
    rw [cellsOf81]; exact ⟨rfl, rfl⟩
  · rw [cellsOf81, insC_len]; omega
  · rw [cellsOf81, insR_flat, List.drop_zero, List.take_of_length_le (by rw [insC_len]; omega)]
theorem insC_set (l : List GI) (k : Nat) (x : Int) (h : k < l.length) : splice (insC l) (k * 4 + 1) [.int .i64 x] = insC (l.set k { l.getD k default with n := x }) := by
  induction l generalizing k with
  | nil => simp at h
  | cons i l ih =>
    cases k with
    | zero => simp [insC, insR, splice, GI.cs, List.getD]
    | succ k =>
      have h' : k < l.length := by simpa using h
      have := ih k h'
      simp only [splice, List.length_cons, List.length_nil] at this ⊢
      have e1 : insC (i :: l) = i.cs ++ insC l := by rw [← insC_one i, ← insC_app]; rfl
      have e2 : (k + 1) * 4 + 1 = i.cs.length + (k * 4 + 1) := by show _ = 4 + _; omega
      have e3 : (k + 1) * 4 + 1 + (0 + 1) = i.cs.length + (k * 4 + 1 + (0 + 1)) := by show _ = 4 + _; omega
      rw [e1, e3, e2, List.take_length_add_append, List.drop_length_add_append, List.append_assoc, List.append_assoc]
      rw [List.append_assoc] at this
      rw [this]
      simp only [List.getD_cons_succ, List.set_cons_succ]
      rw [← insC_one i, ← insC_app]; rfl
def A0 : AD := ⟨0, 0⟩
@[go_sem] theorem A0_kind : A0.kind = 0 := rfl
@[go_sem] theorem A0_at : A0.at' = 0 := rfl
@[go_sem] theorem cast_pred (n : Nat) : ((n + 1 : Nat) : Int) - 1 = n := by omega
def lastI (e : Ex) : GI := if e.kind == 1 then ⟨1, e.n, A0⟩ else if e.kind == 2 then ⟨2, 0, e.a⟩ else if e.kind == 10 then ⟨5, 0, A0⟩ else ⟨4, e.kind, A0⟩
mutual
def Ex.cd : Ex → List GI
  | .mk k n a l => Ex.cdL l ++ [lastI (.mk k n a l)]
def Ex.cdL : List Ex → List GI
  | [] => []
  | e :: l => e.cd ++ Ex.cdL l
end
theorem Ex.cd_eq (e : Ex) : e.cd = Ex.cdL e.kids ++ [lastI e] := by cases e; simp only [Ex.cd, Ex.kids]
theorem Ex.cdL_app (l r : List Ex) : Ex.cdL (l ++ r) = Ex.cdL l ++ Ex.cdL r := by
  induction l with
  | nil => rfl
  | cons e l ih => simp only [List.cons_append, Ex.cdL, ih, List.append_assoc]
theorem Ex.cdL_take (l : List Ex) (i : Nat) (h : i < l.length) : Ex.cdL (l.take (i + 1)) = Ex.cdL (l.take i) ++ (l.getD i default).cd := by
  rw [List.take_succ_eq_append_getElem h, Ex.cdL_app]
  simp [Ex.cdL, List.getD, h]
mutual
theorem Ex.cd_len : (e : Ex) → e.cd.length = e.sz
  | .mk k n a l => by simp only [Ex.cd, Ex.sz, List.length_append, List.length_cons, List.length_nil, Ex.cdL_len l]; omega
theorem Ex.cdL_len : (l : List Ex) → (Ex.cdL l).length = Ex.szL l
  | [] => rfl
  | e :: l => by simp only [Ex.cdL, Ex.szL, List.length_append, Ex.cd_len e, Ex.cdL_len l]
end
mutual
def Sm.cd : Sm → Nat → List GI
  | .mk k a e th el, at' =>
    let E := e.cd
    let A := Sm.cdL th (at' + E.length + 1)
    if k == 1 then E ++ [⟨3, 0, a⟩]
    else if k == 2 then
      let B := Sm.cdL el (at' + E.length + 1 + A.length + 1)
      E ++ [⟨6, (at' + E.length + 1 + A.length + 1 : Nat), A0⟩] ++ A ++ [⟨7, (at' + E.length + 1 + A.length + 1 + B.length : Nat), A0⟩] ++ B
    else if k == 3 then E ++ [⟨6, (at' + E.length + 1 + A.length + 1 : Nat), A0⟩] ++ A ++ [⟨8, (at' : Nat), A0⟩]
    else E
def Sm.cdL : List Sm → Nat → List GI
  | [], _ => []
  | s :: l, at' => s.cd at' ++ Sm.cdL l (at' + (s.cd at').length)
end
theorem Sm.cdL_app (l r : List Sm) (k : Nat) : Sm.cdL (l ++ r) k = Sm.cdL l k ++ Sm.cdL r (k + (Sm.cdL l k).length) := by
  induction l generalizing k with
  | nil => rfl
  | cons s l ih => simp only [List.cons_append, Sm.cdL, ih, List.append_assoc, List.length_append, Nat.add_assoc]
theorem Sm.cdL_take (l : List Sm) (k i : Nat) (h : i < l.length) : Sm.cdL (l.take (i + 1)) k = Sm.cdL (l.take i) k ++ (l.getD i default).cd (k + (Sm.cdL (l.take i) k).length) := by
  rw [List.take_succ_eq_append_getElem h, Sm.cdL_app]
  simp [Sm.cdL, List.getD, h]
theorem Sm.cd_eq (s : Sm) (k : Nat) : s.cd k =
    if s.kind == 1 then s.e.cd ++ [⟨3, 0, s.to'⟩]
    else if s.kind == 2 then s.e.cd ++ [⟨6, (k + s.e.cd.length + 1 + (Sm.cdL s.th (k + s.e.cd.length + 1)).length + 1 : Nat), A0⟩] ++ Sm.cdL s.th (k + s.e.cd.length + 1) ++ [⟨7, (k + s.e.cd.length + 1 + (Sm.cdL s.th (k + s.e.cd.length + 1)).length + 1 + (Sm.cdL s.el (k + s.e.cd.length + 1 + (Sm.cdL s.th (k + s.e.cd.length + 1)).length + 1)).length : Nat), A0⟩] ++ Sm.cdL s.el (k + s.e.cd.length + 1 + (Sm.cdL s.th (k + s.e.cd.length + 1)).length + 1)
    else if s.kind == 3 then s.e.cd ++ [⟨6, (k + s.e.cd.length + 1 + (Sm.cdL s.th (k + s.e.cd.length + 1)).length + 1 : Nat), A0⟩] ++ Sm.cdL s.th (k + s.e.cd.length + 1) ++ [⟨8, (k : Nat), A0⟩]
    else s.e.cd := by cases s; simp only [Sm.cd, Sm.kind, Sm.to', Sm.e, Sm.th, Sm.el] <;> rfl
mutual
theorem Sm.cd_len : (s : Sm) → (k : Nat) → (s.cd k).length ≤ 2 * s.sz
  | .mk k a e th el, at' => by
    simp only [Sm.cd, Sm.sz]
    have h1 := Ex.cd_len e
    have h2 := Sm.cdL_len th (at' + e.cd.length + 1)
    have h3 := Sm.cdL_len el (at' + e.cd.length + 1 + (Sm.cdL th (at' + e.cd.length + 1)).length + 1)
    split
    · simp; omega
    · split
      · simp; omega
      · split
        · simp; omega
        · omega
theorem Sm.cdL_len : (l : List Sm) → (k : Nat) → (Sm.cdL l k).length ≤ 2 * Sm.szL l
  | [], k => by simp [Sm.cdL]
  | s :: l, k => by
    simp only [Sm.cdL, Sm.szL, List.length_append]
    have h1 := Sm.cd_len s k
    have h2 := Sm.cdL_len l (k + (s.cd k).length)
    omega
end
def landL (l : List GI) (k : Nat) : List GI := l.set k ⟨(l.getD k default).op, l.length, (l.getD k default).a⟩
@[go_sem] theorem landL_len (l : List GI) (k : Nat) : (landL l k).length = l.length := by simp [landL]
def cobj (y : Nat) (n : Nat) : AObj := .cells 78 [.sl 81 y 0 n]
@[go_sem] theorem cobj_eq (y n : Nat) : cobj y n = .cells 78 [.sl 81 y 0 n] := rfl
def cfoot (c y : Nat) (l : List GI) : List (Nat × AObj) := [(c, cobj y l.length), (y, .cells 81 (insC l))]
@[go_sem] theorem cfoot_eq (c y : Nat) (l : List GI) : cfoot c y l = [(c, cobj y l.length), (y, .cells 81 (insC l))] := rfl
def COk (c y : Nat) (l' : List GI) (rs : List PV) (ns : List Nat) (o : COut) : Prop := ∃ z, ns = [z] ∧ o = { rs := rs, u := [(c, some (cobj z l'.length)), (y, none)], nw := [(z, .cells 81 (insC l'))] }
theorem cadd_ok (c y : Nat) (hcy : c ≠ y) (l : List GI) (i : GI) (hl : l.length ≤ 1099511627776) : CallF Tryz.prog 86 [.ptr c 0, .agg i.cs] (cfoot c y l) 1 (COk c y (l ++ [i]) [.int .i64 (l.length : Nat)]) := by
  refine callF_ofC' Tryz.func86 rfl Tryz.ntmps86 (by simp) ?_
  intro f0 B ns Q hB hns hQ
  have hc : c < B := hB c (by simp [hasKey, lk, cfoot])
  have hy : y < B := hB y (by simp [hasKey, lk, cfoot, hcy])
  obtain ⟨z, rfl⟩ : ∃ z, ns = [z] := by
    match ns, hns with
    | [x], _ => exact ⟨x, rfl⟩
  refine g_ [0,3] ?_
  refine n_ ?_
  refine dr_ mixed [0] 2 3 [B, c, y, B + 1, B + 2] [⟨[0],[],[],[],false⟩,⟨[0],[],[],[],false⟩,⟨[6],[],[],[],false⟩,⟨[7],[],[],[],false⟩,⟨[8],[1],[],[],false⟩,⟨[3],[0],[],[],false⟩,⟨[10],[],[],[3],false⟩,⟨[9,11],[2,3],[2],[4],false⟩,⟨[5],[],[],[],false⟩,⟨[13],[],[],[],false⟩,⟨[12,14],[1],[1],[],false⟩] [0,1,2,3,4,5,6,7,8,9,10] [[],[],[1],[1,2],[1,2,3],[],[5],[1,2,3,4,5,6],[0,1,2,3,4,5,6,7],[0,1,2,3,4,5,6,7,8],[0,1,2,3,4,5,6,7,8,9]] 5 (htbl := by simp; omega) (hnm := by simp) ?_
  intro O A K hO hA hK;simp only [atL_cons,atL_nil,Nat.reduceAdd,Nat.zero_add] at hO hA
  refine SO_ ?_
  refine hK _ (S_ ?_);clear hK K hO hA O A
  refine g_ [4] ?_
  refine wpM_ret ?_
  try refine S_ ?_
  refine hQ _ _ (retK [B + 2] [(c, some (cobj z (l.length + 1))), (y, none)] [(z, .cells 81 (insC (l ++ [i])))] rfl rfl rfl (by rw [Tryz.results86] <;> simp (maxSteps := 1000000) -implicitDefEqProofs (disch := omega) only [go_sem] <;> rfl) ?_ ⟨z, rfl, by rw [List.length_append]; rfl⟩ ?_ ?_ ?_ ?_ ?_ ?_)
  all_goals (first | (simp -implicitDefEqProofs (disch := omega) only [go_sem, List.nodup_cons, List.nodup_nil, true_or, or_true, List.mem_cons, List.not_mem_nil, if_true]; done) | (simp -implicitDefEqProofs (disch := omega) only [go_sem, List.nodup_cons, List.nodup_nil, true_or, or_true, List.mem_cons, List.not_mem_nil]; omega))
theorem land_ok (c y : Nat) (hcy : c ≠ y) (l : List GI) (k : Nat) (hk : k < l.length) (hl : l.length ≤ 1099511627776) : CallF Tryz.prog 87 [.ptr c 0, .int .i64 (k : Nat)] (cfoot c y l) 0 (fun _ o => o = { rs := [], u := [(y, some (.cells 81 (insC (landL l k))))] }) := by
  refine callF_of' Tryz.func87 rfl Tryz.ntmps87 (by simp) ?_
  intro f0 B ns Q hB hns hQ
  have hc : c < B := hB c (by simp [hasKey, lk, cfoot])
  have hy : y < B := hB y (by simp [hasKey, lk, cfoot, hcy])
  obtain rfl : ns = [] := List.eq_nil_of_length_eq_zero hns
  refine n_ ?_
  refine dr_ mixed [] 0 2 [c, y] [⟨[0],[],[],[],false⟩,⟨[4],[],[],[],false⟩,⟨[5],[],[],[],false⟩,⟨[6],[0],[],[],false⟩,⟨[1],[],[],[],false⟩,⟨[0],[],[],[],false⟩,⟨[9],[],[],[],false⟩,⟨[10],[],[],[],false⟩,⟨[11],[0],[],[],false⟩,⟨[12],[],[],[],false⟩,⟨[7,8],[],[],[],false⟩,⟨[14],[],[],[],false⟩,⟨[13,15],[1],[1],[],false⟩] [0,1,2,3,4,5,6,7,8,9,10,11,12] [[],[0],[0,1],[0,1,2],[],[],[5],[5,6],[5,6,7],[5,6,7,8],[0,1,2,3,4,5,6,7,8,9],[0,1,2,3,4,5,6,7,8,9,10],[0,1,2,3,4,5,6,7,8,9,10,11]] 2 (htbl := by simp; omega) (hnm := by simp) ?_
  intro O A K hO hA hK;simp only [atL_cons,atL_nil,Nat.reduceAdd,Nat.zero_add] at hO hA
  simp -implicitDefEqProofs (disch := omega) only [go_sem, insC_set l k l.length hk, hO, hA]
  refine hK _ (S_ ?_);clear hK K hO hA O A
  refine hQ _ _ (ret0n [(y, some (.cells 81 (insC (landL l k))))] rfl rfl rfl (by rw [Tryz.results87] <;> simp (maxSteps := 1000000) -implicitDefEqProofs (disch := omega) only [go_sem] <;> rfl) rfl ?_ ?_ ?_ ?_)
  all_goals simp -implicitDefEqProofs (disch := omega) only [go_sem, true_or, or_true]
  all_goals rfl
end Go.Proofs.YtmicbfojofcigaaGreatDoor
namespace Go.Proofs.YtmicbfojofcigaaGreatDoor
open Go Sg
set_option linter.unusedSectionVars false
variable [Glob]
set_option maxRecDepth 100000
set_option linter.unusedSimpArgs false
set_option linter.unusedVariables false
set_option linter.unusedSectionVars false
set_option maxHeartbeats 4000000
theorem Ex.cdL_pre (l : List Ex) (i : Nat) : (Ex.cdL (l.take i)).length ≤ Ex.szL l := by
  have h1 := Ex.cdL_app (l.take i) (l.drop i)
  rw [List.take_append_drop] at h1
  have h2 := Ex.cdL_len l
  rw [h1, List.length_append] at h2; omega
theorem cexpr_ok : ∀ (N : Nat) (e : Ex), e.sz ≤ N → e.sz ≤ 1000000000 → ∀ (c y : Nat) (l : List GI), c ≠ y → l.length + e.sz ≤ 1099511627776 → CallF Tryz.prog 85 [.ptr c 0, .agg e.cs] (cfoot c y l) 1 (COk c y (l ++ e.cd) []) := by
  intro N
  induction N with
  | zero => intro e h; have := e.sz_eq; omega
  | succ N ih =>
    intro e hN hs c y l hcy hl
    have hsz := e.sz_eq
    have hlen := Ex.len_szL e.kids
    have hcd : l ++ e.cd = l ++ Ex.cdL e.kids ++ [lastI e] := by rw [Ex.cd_eq, List.append_assoc]
    refine callF_ofC' Tryz.func85 rfl Tryz.ntmps85 (by simp) ?_
    intro f0 B ns Q hB hns hQ
    have hc : c < B := hB c (by simp [hasKey, lk, cfoot])
    have hy : y < B := hB y (by simp [hasKey, lk, cfoot, hcy])
    obtain ⟨z, rfl⟩ : ∃ z, ns = [z] := by
      match ns, hns with
      | [x], _ => exact ⟨x, rfl⟩
    refine n_ ?_
    refine wpM_ren y (.cells 81 (insC l)) T_ T_ (Nat.le_refl _) rfl ?_
    refine S_ ?_
    refine g_ [0,3] ?_
    refine g_ [0,3,7,8,9] ?_
    refine n_ ?_
    refine wpM_loopS (fun q n s' => ∃ (i M Y : Nat), i + n = e.kids.length ∧ B + 2 ≤ M ∧ B ≤ Y ∧ Y < M ∧ Y ≠ B + 1 ∧ s' = { q with env := setE 9 (.int .i64 (i : Nat)) q.env, l := [(B + 1, .cells 50 e.cs)] ++ cfoot c Y (l ++ Ex.cdL (e.kids.take i)), M := M }) (e.kids.length) ?_ ?_
    ·
      refine .of' _ _ ⟨0, _, B, by omega, Nat.le_refl _, Nat.le_refl _, by omega, by omega, rfl⟩ ?_ ?_ ?_
      all_goals simp only [List.take_zero, Ex.cdL, List.append_nil]
      all_goals exact L_
    rintro n s' ⟨i, M, Y, hi, hM, hBY, hYM, hY1, rfl⟩
    have hcY : c ≠ Y := by omega
    try refine S_ ?_
    refine g_ [0,3,7,8,9,10] ?_
    refine c_ (fun hc0 => ?_) fun hc0 => ?_
    ·
      have hi2 : i < e.kids.length := by omega
      have hget := Ex.get_szL e.kids i hi2
      have htk := Ex.cdL_take e.kids i hi2
      have hln := Ex.cdL_pre e.kids (i + 1)
      rw [htk, List.length_append, Ex.cd_len] at hln
      have htk' : l ++ Ex.cdL (e.kids.take (i + 1)) = l ++ Ex.cdL (e.kids.take i) ++ (e.kids.getD i default).cd := by rw [htk, List.append_assoc]
      have hll : (l ++ Ex.cdL (e.kids.take i)).length + (e.kids.getD i default).sz ≤ 1099511627776 := by rw [List.length_append]; omega
      refine g_ [0,3,5,7,8,9] ?_
      refine wpM_regionK [0,3,7,8,9] rfl fun Q1 hQ1 => ?_
      refine S_ ?_
      refine call_fn (l := cfoot c Y (l ++ Ex.cdL (e.kids.take i))) (first := []) (cap := []) (ps := [.ptr c 0, .agg (e.kids.getD i default).cs]) (ih (e.kids.getD i default) (by omega) (by omega) c Y (l ++ Ex.cdL (e.kids.take i)) hcY hll) Tryz.call85 rfl rfl rfl G_ T_ ?_
      rintro out ⟨z', ⟨⟩, rfl⟩
      refine S_ ?_
      refine hQ1 _ _ (S_ ?_);clear hQ1 Q1
      refine g_ [0,3,7,8,9] ?_
      refine .of' _ _ ⟨n - 1, by omega, i + 1, _, M + 1, by omega, M_, M_, M_, M_, rfl⟩ ?_ ?_ ?_
      all_goals (try rw [htk'])
      all_goals exact L_
    refine n_ ?_
    have hie : i = e.kids.length := by omega
    rw [hie, List.take_of_length_le (Nat.le_refl _)]
    have hLl := Ex.cdL_len e.kids
    have hL2 : (l ++ Ex.cdL e.kids).length ≤ 1099511627776 := by rw [List.length_append]; omega
    generalize hL : l ++ Ex.cdL e.kids = L at *
    have key : ∀ i, lastI e = i → l ++ e.cd = L ++ [i] := by rintro i rfl; rw [hcd]
    refine g_ [0,3,18] ?_
    refine g_ [0,3,18,24] ?_
    refine c_ (fun hc1 => ?_) fun hc1 => ?_
    ·
      refine wpM_regionK [] rfl fun Q1 hQ1 => ?_
      refine S_ ?_
      refine call_fn (l := cfoot c Y L) (first := []) (cap := []) (ps := [.ptr c 0, .agg (GI.cs ⟨1, e.n, A0⟩)]) (cadd_ok c Y hcY L ⟨1, e.n, A0⟩ hL2) Tryz.call86 rfl rfl rfl G_ T_ ?_
      rintro out ⟨z', ⟨⟩, rfl⟩
      refine S_ ?_
      refine hQ1 _ _ (S_ ?_);clear hQ1 Q1
      refine hQ _ _ (retKn [M] [(c, some (cobj z (L ++ [(⟨1, e.n, A0⟩ : GI)]).length)), (y, none)] [(z, .cells 81 (insC (L ++ [(⟨1, e.n, A0⟩ : GI)])))] rfl rfl rfl (by rw [Tryz.results85] <;> simp (maxSteps := 1000000) -implicitDefEqProofs (disch := omega) only [go_sem] <;> rfl) ?_ ⟨z, rfl, by rw [key ⟨1, e.n, A0⟩ (by rw [lastI, if_pos hc1])]⟩ ?_ ?_ ?_ ?_ ?_ ?_)
      all_goals (first | (simp -implicitDefEqProofs (disch := omega) only [go_sem, List.nodup_cons, List.nodup_nil, true_or, or_true, List.mem_cons, List.not_mem_nil, if_true]; done) | (simp -implicitDefEqProofs (disch := omega) only [go_sem, List.nodup_cons, List.nodup_nil, true_or, or_true, List.mem_cons, List.not_mem_nil]; omega))
    refine g_ [0,3,18,31] ?_
    refine c_ (fun hc2 => ?_) fun hc2 => ?_
    ·
      refine wpM_regionK [] rfl fun Q1 hQ1 => ?_
      refine S_ ?_
      refine call_fn (l := cfoot c Y L) (first := []) (cap := []) (ps := [.ptr c 0, .agg (GI.cs ⟨2, 0, e.a⟩)]) (cadd_ok c Y hcY L ⟨2, 0, e.a⟩ hL2) Tryz.call86 rfl rfl rfl G_ T_ ?_
      rintro out ⟨z', ⟨⟩, rfl⟩
      refine S_ ?_
      refine hQ1 _ _ (S_ ?_);clear hQ1 Q1
      refine hQ _ _ (retKn [M] [(c, some (cobj z (L ++ [(⟨2, 0, e.a⟩ : GI)]).length)), (y, none)] [(z, .cells 81 (insC (L ++ [(⟨2, 0, e.a⟩ : GI)])))] rfl rfl rfl (by rw [Tryz.results85] <;> simp (maxSteps := 1000000) -implicitDefEqProofs (disch := omega) only [go_sem] <;> rfl) ?_ ⟨z, rfl, by rw [key ⟨2, 0, e.a⟩ (by rw [lastI, if_neg (by rw [hc1]; simp), if_pos hc2])]⟩ ?_ ?_ ?_ ?_ ?_ ?_)
      all_goals (first | (simp -implicitDefEqProofs (disch := omega) only [go_sem, List.nodup_cons, List.nodup_nil, true_or, or_true, List.mem_cons, List.not_mem_nil, if_true]; done) | (simp -implicitDefEqProofs (disch := omega) only [go_sem, List.nodup_cons, List.nodup_nil, true_or, or_true, List.mem_cons, List.not_mem_nil]; omega))
    refine g_ [0,3,38] ?_
    refine c_ (fun hc3 => ?_) fun hc3 => ?_
    ·
      refine wpM_regionK [] rfl fun Q1 hQ1 => ?_
      refine S_ ?_
      refine call_fn (l := cfoot c Y L) (first := []) (cap := []) (ps := [.ptr c 0, .agg (GI.cs ⟨5, 0, A0⟩)]) (cadd_ok c Y hcY L ⟨5, 0, A0⟩ hL2) Tryz.call86 rfl rfl rfl G_ T_ ?_
      rintro out ⟨z', ⟨⟩, rfl⟩
      refine S_ ?_
      refine hQ1 _ _ (S_ ?_);clear hQ1 Q1
      refine hQ _ _ (retKn [M] [(c, some (cobj z (L ++ [(⟨5, 0, A0⟩ : GI)]).length)), (y, none)] [(z, .cells 81 (insC (L ++ [(⟨5, 0, A0⟩ : GI)])))] rfl rfl rfl (by rw [Tryz.results85] <;> simp (maxSteps := 1000000) -implicitDefEqProofs (disch := omega) only [go_sem] <;> rfl) ?_ ⟨z, rfl, by rw [key ⟨5, 0, A0⟩ (by rw [lastI, if_neg (by rw [hc1]; simp), if_neg (by rw [hc2]; simp), if_pos hc3])]⟩ ?_ ?_ ?_ ?_ ?_ ?_)
      all_goals (first | (simp -implicitDefEqProofs (disch := omega) only [go_sem, List.nodup_cons, List.nodup_nil, true_or, or_true, List.mem_cons, List.not_mem_nil, if_true]; done) | (simp -implicitDefEqProofs (disch := omega) only [go_sem, List.nodup_cons, List.nodup_nil, true_or, or_true, List.mem_cons, List.not_mem_nil]; omega))
    refine wpM_regionK [] rfl fun Q1 hQ1 => ?_
    refine S_ ?_
    refine call_fn (l := cfoot c Y L) (first := []) (cap := []) (ps := [.ptr c 0, .agg (GI.cs ⟨4, e.kind, A0⟩)]) (cadd_ok c Y hcY L ⟨4, e.kind, A0⟩ hL2) Tryz.call86 rfl rfl rfl G_ T_ ?_
    rintro out ⟨z', ⟨⟩, rfl⟩
    refine S_ ?_
    refine hQ1 _ _ (S_ ?_);clear hQ1 Q1
    refine hQ _ _ (retKn [M] [(c, some (cobj z (L ++ [(⟨4, e.kind, A0⟩ : GI)]).length)), (y, none)] [(z, .cells 81 (insC (L ++ [(⟨4, e.kind, A0⟩ : GI)])))] rfl rfl rfl (by rw [Tryz.results85] <;> simp (maxSteps := 1000000) -implicitDefEqProofs (disch := omega) only [go_sem] <;> rfl) ?_ ⟨z, rfl, by rw [key ⟨4, e.kind, A0⟩ (by rw [lastI, if_neg (by rw [hc1]; simp), if_neg (by rw [hc2]; simp), if_neg (by rw [hc3]; simp)])]⟩ ?_ ?_ ?_ ?_ ?_ ?_)
    all_goals (first | (simp -implicitDefEqProofs (disch := omega) only [go_sem, List.nodup_cons, List.nodup_nil, true_or, or_true, List.mem_cons, List.not_mem_nil, if_true]; done) | (simp -implicitDefEqProofs (disch := omega) only [go_sem, List.nodup_cons, List.nodup_nil, true_or, or_true, List.mem_cons, List.not_mem_nil]; omega))
end Go.Proofs.YtmicbfojofcigaaGreatDoor
namespace Go.Proofs.YtmicbfojofcigaaGreatDoor
open Go Sg
set_option linter.unusedSectionVars false
variable [Glob]
set_option maxRecDepth 100000
set_option linter.unusedSimpArgs false
set_option linter.unusedVariables false
set_option linter.unusedSectionVars false
set_option maxHeartbeats 4000000
theorem landL_mid (X Y : List GI) (i : GI) : landL (X ++ i :: Y) X.length = X ++ ⟨i.op, ((X.length + 1 + Y.length : Nat) : Int), i.a⟩ :: Y := by
  unfold landL
  rw [List.set_append_right _ _ (Nat.le_refl _), Nat.sub_self, List.set_cons_zero]
  have : (X ++ i :: Y).getD X.length default = i := by simp [List.getD]
  rw [this]
  have h2 : (X ++ i :: Y).length = X.length + 1 + Y.length := by simp; omega
  rw [h2]
theorem Sm.szL_take (l : List Sm) (i : Nat) (h : i < l.length) : Sm.szL (l.take i) + (l.getD i default).sz ≤ Sm.szL l := by
  induction l generalizing i with
  | nil => simp at h
  | cons s l ih =>
    cases i with
    | zero => simp [Sm.szL]
    | succ i =>
      have := ih i (by simpa using h)
      simp only [List.take_succ_cons, Sm.szL, List.getD_cons_succ]; omega
theorem cstmts_ok : ∀ (N : Nat) (list : List Sm), Sm.szL list ≤ N → Sm.szL list ≤ 1000000000 → ∀ (c y : Nat) (l : List GI), c ≠ y → l.length + 2 * Sm.szL list ≤ 1099511627776 →
    CallF Tryz.prog 47 [.ptr c 0, .rows 52 (Sm.csL list)] (cfoot c y l) 1 (COk c y (l ++ Sm.cdL list l.length) []) := by
  intro N
  induction N with
  | zero =>
    intro list hN hs c y l hcy hl
    have h0 : list.length = 0 := by have := Sm.len_szL list; omega
    obtain rfl : list = [] := List.eq_nil_of_length_eq_zero h0
    refine callF_ofC' Tryz.func47 rfl Tryz.ntmps47 (by simp) ?_
    intro f0 B ns Q hB hns hQ
    have hc : c < B := hB c (by simp [hasKey, lk, cfoot])
    have hy : y < B := hB y (by simp [hasKey, lk, cfoot, hcy])
    obtain ⟨z, rfl⟩ : ∃ z, ns = [z] := by
      match ns, hns with
      | [x], _ => exact ⟨x, rfl⟩
    refine n_ ?_
    refine wpM_ren y (.cells 81 (insC l)) T_ T_ (Nat.le_refl _) rfl ?_
    refine S_ ?_
    refine g_ [0,10,11,12] ?_
    refine n_ ?_
    refine wpM_loopS (fun s n s' => s' = s) (0) ?_ ?_
    ·
      exact .here rfl
    rintro n s' rfl
    try refine S_ ?_
    refine g_ [0,10,11,12,13] ?_
    refine c_ (fun hc0 => ?_) fun hc0 => ?_
    · simp at hc0
    refine n_ ?_
    have hnil : l ++ Sm.cdL [] l.length = l := by simp [Sm.cdL]
    refine hQ _ _ (retKn [B] [(c, some (cobj z l.length)), (y, none)] [(z, .cells 81 (insC l))] rfl rfl rfl (by rw [Tryz.results47] <;> simp (maxSteps := 1000000) -implicitDefEqProofs (disch := omega) only [go_sem] <;> rfl) ?_ ⟨z, rfl, by rw [hnil]⟩ ?_ ?_ ?_ ?_ ?_ ?_)
    all_goals (first | (simp -implicitDefEqProofs (disch := omega) only [go_sem, List.nodup_cons, List.nodup_nil, true_or, or_true, List.mem_cons, List.not_mem_nil, if_true]; done) | (simp -implicitDefEqProofs (disch := omega) only [go_sem, List.nodup_cons, List.nodup_nil, true_or, or_true, List.mem_cons, List.not_mem_nil]; omega))
  | succ N ih =>
    intro list hN hs c y l hcy hl
    have hlen := Sm.len_szL list
    refine callF_ofC' Tryz.func47 rfl Tryz.ntmps47 (by simp) ?_
    intro f0 B ns Q hB hns hQ
    have hc : c < B := hB c (by simp [hasKey, lk, cfoot])
    have hy : y < B := hB y (by simp [hasKey, lk, cfoot, hcy])
    obtain ⟨z, rfl⟩ : ∃ z, ns = [z] := by
      match ns, hns with
      | [x], _ => exact ⟨x, rfl⟩
    refine n_ ?_
    refine wpM_ren y (.cells 81 (insC l)) T_ T_ (Nat.le_refl _) rfl ?_
    refine S_ ?_
    refine g_ [0,10,11,12] ?_
    refine n_ ?_
    refine wpM_loopS (fun q n s' => ∃ (i M Y : Nat) (L : List GI), i + n = list.length ∧ B + 1 ≤ M ∧ B ≤ Y ∧ Y < M ∧ L = l ++ Sm.cdL (list.take i) l.length ∧ s' = { q with env := setE 12 (.int .i64 (i : Nat)) q.env, l := cfoot c Y L, M := M }) (list.length) ?_ ?_
    ·
      refine .of' _ _ ⟨0, _, B, l, by omega, Nat.le_refl _, Nat.le_refl _, by omega, by simp [Sm.cdL], rfl⟩ ?_ ?_ ?_
      all_goals exact L_
    rintro n s' ⟨i, M, Y, L, hi, hM, hBY, hYM, hL, rfl⟩
    have hcY : c ≠ Y := by omega
    try refine S_ ?_
    refine g_ [0,10,11,12,13] ?_
    refine c_ (fun hc0 => ?_) fun hc0 => ?_
    ·
      have hi2 : i < list.length := by omega
      have hin := Sm.get_in hi2
      have htk := Sm.cdL_take list l.length i hi2
      have hst := Sm.szL_take list i hi2
      have hcl := Sm.cdL_len (list.take i) l.length
      have hLl : L.length = l.length + (Sm.cdL (list.take i) l.length).length := by rw [hL, List.length_append]
      have hsz := (list.getD i default).sz_eq
      have hE := Ex.cd_len (list.getD i default).e
      have hce := Sm.cd_eq (list.getD i default) L.length
      rw [← hLl] at htk
      have htk' : l ++ Sm.cdL (list.take (i + 1)) l.length = L ++ (list.getD i default).cd L.length := by rw [htk, hL, List.append_assoc]
      have hA1 := Sm.cdL_len (list.getD i default).th (L.length + (list.getD i default).e.cd.length + 1)
      have hLb : L.length + 2 * (list.getD i default).sz ≤ 1099511627776 := by omega
      clear hL htk hcl hLl
      refine g_ [0,5,10,11,12] ?_
      generalize hs' : list.getD i default = s at *
      refine g_ [0,5,6,10,11,12] ?_
      refine n_ ?_
      refine wpM_regionK [0,5,6,10,11,12] rfl fun Q1 hQ1 => ?_
      refine S_ ?_
      refine call_fn (l := cfoot c Y L) (first := []) (cap := []) (ps := [.ptr c 0, .agg s.e.cs]) (cexpr_ok _ s.e (Nat.le_refl _) (by omega) c Y L hcY (by omega)) Tryz.call85 rfl rfl rfl G_ T_ ?_
      rintro out ⟨z', ⟨⟩, rfl⟩
      refine S_ ?_
      refine hQ1 _ _ (S_ ?_);clear hQ1 Q1
      refine n_ ?_
      have hL1 : (L ++ s.e.cd).length = L.length + s.e.cd.length := List.length_append
      generalize hq1 : L ++ s.e.cd = L1 at *
      refine g_ [0,5,6,10,11,12,26] ?_
      refine g_ [0,5,6,10,11,12,26,27] ?_
      refine c_ (fun hc1 => ?_) fun hc1 => ?_
      ·
        refine wpM_regionK [0,10,11,12] rfl fun Q1 hQ1 => ?_
        refine S_ ?_
        refine call_fn (l := cfoot c (M + 1) L1) (first := []) (cap := []) (ps := [.ptr c 0, .agg (GI.cs ⟨3, 0, s.to'⟩)]) (cadd_ok c (M + 1) (by omega) L1 ⟨3, 0, s.to'⟩ (by omega)) Tryz.call86 rfl rfl rfl G_ T_ ?_
        rintro out ⟨z', ⟨⟩, rfl⟩
        refine S_ ?_
        refine hQ1 _ _ (S_ ?_);clear hQ1 Q1
        refine g_ [0,10,11,12] ?_
        have hnew : L ++ s.cd L.length = L1 ++ [(⟨3, 0, s.to'⟩ : GI)] := by rw [hce, if_pos hc1, ← hq1, List.append_assoc]
        refine .of' _ _ ⟨n - 1, by omega, i + 1, _, M + 2, L1 ++ [(⟨3, 0, s.to'⟩ : GI)], by omega, M_, M_, M_, by rw [← hnew, htk'], rfl⟩ L_ L_ L_
      refine g_ [0,5,6,10,11,12,26,34] ?_
      refine c_ (fun hc2 => ?_) fun hc2 => ?_
      ·
        refine n_ ?_
        refine wpM_regionK [0,5,7,10,11,12] rfl fun Q1 hQ1 => ?_
        refine S_ ?_
        refine call_fn (l := cfoot c (M + 1) L1) (first := []) (cap := []) (ps := [.ptr c 0, .agg (GI.cs ⟨6, 0, A0⟩)]) (cadd_ok c (M + 1) (by omega) L1 ⟨6, 0, A0⟩ (by omega)) Tryz.call86 rfl rfl rfl G_ T_ ?_
        rintro out ⟨z', ⟨⟩, rfl⟩
        refine S_ ?_
        refine hQ1 _ _ (S_ ?_);clear hQ1 Q1
        refine n_ ?_
        have hL2 : (L1 ++ [(⟨6, 0, A0⟩ : GI)]).length = L.length + s.e.cd.length + 1 := by rw [List.length_append, hL1]; rfl
        have hq2 : ∃ L2, L2 = L1 ++ [(⟨6, 0, A0⟩ : GI)] := ⟨_, rfl⟩
        obtain ⟨L2, hq2⟩ := hq2
        rw [← hq2] at hL2 ⊢
        refine wpM_regionK [0,5,7,10,11,12] rfl fun Q1 hQ1 => ?_
        refine S_ ?_
        refine call_fn (l := cfoot c (M + 2) L2) (first := []) (cap := []) (ps := [.ptr c 0, .rows 52 (Sm.csL s.th)]) (ih s.th (by omega) (by omega) c (M + 2) L2 (by omega) (by omega)) Tryz.call47 rfl rfl rfl G_ T_ ?_
        rintro out ⟨z', ⟨⟩, rfl⟩
        refine S_ ?_
        refine hQ1 _ _ (S_ ?_);clear hQ1 Q1
        refine n_ ?_
        rw [hL2]
        generalize hA : Sm.cdL s.th (L.length + s.e.cd.length + 1) = A at *
        refine wpM_regionK [0,5,7,8,10,11,12] rfl fun Q1 hQ1 => ?_
        refine S_ ?_
        refine call_fn (l := cfoot c (M + 3) (L2 ++ A)) (first := []) (cap := []) (ps := [.ptr c 0, .agg (GI.cs ⟨7, 0, A0⟩)]) (cadd_ok c (M + 3) (by omega) (L2 ++ A) ⟨7, 0, A0⟩ (by rw [List.length_append]; omega)) Tryz.call86 rfl rfl rfl G_ T_ ?_
        rintro out ⟨z', ⟨⟩, rfl⟩
        refine S_ ?_
        refine hQ1 _ _ (S_ ?_);clear hQ1 Q1
        refine n_ ?_
        have hK : L2 ++ A ++ [(⟨7, 0, A0⟩ : GI)] = L1 ++ (⟨6, 0, A0⟩ : GI) :: (A ++ [⟨7, 0, A0⟩]) := by rw [hq2]; simp
        have hland := landL_mid L1 (A ++ [(⟨7, 0, A0⟩ : GI)]) ⟨6, 0, A0⟩
        rw [← hK] at hland
        have hK3 : (L2 ++ A ++ [(⟨7, 0, A0⟩ : GI)]).length = L1.length + 1 + A.length + 1 := by rw [hK]; simp; omega
        generalize hL3 : L2 ++ A ++ [(⟨7, 0, A0⟩ : GI)] = L3 at *
        refine wpM_regionK [0,5,8,10,11,12] rfl fun Q1 hQ1 => ?_
        refine S_ ?_
        refine call_fn (l := cfoot c (M + 4) L3) (first := []) (cap := []) (ps := [.ptr c 0, .int .i64 (L1.length : Nat)]) (land_ok c (M + 4) (by omega) L3 L1.length (by omega) (by omega)) Tryz.call87 rfl rfl rfl G_ T_ ?_
        rintro out rfl
        refine S_ ?_
        refine hQ1 _ _ (S_ ?_);clear hQ1 Q1
        refine n_ ?_
        rw [hland]
        have hL4 : (L1 ++ (⟨6, ((L1.length + 1 + (A ++ [(⟨7, 0, A0⟩ : GI)]).length : Nat) : Int), A0⟩ : GI) :: (A ++ [⟨7, 0, A0⟩])).length = L.length + s.e.cd.length + 1 + A.length + 1 := by simp; omega
        have hA2 := Sm.cdL_len s.el (L.length + s.e.cd.length + 1 + A.length + 1)
        have hq4 : ∃ L4, L4 = L1 ++ (⟨6, ((L1.length + 1 + (A ++ [(⟨7, 0, A0⟩ : GI)]).length : Nat) : Int), A0⟩ : GI) :: (A ++ [⟨7, 0, A0⟩]) := ⟨_, rfl⟩
        obtain ⟨L4, hq4⟩ := hq4
        rw [← hq4] at hL4 ⊢
        have hL3l : L3.length = L4.length := by omega
        have h7 : (L2 ++ A).length = L.length + s.e.cd.length + 1 + A.length := by rw [List.length_append]; omega
        rw [hL3l]
        refine wpM_regionK [0,8,10,11,12] rfl fun Q1 hQ1 => ?_
        refine S_ ?_
        refine call_fn (l := cfoot c (M + 4) L4) (first := []) (cap := []) (ps := [.ptr c 0, .rows 52 (Sm.csL s.el)]) (ih s.el (by omega) (by omega) c (M + 4) L4 (by omega) (by omega)) Tryz.call47 rfl rfl rfl G_ T_ ?_
        rintro out ⟨z', ⟨⟩, rfl⟩
        refine S_ ?_
        refine hQ1 _ _ (S_ ?_);clear hQ1 Q1
        rw [hL4, h7]
        generalize hBc : Sm.cdL s.el (L.length + s.e.cd.length + 1 + A.length + 1) = Bc at *
        have hX : (L1 ++ (⟨6, ((L1.length + 1 + (A ++ [(⟨7, 0, A0⟩ : GI)]).length : Nat) : Int), A0⟩ : GI) :: A).length = L.length + s.e.cd.length + 1 + A.length := by simp; omega
        have hland2 := landL_mid (L1 ++ (⟨6, ((L1.length + 1 + (A ++ [(⟨7, 0, A0⟩ : GI)]).length : Nat) : Int), A0⟩ : GI) :: A) Bc ⟨7, 0, A0⟩
        have hL5 : L4 ++ Bc = (L1 ++ (⟨6, ((L1.length + 1 + (A ++ [(⟨7, 0, A0⟩ : GI)]).length : Nat) : Int), A0⟩ : GI) :: A) ++ (⟨7, 0, A0⟩ : GI) :: Bc := by rw [hq4]; simp
        have hL5l : (L4 ++ Bc).length = L4.length + Bc.length := List.length_append
        rw [← hL5, hX] at hland2
        generalize hq5 : L4 ++ Bc = L5 at *
        refine wpM_regionK [0,10,11,12] rfl fun Q1 hQ1 => ?_
        refine S_ ?_
        refine call_fn (l := cfoot c (M + 5) L5) (first := []) (cap := []) (ps := [.ptr c 0, .int .i64 ((L.length + s.e.cd.length + 1 + A.length : Nat) : Int)]) (land_ok c (M + 5) (by omega) L5 (L.length + s.e.cd.length + 1 + A.length) (by omega) (by omega)) Tryz.call87 rfl rfl rfl G_ T_ ?_
        rintro out rfl
        refine S_ ?_
        refine hQ1 _ _ (S_ ?_);clear hQ1 Q1
        refine g_ [0,10,11,12] ?_
        have hnew : L ++ s.cd L.length = landL L5 (L.length + s.e.cd.length + 1 + A.length) := by
          rw [hce, if_neg (by rw [hc1]; simp), if_pos hc2, hland2, ← hq1]
          simp [hL1]
          omega
        refine .of' _ _ ⟨n - 1, by omega, i + 1, _, M + 5, landL L5 (L.length + s.e.cd.length + 1 + A.length), by omega, M_, M_, M_, by rw [← hnew, htk'], rfl⟩ L_ L_ L_
      refine g_ [0,5,6,10,11,12,56] ?_
      refine c_ (fun hc3 => ?_) fun hc3 => ?_
      ·
        refine n_ ?_
        refine wpM_regionK [0,5,6,9,10,11,12] rfl fun Q1 hQ1 => ?_
        refine S_ ?_
        refine call_fn (l := cfoot c (M + 1) L1) (first := []) (cap := []) (ps := [.ptr c 0, .agg (GI.cs ⟨6, 0, A0⟩)]) (cadd_ok c (M + 1) (by omega) L1 ⟨6, 0, A0⟩ (by omega)) Tryz.call86 rfl rfl rfl G_ T_ ?_
        rintro out ⟨z', ⟨⟩, rfl⟩
        refine S_ ?_
        refine hQ1 _ _ (S_ ?_);clear hQ1 Q1
        refine n_ ?_
        have hL2 : (L1 ++ [(⟨6, 0, A0⟩ : GI)]).length = L.length + s.e.cd.length + 1 := by rw [List.length_append, hL1]; rfl
        have hq2 : ∃ L2, L2 = L1 ++ [(⟨6, 0, A0⟩ : GI)] := ⟨_, rfl⟩
        obtain ⟨L2, hq2⟩ := hq2
        rw [← hq2] at hL2 ⊢
        refine wpM_regionK [0,6,9,10,11,12] rfl fun Q1 hQ1 => ?_
        refine S_ ?_
        refine call_fn (l := cfoot c (M + 2) L2) (first := []) (cap := []) (ps := [.ptr c 0, .rows 52 (Sm.csL s.th)]) (ih s.th (by omega) (by omega) c (M + 2) L2 (by omega) (by omega)) Tryz.call47 rfl rfl rfl G_ T_ ?_
        rintro out ⟨z', ⟨⟩, rfl⟩
        refine S_ ?_
        refine hQ1 _ _ (S_ ?_);clear hQ1 Q1
        refine n_ ?_
        rw [hL2]
        generalize hA : Sm.cdL s.th (L.length + s.e.cd.length + 1) = A at *
        refine wpM_regionK [0,9,10,11,12] rfl fun Q1 hQ1 => ?_
        refine S_ ?_
        refine call_fn (l := cfoot c (M + 3) (L2 ++ A)) (first := []) (cap := []) (ps := [.ptr c 0, .agg (GI.cs ⟨8, (L.length : Nat), A0⟩)]) (cadd_ok c (M + 3) (by omega) (L2 ++ A) ⟨8, (L.length : Nat), A0⟩ (by rw [List.length_append]; omega)) Tryz.call86 rfl rfl rfl G_ T_ ?_
        rintro out ⟨z', ⟨⟩, rfl⟩
        refine S_ ?_
        refine hQ1 _ _ (S_ ?_);clear hQ1 Q1
        have hK : L2 ++ A ++ [(⟨8, (L.length : Nat), A0⟩ : GI)] = L1 ++ (⟨6, 0, A0⟩ : GI) :: (A ++ [⟨8, (L.length : Nat), A0⟩]) := by rw [hq2]; simp
        have hland := landL_mid L1 (A ++ [(⟨8, (L.length : Nat), A0⟩ : GI)]) ⟨6, 0, A0⟩
        rw [← hK] at hland
        have hK3 : (L2 ++ A ++ [(⟨8, (L.length : Nat), A0⟩ : GI)]).length = L1.length + 1 + A.length + 1 := by rw [hK]; simp; omega
        generalize hL3 : L2 ++ A ++ [(⟨8, (L.length : Nat), A0⟩ : GI)] = L3 at *
        refine wpM_regionK [0,10,11,12] rfl fun Q1 hQ1 => ?_
        refine S_ ?_
        refine call_fn (l := cfoot c (M + 4) L3) (first := []) (cap := []) (ps := [.ptr c 0, .int .i64 (L1.length : Nat)]) (land_ok c (M + 4) (by omega) L3 L1.length (by omega) (by omega)) Tryz.call87 rfl rfl rfl G_ T_ ?_
        rintro out rfl
        refine S_ ?_
        refine hQ1 _ _ (S_ ?_);clear hQ1 Q1
        refine g_ [0,10,11,12] ?_
        have hnew : L ++ s.cd L.length = landL L3 L1.length := by
          rw [hce, if_neg (by rw [hc1]; simp), if_neg (by rw [hc2]; simp), if_pos hc3, hland, ← hq1]
          simp [hL1]
          omega
        refine .of' _ _ ⟨n - 1, by omega, i + 1, _, M + 4, landL L3 L1.length, by omega, M_, M_, M_, by rw [← hnew, htk'], rfl⟩ L_ L_ L_
      refine g_ [0,10,11,12] ?_
      have hnew : L ++ s.cd L.length = L1 := by
        rw [hce, if_neg (by rw [hc1]; simp), if_neg (by rw [hc2]; simp), if_neg (by rw [hc3]; simp), hq1]
      refine .of' _ _ ⟨n - 1, by omega, i + 1, _, M + 1, L1, by omega, M_, M_, M_, by rw [← hnew, htk'], rfl⟩ L_ L_ L_
    refine n_ ?_
    obtain rfl : i = list.length := by omega
    rw [List.take_of_length_le (Nat.le_refl _)] at hL
    refine hQ _ _ (retKn [Y] [(c, some (cobj z L.length)), (y, none)] [(z, .cells 81 (insC L))] rfl rfl rfl (by rw [Tryz.results47] <;> simp (maxSteps := 1000000) -implicitDefEqProofs (disch := omega) only [go_sem] <;> rfl) ?_ ⟨z, rfl, by rw [hL]⟩ ?_ ?_ ?_ ?_ ?_ ?_)
    all_goals (first | (simp -implicitDefEqProofs (disch := omega) only [go_sem, List.nodup_cons, List.nodup_nil, true_or, or_true, List.mem_cons, List.not_mem_nil, if_true]; done) | (simp -implicitDefEqProofs (disch := omega) only [go_sem, List.nodup_cons, List.nodup_nil, true_or, or_true, List.mem_cons, List.not_mem_nil]; omega))
end Go.Proofs.YtmicbfojofcigaaGreatDoor
namespace Go.Proofs.YtmicbfojofcigaaGreatDoor
open Go Sg
set_option maxRecDepth 100000
set_option linter.unusedSimpArgs false
set_option linter.unusedVariables false
set_option linter.unusedSectionVars false
set_option maxHeartbeats 4000000
variable [ErrL]
def codeOf (l : List Sm) : List GI := if okS l then Sm.cdL l 0 else []
theorem icodeOf_ok (l : List Sm) (hs : Sm.szL l ≤ 1000000000) : PureF Tryz.prog 19 [.rows 52 (Sm.csL l)] [.rows 81 (insR (codeOf l))] := by
  refine pureF_of Tryz.func19 rfl Tryz.ntmps19 (by simp) T_ ?_
  intro f0 B Q hQ
  refine g_ [0] ?_
  refine n_ ?_
  refine wpM_regionK [0,6] rfl fun Q1 hQ1 => ?_
  refine S_ ?_
  refine cp_ (istmtsOk_ok l (by omega)) Tryz.call24 ?_
  refine hQ1 _ _ (S_ ?_);clear hQ1 Q1
  refine c_ (fun hc0 => ?_) fun hc0 => ?_
  ·
    refine g_ [2] ?_
    have hcs : codeOf l = [] := by rw [codeOf, if_neg]; intro h; rw [h] at hc0; cases hc0
    refine wpM_le [(2, .rows 81 [])] [] T_ T_ T_ ?_
    refine e_ Tryz.results19 ?_
    first
    | exact True.intro
    | rw [hcs]
      try rfl
  refine g_ [0,3] ?_
  have hok : okS l = true := by simpa using hc0
  have hcs : codeOf l = Sm.cdL l 0 := by rw [codeOf, if_pos hok]
  refine wpM_nil 81 [(0, .rows 52 (Sm.csL l)), (3, .ptr B 0)] [(B, .cells 78 [.sl 81 (B + 1) 0 0])] T_ T_ T_ ?_
  refine S_ ?_
  refine n_ ?_
  refine wpM_regionK [3] rfl fun Q1 hQ1 => ?_
  refine S_ ?_
  refine call_fn (l := cfoot B (B + 1) []) (first := []) (cap := []) (ps := [.ptr B 0, .rows 52 (Sm.csL l)]) (cstmts_ok _ l (Nat.le_refl _) hs B (B + 1) [] (by omega) (by simp; omega)) Tryz.call47 rfl rfl rfl G_ (by simp -implicitDefEqProofs (disch := omega) only [go_sem, List.length_nil]) ?_
  rintro out ⟨z', ⟨⟩, rfl⟩
  refine S_ ?_
  refine hQ1 _ _ (S_ ?_);clear hQ1 Q1
  refine g_ [2] ?_
  refine wpM_frz [B + 2] [(81, B + 2, 0, (Sm.cdL l 0).length, insR (Sm.cdL l 0))] (by intro q hq; simp at hq; subst hq; simp -implicitDefEqProofs (disch := omega) only [go_sem]) (by intro q hq; simp only [List.mem_cons, List.not_mem_nil, or_false] at hq; subst hq; exact ⟨by simp, rowsOf_insC (T := 81) T_ rfl⟩) ?_
  refine S_ ?_
  refine e_ Tryz.results19 ?_
  first
  | exact True.intro
  | rw [hcs]
    try rfl
theorem l5Expr_ok (d : Nat) : ∀ (e : Ex), formD d e = true → e.sz ≤ 1000000000 → CallF Tryz.prog 118 [.agg e.cs] [] 1 (fun ns o => ∃ z, ns = [z] ∧ o = { rs := [.sl 81 z 0 e.cd.length], nw := [(z, .cells 81 (insC e.cd))] }) := by
  induction d with
  | zero => intro e h; cases h
  | succ d ih =>
    intro e he hs
    obtain ⟨hk, ha, hkids⟩ := form_inv he
    have hsz := e.sz_eq
    have hcd := e.cd_eq
    refine callF_of' Tryz.func118 rfl Tryz.ntmps118 (by simp) ?_
    intro f0 B ns Q hB hns hQ
    obtain ⟨z, rfl⟩ : ∃ z, ns = [z] := by
      match ns, hns with
      | [x], _ => exact ⟨x, rfl⟩
    refine g_ [1] ?_
    refine g_ [1,4] ?_
    refine g_ [1,4,5] ?_
    refine c_ (fun hc0 => ?_) fun hc0 => ?_
    ·
      have h1 : e.kind = 1 := by simpa using hc0
      have hk0 : e.kids = [] := List.eq_nil_of_length_eq_zero (by rw [h1] at hk; simp [kidsN] at hk; omega)
      have hcd' : e.cd = [⟨1, e.n, A0⟩] := by rw [hcd, hk0, lastI, if_pos hc0]; rfl
      refine g_ [2] ?_
      refine wpM_ret ?_
      try refine S_ ?_
      rw [hcd'] at hQ
      refine hQ _ _ (retK [B + 1] [] [(z, .cells 81 (insC ([(⟨1, e.n, A0⟩ : GI)])))] rfl rfl rfl (by rw [Tryz.results118] <;> simp (maxSteps := 1000000) -implicitDefEqProofs (disch := omega) only [go_sem] <;> rfl) ?_ ⟨z, rfl, rfl⟩ ?_ ?_ ?_ ?_ ?_ ?_)
      all_goals (first | (simp -implicitDefEqProofs (disch := omega) only [go_sem, List.nodup_cons, List.nodup_nil, true_or, or_true, List.mem_cons, List.not_mem_nil, if_true, List.length_append]; done) | (simp -implicitDefEqProofs (disch := omega) only [go_sem, List.nodup_cons, List.nodup_nil, true_or, or_true, List.mem_cons, List.not_mem_nil, List.length_append]; first | rfl | omega))
    refine g_ [1,4,11] ?_
    refine c_ (fun hc1 => ?_) fun hc1 => ?_
    ·
      have h1 : e.kind = 2 := by simpa using hc1
      have hk0 : e.kids = [] := List.eq_nil_of_length_eq_zero (by rw [h1] at hk; simp [kidsN] at hk; omega)
      have hcd' : e.cd = [⟨2, 0, e.a⟩] := by rw [hcd, hk0, lastI, if_neg (by rw [hc0]; simp), if_pos hc1]; rfl
      refine g_ [2] ?_
      refine wpM_ret ?_
      try refine S_ ?_
      rw [hcd'] at hQ
      refine hQ _ _ (retK [B + 1] [] [(z, .cells 81 (insC ([(⟨2, 0, e.a⟩ : GI)])))] rfl rfl rfl (by rw [Tryz.results118] <;> simp (maxSteps := 1000000) -implicitDefEqProofs (disch := omega) only [go_sem] <;> rfl) ?_ ⟨z, rfl, rfl⟩ ?_ ?_ ?_ ?_ ?_ ?_)
      all_goals (first | (simp -implicitDefEqProofs (disch := omega) only [go_sem, List.nodup_cons, List.nodup_nil, true_or, or_true, List.mem_cons, List.not_mem_nil, if_true, List.length_append]; done) | (simp -implicitDefEqProofs (disch := omega) only [go_sem, List.nodup_cons, List.nodup_nil, true_or, or_true, List.mem_cons, List.not_mem_nil, List.length_append]; first | rfl | omega))
    refine g_ [1,17] ?_
    refine c_ (fun hc2 => ?_) fun hc2 => ?_
    ·
      have h1 : e.kind = 10 := by simpa using hc2
      have hk0 : e.kids.length = 1 := by rw [h1] at hk; simp [kidsN] at hk; omega
      have hg0 : 0 < e.kids.length := by omega
      have hs0 := Ex.get_szL e.kids 0 hg0
      have hb0 : (e.kids.getD 0 default).cd.length ≤ 1000000000 := by rw [Ex.cd_len]; omega
      have hcd' : e.cd = (e.kids.getD 0 default).cd ++ [⟨5, 0, A0⟩] := by
        rw [hcd, lastI, if_neg (by rw [hc0]; simp), if_neg (by rw [hc1]; simp), if_pos hc2]
        congr 1
        match hkk : e.kids, hk0 with
        | [x], _ => simp [Ex.cdL]
      refine n_ ?_
      refine wpM_regionK [2] rfl fun Q1 hQ1 => ?_
      refine S_ ?_
      refine call_fn (l := []) (first := []) (cap := []) (ps := [.agg (e.kids.getD 0 default).cs]) (ih (e.kids.getD 0 default) (hkids 0 hg0) (by omega)) Tryz.call118 rfl rfl rfl G_ T_ ?_
      rintro out ⟨z', ⟨⟩, rfl⟩
      refine S_ ?_
      refine hQ1 _ _ (S_ ?_);clear hQ1 Q1
      refine wpM_ret ?_
      try refine S_ ?_
      rw [hcd'] at hQ
      refine hQ _ _ (retK [B + 3] [] [(z, .cells 81 (insC ((e.kids.getD 0 default).cd ++ [(⟨5, 0, A0⟩ : GI)])))] rfl rfl rfl (by rw [Tryz.results118] <;> simp (maxSteps := 1000000) -implicitDefEqProofs (disch := omega) only [go_sem] <;> rfl) ?_ ⟨z, rfl, rfl⟩ ?_ ?_ ?_ ?_ ?_ ?_)
      all_goals (first | (simp -implicitDefEqProofs (disch := omega) only [go_sem, List.nodup_cons, List.nodup_nil, true_or, or_true, List.mem_cons, List.not_mem_nil, if_true, List.length_append]; done) | (simp -implicitDefEqProofs (disch := omega) only [go_sem, List.nodup_cons, List.nodup_nil, true_or, or_true, List.mem_cons, List.not_mem_nil, List.length_append]; first | rfl | omega))
    have h2' := kidsN_two hc0 hc1 hc2 (by omega)
    have hk2 : e.kids.length = 2 := by omega
    have hg0 : 0 < e.kids.length := by omega
    have hg1 : 1 < e.kids.length := by omega
    have hs0 := Ex.get_szL e.kids 0 hg0
    have hs1 := Ex.get_szL e.kids 1 hg1
    have hcd' : e.cd = (e.kids.getD 0 default).cd ++ (e.kids.getD 1 default).cd ++ [⟨4, e.kind, A0⟩] := by
      rw [hcd, lastI, if_neg (by rw [hc0]; simp), if_neg (by rw [hc1]; simp), if_neg (by rw [hc2]; simp)]
      congr 1
      match hkk : e.kids, hk2 with
      | [x, y], _ => simp [Ex.cdL]
    have hcl : (e.kids.getD 0 default).cd.length + (e.kids.getD 1 default).cd.length ≤ 2000000000 := by rw [Ex.cd_len, Ex.cd_len]; omega
    refine n_ ?_
    refine dr_ mixed [2] 5 1 [B, B + 1, B + 2, B + 3, B + 4, B + 5] [⟨[1],[],[],[],false⟩,⟨[27],[0],[],[],false⟩,⟨[28],[],[],[],false⟩,⟨[29],[],[],[],false⟩,⟨[30],[],[],[1],true⟩,⟨[1],[],[],[],false⟩,⟨[32],[0],[],[],false⟩,⟨[33],[],[],[],false⟩,⟨[34],[],[],[],false⟩,⟨[35],[],[],[2],true⟩,⟨[31,36],[1,2],[1],[3],false⟩,⟨[1],[],[],[],false⟩,⟨[38],[0],[],[],false⟩,⟨[39],[],[],[],false⟩,⟨[40],[],[],[4],false⟩,⟨[37,41],[3,4],[3],[5],false⟩,⟨[42],[],[],[],false⟩] [0,1,2,3,5,6,7,8,11,12,13,14,4,9,10,15,16] [[],[0],[0,1],[0,1,2],[0,1,2,3],[],[5],[5,6],[5,6,7],[0,1,2,3,4,5,6,7,8],[0,1,2,3,4,5,6,7,8,9],[],[11],[11,12],[11,12,13],[0,1,2,3,4,5,6,7,8,9,10,11,12,13,14],[0,1,2,3,4,5,6,7,8,9,10,11,12,13,14,15]] 6 ?_
    intro O A K hO hA hK;simp only [atL_cons,atL_nil,Nat.reduceAdd,Nat.zero_add] at hO hA
    simp -implicitDefEqProofs (disch := omega) only [go_sem, List.length_append, hO, hA]
    refine loud_fn (first := []) (cap := []) (ps := [.agg (e.kids.getD 0 default).cs]) (l := []) (ih (e.kids.getD 0 default) (hkids 0 hg0) (by omega)) Tryz.call118 rfl rfl F_ (subG_spec T_) rfl ?_
    rintro out ⟨z', ⟨⟩, rfl⟩
    refine ⟨rfl, ?_⟩
    simp -implicitDefEqProofs (disch := omega) only [go_sem, List.length_append, hO, hA]
    refine loud_fn (first := []) (cap := []) (ps := [.agg (e.kids.getD 1 default).cs]) (l := []) (ih (e.kids.getD 1 default) (hkids 1 hg1) (by omega)) Tryz.call118 rfl rfl F_ (subG_spec T_) rfl ?_
    rintro out ⟨z', ⟨⟩, rfl⟩
    refine ⟨rfl, ?_⟩
    simp -implicitDefEqProofs (disch := omega) only [go_sem, List.length_append, hO, hA]
    refine hK _ (S_ ?_);clear hK K hO hA O A
    refine wpM_ret ?_
    try refine S_ ?_
    rw [hcd'] at hQ
    refine hQ _ _ (retK [B + 5] [] [(z, .cells 81 (insC ((e.kids.getD 0 default).cd ++ (e.kids.getD 1 default).cd ++ [(⟨4, e.kind, A0⟩ : GI)])))] rfl rfl rfl (by rw [Tryz.results118] <;> simp (maxSteps := 1000000) -implicitDefEqProofs (disch := omega) only [go_sem] <;> rfl) ?_ ⟨z, rfl, rfl⟩ ?_ ?_ ?_ ?_ ?_ ?_)
    all_goals (first | (simp -implicitDefEqProofs (disch := omega) only [go_sem, List.nodup_cons, List.nodup_nil, true_or, or_true, List.mem_cons, List.not_mem_nil, if_true, List.length_append]; done) | (simp -implicitDefEqProofs (disch := omega) only [go_sem, List.nodup_cons, List.nodup_nil, true_or, or_true, List.mem_cons, List.not_mem_nil, List.length_append]; first | rfl | omega))
end Go.Proofs.YtmicbfojofcigaaGreatDoor
namespace Go.Proofs.YtmicbfojofcigaaGreatDoor
open Go Sg
set_option maxRecDepth 100000
set_option linter.unusedSimpArgs false
set_option linter.unusedVariables false
set_option linter.unusedSectionVars false
set_option maxHeartbeats 4000000
variable [ErrL]
def L5R (l : List GI) (ns : List Nat) (o : COut) : Prop := ∃ z, ns = [z] ∧ o = { rs := [.sl 81 z 0 l.length], nw := [(z, .cells 81 (insC l))] }
def L5K (N : Nat) : Prop := ∀ (l : List Sm) (d k : Nat), Sm.szL l ≤ N → formS d l = true → Sm.szL l ≤ 1000000000 → k + 2 * Sm.szL l ≤ 100000000000 → CallF Tryz.prog 49 [.rows 52 (Sm.csL l), .int .i64 (k : Nat)] [] 1 (L5R (Sm.cdL l k))
theorem l5One_ok (N : Nat) (ih : L5K N) (s : Sm) (d k : Nat) (hp : s.plain = true) (he : s.e.ok = true) (ht : formS d s.th = true) (hl : formS d s.el = true) (hN : Sm.szL s.th ≤ N ∧ Sm.szL s.el ≤ N) (hs : s.sz ≤ 1000000000) (hk : k + 2 * s.sz ≤ 100000000000) :
    CallF Tryz.prog 88 [.agg s.cs, .int .i64 (k : Nat)] [] 1 (L5R (s.cd k)) := by
  have hsz := s.sz_eq
  have hE := Ex.cd_len s.e
  have hce := Sm.cd_eq s k
  have hfe := l5Expr_ok 6 s.e (ok_form he) (by omega)
  have hA1 := Sm.cdL_len s.th (k + s.e.cd.length + 1)
  refine callF_of' Tryz.func88 rfl Tryz.ntmps88 (by simp) ?_
  intro f0 B ns Q hB hns hQ
  obtain ⟨z, rfl⟩ : ∃ z, ns = [z] := by
    match ns, hns with
    | [x], _ => exact ⟨x, rfl⟩
  refine g_ [1,2] ?_
  refine n_ ?_
  refine wpM_regionK [1,2,5] rfl fun Q1 hQ1 => ?_
  refine S_ ?_
  refine call_fn (l := []) (first := []) (cap := []) (ps := [.agg s.e.cs]) (hfe) Tryz.call118 rfl rfl rfl G_ T_ ?_
  rintro out ⟨z', ⟨⟩, rfl⟩
  refine S_ ?_
  refine hQ1 _ _ (S_ ?_);clear hQ1 Q1
  refine n_ ?_
  generalize hq : s.e.cd = E at *
  refine g_ [1,2,5,15] ?_
  refine c_ (fun hc0 => ?_) fun hc0 => ?_
  ·
    have hcd' : s.cd k = E ++ [(⟨3, 0, s.to'⟩ : GI)] := by rw [hce, if_pos hc0]
    refine g_ [4] ?_
    refine wpM_ret ?_
    try refine S_ ?_
    rw [hcd'] at hQ
    refine hQ _ _ (retK [B + 3] [] [(z, .cells 81 (insC (E ++ [(⟨3, 0, s.to'⟩ : GI)])))] rfl rfl rfl (by rw [Tryz.results88] <;> simp (maxSteps := 1000000) -implicitDefEqProofs (disch := omega) only [go_sem] <;> rfl) ?_ ⟨z, rfl, rfl⟩ ?_ ?_ ?_ ?_ ?_ ?_)
    all_goals (first | (simp -implicitDefEqProofs (disch := omega) only [go_sem, List.nodup_cons, List.nodup_nil, true_or, or_true, List.mem_cons, List.not_mem_nil, if_true, List.length_append]; done) | (simp -implicitDefEqProofs (disch := omega) only [go_sem, List.nodup_cons, List.nodup_nil, true_or, or_true, List.mem_cons, List.not_mem_nil, List.length_append]; first | rfl | omega))
  refine g_ [1,2,5,6] ?_
  refine g_ [1,2,5,6,27] ?_
  refine c_ (fun hc1 => ?_) fun hc1 => ?_
  ·
    have hcd' : s.cd k = E ++ [(⟨6, (k + E.length + 1 + (Sm.cdL s.th (k + E.length + 1)).length + 1 : Nat), A0⟩ : GI)] ++ Sm.cdL s.th (k + E.length + 1) ++ [(⟨8, (k : Nat), A0⟩ : GI)] := by
      have h3 : s.kind = 3 := by simpa using hc1
      rw [hce, if_neg (by rw [h3]; decide), if_neg (by rw [h3]; decide), if_pos hc1]
    refine n_ ?_
    refine wpM_regionK [1,5,6,7] rfl fun Q1 hQ1 => ?_
    refine S_ ?_
    refine call_fn (l := []) (first := []) (cap := []) (ps := [.rows 52 (Sm.csL s.th), .int .i64 ((k + E.length + 1 : Nat) : Int)]) (ih s.th d (k + E.length + 1) hN.1 ht (by omega) (by omega)) Tryz.call49 rfl rfl rfl G_ T_ ?_
    rintro out ⟨z', ⟨⟩, rfl⟩
    refine S_ ?_
    refine hQ1 _ _ (S_ ?_);clear hQ1 Q1
    refine n_ ?_
    generalize hA : Sm.cdL s.th (k + E.length + 1) = A at *
    refine g_ [1,5,7] ?_
    refine n_ ?_
    refine wpM_regionK [4] rfl fun Q1 hQ1 => ?_
    simp -implicitDefEqProofs (disch := omega) only [go_sem, List.length_append]
    refine hQ1 _ _ (S_ ?_);clear hQ1 Q1
    refine wpM_ret ?_
    try refine S_ ?_
    rw [hcd'] at hQ
    have e1 : (k : Int) + ((E.length : Int) + 1) + (A.length : Int) + 1 = ((k + E.length + 1 + A.length + 1 : Nat) : Int) := by omega
    rw [e1]
    refine hQ _ _ (retK [B + 7] [] [(z, .cells 81 (insC (E ++ [(⟨6, ((k + E.length + 1 + A.length + 1 : Nat) : Int), A0⟩ : GI)] ++ A ++ [(⟨8, (k : Nat), A0⟩ : GI)])))] rfl rfl rfl (by rw [Tryz.results88] <;> simp (maxSteps := 1000000) -implicitDefEqProofs (disch := omega) only [go_sem] <;> rfl) ?_ ⟨z, rfl, rfl⟩ ?_ ?_ ?_ ?_ ?_ ?_)
    all_goals (first | (simp -implicitDefEqProofs (disch := omega) only [go_sem, List.nodup_cons, List.nodup_nil, true_or, or_true, List.mem_cons, List.not_mem_nil, if_true, List.length_append]; done) | (simp -implicitDefEqProofs (disch := omega) only [go_sem, List.nodup_cons, List.nodup_nil, true_or, or_true, List.mem_cons, List.not_mem_nil, List.length_append]; first | rfl | omega))
  have h2 : (s.kind == 2) = true := by
    unfold Sm.plain at hp
    rw [hc0, hc1] at hp
    cases h : s.kind == 2
    · rw [h] at hp; simp at hp
    · rfl
  have hcd' : s.cd k = E ++ [(⟨6, (k + E.length + 1 + (Sm.cdL s.th (k + E.length + 1)).length + 1 : Nat), A0⟩ : GI)] ++ Sm.cdL s.th (k + E.length + 1) ++ [(⟨7, (k + E.length + 1 + (Sm.cdL s.th (k + E.length + 1)).length + 1 + (Sm.cdL s.el (k + E.length + 1 + (Sm.cdL s.th (k + E.length + 1)).length + 1)).length : Nat), A0⟩ : GI)] ++ Sm.cdL s.el (k + E.length + 1 + (Sm.cdL s.th (k + E.length + 1)).length + 1) := by
    rw [hce, if_neg (by rw [hc0]; simp), if_pos h2]
  refine n_ ?_
  refine wpM_regionK [1,2,5,6,8] rfl fun Q1 hQ1 => ?_
  refine S_ ?_
  refine call_fn (l := []) (first := []) (cap := []) (ps := [.rows 52 (Sm.csL s.th), .int .i64 ((k + E.length + 1 : Nat) : Int)]) (ih s.th d (k + E.length + 1) hN.1 ht (by omega) (by omega)) Tryz.call49 rfl rfl rfl G_ T_ ?_
  rintro out ⟨z', ⟨⟩, rfl⟩
  refine S_ ?_
  refine hQ1 _ _ (S_ ?_);clear hQ1 Q1
  refine n_ ?_
  generalize hA : Sm.cdL s.th (k + E.length + 1) = A at *
  have hA2 := Sm.cdL_len s.el (k + E.length + 1 + A.length + 1)
  refine wpM_regionK [1,5,6,8,9] rfl fun Q1 hQ1 => ?_
  refine S_ ?_
  refine call_fn (l := []) (first := []) (cap := []) (ps := [.rows 52 (Sm.csL s.el), .int .i64 ((k + E.length + 1 + A.length + 1 : Nat) : Int)]) (ih s.el d (k + E.length + 1 + A.length + 1) hN.2 hl (by omega) (by omega)) Tryz.call49 rfl rfl rfl G_ T_ ?_
  rintro out ⟨z', ⟨⟩, rfl⟩
  refine S_ ?_
  refine hQ1 _ _ (S_ ?_);clear hQ1 Q1
  refine n_ ?_
  generalize hBc : Sm.cdL s.el (k + E.length + 1 + A.length + 1) = Bc at *
  refine g_ [1,5,6,8,9] ?_
  refine n_ ?_
  refine wpM_regionK [5,9] rfl fun Q1 hQ1 => ?_
  simp -implicitDefEqProofs (disch := omega) only [go_sem, List.length_append]
  refine hQ1 _ _ (S_ ?_);clear hQ1 Q1
  refine n_ ?_
  refine wpM_regionK [4] rfl fun Q1 hQ1 => ?_
  simp -implicitDefEqProofs (disch := omega) only [go_sem, List.length_append]
  refine hQ1 _ _ (S_ ?_);clear hQ1 Q1
  refine wpM_ret ?_
  try refine S_ ?_
  rw [hcd'] at hQ
  have e1 : (k : Int) + ((E.length : Int) + 1) + (A.length : Int) + 1 = ((k + E.length + 1 + A.length + 1 : Nat) : Int) := by omega
  rw [e1]
  have e2 : ((k + E.length + 1 + A.length + 1 : Nat) : Int) + (Bc.length : Int) = ((k + E.length + 1 + A.length + 1 + Bc.length : Nat) : Int) := by omega
  rw [e2]
  refine hQ _ _ (retK [B + 9] [] [(z, .cells 81 (insC (E ++ [(⟨6, ((k + E.length + 1 + A.length + 1 : Nat) : Int), A0⟩ : GI)] ++ A ++ [(⟨7, ((k + E.length + 1 + A.length + 1 + Bc.length : Nat) : Int), A0⟩ : GI)] ++ Bc)))] rfl rfl rfl (by rw [Tryz.results88] <;> simp (maxSteps := 1000000) -implicitDefEqProofs (disch := omega) only [go_sem] <;> rfl) ?_ ⟨z, rfl, rfl⟩ ?_ ?_ ?_ ?_ ?_ ?_)
  all_goals (first | (simp -implicitDefEqProofs (disch := omega) only [go_sem, List.nodup_cons, List.nodup_nil, true_or, or_true, List.mem_cons, List.not_mem_nil, if_true, List.length_append]; done) | (simp -implicitDefEqProofs (disch := omega) only [go_sem, List.nodup_cons, List.nodup_nil, true_or, or_true, List.mem_cons, List.not_mem_nil, List.length_append]; first | rfl | omega))
theorem l5Of_ok : ∀ N, L5K N := by
  intro N
  induction N with
  | zero =>
    intro l d k hN hf hs hk
    have h0 : l.length = 0 := by have := Sm.len_szL l; omega
    obtain rfl : l = [] := List.eq_nil_of_length_eq_zero h0
    refine callF_of' Tryz.func49 rfl Tryz.ntmps49 (by simp) ?_
    intro f0 B ns Q hB hns hQ
    obtain ⟨z, rfl⟩ : ∃ z, ns = [z] := by
      match ns, hns with
      | [x], _ => exact ⟨x, rfl⟩
    refine g_ [0,1] ?_
    refine g_ [0,1,5] ?_
    refine g_ [0,1,5,6] ?_
    refine n_ ?_
    refine wpM_loopS (fun s n s' => s' = s) (0) ?_ ?_
    ·
      exact .here rfl
    rintro n s' rfl
    try refine S_ ?_
    refine g_ [0,1,5,6,11] ?_
    refine c_ (fun hc0 => ?_) fun hc0 => ?_
    · simp at hc0
    refine g_ [4] ?_
    refine wpM_ret ?_
    try refine S_ ?_
    refine hQ _ _ (retK [B] [] [(z, .cells 81 (insC []))] rfl rfl rfl (by rw [Tryz.results49] <;> simp (maxSteps := 1000000) -implicitDefEqProofs (disch := omega) only [go_sem] <;> rfl) ?_ ⟨z, rfl, rfl⟩ ?_ ?_ ?_ ?_ ?_ ?_)
    all_goals (first | (simp -implicitDefEqProofs (disch := omega) only [go_sem, List.nodup_cons, List.nodup_nil, true_or, or_true, List.mem_cons, List.not_mem_nil, if_true, List.length_append]; done) | (simp -implicitDefEqProofs (disch := omega) only [go_sem, List.nodup_cons, List.nodup_nil, true_or, or_true, List.mem_cons, List.not_mem_nil, List.length_append]; first | rfl | omega))
  | succ N ih =>
    intro l d k hN hf hs hk
    have hlen := Sm.len_szL l
    refine callF_of' Tryz.func49 rfl Tryz.ntmps49 (by simp) ?_
    intro f0 B ns Q hB hns hQ
    obtain ⟨z, rfl⟩ : ∃ z, ns = [z] := by
      match ns, hns with
      | [x], _ => exact ⟨x, rfl⟩
    refine g_ [0,1] ?_
    refine g_ [0,1,5] ?_
    refine g_ [0,1,5,6] ?_
    refine n_ ?_
    refine wpM_loopS (fun q n s' => ∃ (i M Y : Nat) (L : List GI), i + n = l.length ∧ B ≤ Y ∧ Y < M ∧ L = Sm.cdL (l.take i) k ∧ s' = { q with env := setE 6 (.int .i64 (i : Nat)) (setE 5 (.sl 81 Y 0 L.length) q.env), l := [(Y, .cells 81 (insC L))], M := M }) (l.length) ?_ ?_
    ·
      refine .of' _ _ ⟨0, _, B, [], by omega, Nat.le_refl _, Nat.lt_succ_self _, by simp [Sm.cdL], rfl⟩ ?_ ?_ ?_
      all_goals exact L_
    rintro n s' ⟨i, M, Y, L, hi, hBY, hYM, hL, rfl⟩
    try refine S_ ?_
    refine g_ [0,1,5,6,11] ?_
    refine c_ (fun hc0 => ?_) fun hc0 => ?_
    ·
      have hi2 : i < l.length := by omega
      have hin := Sm.get_in hi2
      obtain ⟨g1, g2, d', g3, g4⟩ := formS_at hf hi2
      have htk := Sm.cdL_take l k i hi2
      have hst := Sm.szL_take l i hi2
      have hcl := Sm.cdL_len (l.take i) k
      have hc2 := Sm.cd_len (l.getD i default) (k + L.length)
      rw [← hL] at htk hcl
      refine n_ ?_
      refine wpM_regionK [0,1,5,6] rfl fun Q1 hQ1 => ?_
      simp -implicitDefEqProofs (disch := omega) only [go_sem, List.length_append]
      refine call_fn (l := []) (first := []) (cap := []) (ps := [.agg (l.getD i default).cs, .int .i64 ((k + L.length : Nat) : Int)]) (l5One_ok N ih (l.getD i default) d' (k + L.length) g1 g2 g3 g4 (by omega) (by omega) (by omega)) Tryz.call88 rfl rfl rfl G_ T_ ?_
      rintro out ⟨z', ⟨⟩, rfl⟩
      simp -implicitDefEqProofs (disch := omega) only [go_sem, List.length_append]
      refine hQ1 _ _ (S_ ?_);clear hQ1 Q1
      refine g_ [0,1,5,6] ?_
      have hll : L.length + ((l.getD i default).cd (k + L.length)).length = (L ++ (l.getD i default).cd (k + L.length)).length := List.length_append.symm
      rw [hll]
      refine .of' _ _ ⟨n - 1, by omega, i + 1, _, M + 1, L ++ (l.getD i default).cd (k + L.length), by omega, M_, M_, htk.symm, rfl⟩ L_ L_ L_
    refine g_ [4] ?_
    refine wpM_ret ?_
    try refine S_ ?_
    obtain rfl : i = l.length := by omega
    rw [List.take_of_length_le (Nat.le_refl _)] at hL
    rw [← hL] at hQ
    refine hQ _ _ (retK [Y] [] [(z, .cells 81 (insC L))] rfl rfl rfl (by rw [Tryz.results49] <;> simp (maxSteps := 1000000) -implicitDefEqProofs (disch := omega) only [go_sem] <;> rfl) ?_ ⟨z, rfl, rfl⟩ ?_ ?_ ?_ ?_ ?_ ?_)
    all_goals (first | (simp -implicitDefEqProofs (disch := omega) only [go_sem, List.nodup_cons, List.nodup_nil, true_or, or_true, List.mem_cons, List.not_mem_nil, if_true, List.length_append]; done) | (simp -implicitDefEqProofs (disch := omega) only [go_sem, List.nodup_cons, List.nodup_nil, true_or, or_true, List.mem_cons, List.not_mem_nil, List.length_append]; first | rfl | omega))
theorem codeOf_ok (l : List Sm) (hs : Sm.szL l ≤ 1000000000) : PureF Tryz.prog 21 [.rows 52 (Sm.csL l)] [.rows 81 (insR (codeOf l))] := by
  refine pureF_of Tryz.func21 rfl Tryz.ntmps21 (by simp) T_ ?_
  intro f0 B Q hQ
  refine g_ [0] ?_
  refine n_ ?_
  refine wpM_regionK [0,5] rfl fun Q1 hQ1 => ?_
  refine S_ ?_
  refine cp_ (stmtsOk_ok l (by omega)) Tryz.call13 ?_
  refine hQ1 _ _ (S_ ?_);clear hQ1 Q1
  refine c_ (fun hc0 => ?_) fun hc0 => ?_
  ·
    refine g_ [2] ?_
    have hcs : codeOf l = [] := by rw [codeOf, if_neg]; intro h; rw [h] at hc0; cases hc0
    refine wpM_frz [B] [(81, B, 0, 0, insR [])] (by intro q hq; simp at hq; subst hq; simp -implicitDefEqProofs (disch := omega) only [go_sem]) (by intro q hq; simp only [List.mem_cons, List.not_mem_nil, or_false] at hq; subst hq; exact ⟨by simp, rowsOf_insC (T := 81) (l := []) T_ rfl⟩) ?_
    refine S_ ?_
    refine e_ Tryz.results21 ?_
    first
    | exact True.intro
    | rw [hcs]
      try rfl
  have hok : okS l = true := by simpa using hc0
  have hcs : codeOf l = Sm.cdL l 0 := by rw [codeOf, if_pos hok]
  refine n_ ?_
  refine wpM_regionK [2] rfl fun Q1 hQ1 => ?_
  refine S_ ?_
  refine call_fn (l := []) (first := []) (cap := []) (ps := [.rows 52 (Sm.csL l), .int .i64 ((0 : Nat) : Int)]) (l5Of_ok _ l 4 0 (Nat.le_refl _) (okS_form hok).1 hs (by omega)) Tryz.call49 rfl rfl rfl G_ T_ ?_
  rintro out ⟨z', ⟨⟩, rfl⟩
  refine S_ ?_
  refine hQ1 _ _ (S_ ?_);clear hQ1 Q1
  refine wpM_frz [B] [(81, B, 0, (Sm.cdL l 0).length, insR (Sm.cdL l 0))] (by intro q hq; simp at hq; subst hq; simp -implicitDefEqProofs (disch := omega) only [go_sem]) (by intro q hq; simp only [List.mem_cons, List.not_mem_nil, or_false] at hq; subst hq; exact ⟨by simp, rowsOf_insC (T := 81) T_ rfl⟩) ?_
  refine S_ ?_
  refine e_ Tryz.results21 ?_
  first
  | exact True.intro
  | rw [hcs]
    try rfl
theorem eqGI (d : Nat) (a b c e a' b' c' e' : Int) : eqA Tryz.prog (d + 3) 81 (.agg [.int .i64 a, .int .i64 b, .int .i64 c, .int .i64 e]) (.agg [.int .i64 a', .int .i64 b', .int .i64 c', .int .i64 e']) = some (a == a' && b == b' && c == c' && e == e') := by
  unfold eqA
  simp only [Tryz.underlying81, Tryz.stoodInHeld81, Bool.false_eq_true, if_false, eqFs]
  simp -implicitDefEqProofs (disch := omega) only [go_sem, eqA, eqFs, ne_eq, String.reduceEq]
  rw [eqAD d]
  cases h1 : a == a' <;> cases h2 : b == b' <;> cases h3 : (c == c' && e == e') <;> simp [eqA, Tryz.underlying3, h1, h2, h3, Bool.and_assoc]
@[go_sem] theorem neqGI (x y : Operand) (a b c e a' b' c' e' : Int) : binOpA Tryz.prog .neq 81 x y (.agg [.int .i64 a, .int .i64 b, .int .i64 c, .int .i64 e]) (.agg [.int .i64 a', .int .i64 b', .int .i64 c', .int .i64 e']) = some (.bool (!(a == a' && b == b' && c == c' && e == e'))) := by
  simp only [binOpA, Tryz.eqGuardType81]
  rw [eqGI 9997]; rfl
@[go_sem] theorem eqlGI (x y : Operand) (a b c e a' b' c' e' : Int) : binOpA Tryz.prog .eql 81 x y (.agg [.int .i64 a, .int .i64 b, .int .i64 c, .int .i64 e]) (.agg [.int .i64 a', .int .i64 b', .int .i64 c', .int .i64 e']) = some (.bool (a == a' && b == b' && c == c' && e == e')) := by
  simp only [binOpA, Tryz.eqGuardType81]
  rw [eqGI 9997]; rfl
instance : BEq GI := ⟨fun x y => x.op == y.op && x.n == y.n && x.a.kind == y.a.kind && x.a.at' == y.a.at'⟩
theorem GI.beq_iff (x y : GI) : (x == y) = true ↔ x = y := by
  show (x.op == y.op && x.n == y.n && x.a.kind == y.a.kind && x.a.at' == y.a.at') = true ↔ _
  obtain ⟨a, b, ⟨c, d⟩⟩ := x
  obtain ⟨a', b', ⟨c', d'⟩⟩ := y
  simp [and_assoc]
def sameC (a b : List GI) : Bool := (a.length == b.length) && (List.range a.length).all fun i => a.getD i default == b.getD i default
theorem sameC_self (a : List GI) : sameC a a = true := by
  simp only [sameC, beq_self_eq_true, Bool.true_and, List.all_eq_true]
  intro i _
  exact (GI.beq_iff _ _).2 rfl
theorem codeSame_ok (a b : List GI) (ha : a.length ≤ 1099511627776) : PureF Tryz.prog 20 [.rows 81 (insR a), .rows 81 (insR b)] [.bool (sameC a b)] := by
  have hE : PureF Tryz.prog 48 [.rows 81 (insR a), .rows 81 (insR b)] [.bool (sameC a b)] := by
    refine pureF_of Tryz.func48 rfl Tryz.ntmps48 (by simp) T_ ?_
    intro f0 B Q hQ
    refine g_ [0,1] ?_
    refine g_ [0,1,10] ?_
    refine c_ (fun hc0 => ?_) fun hc0 => ?_
    ·
      refine g_ [4] ?_
      refine e_ Tryz.results48 ?_
      first
      | exact True.intro
      | simp at hc0
        unfold sameC
        rw [beq_eq_false_iff_ne.2 (by omega)]; rfl
    have hab : a.length = b.length := by simp at hc0; omega
    refine g_ [0,1,12,13] ?_
    refine n_ ?_
    refine wpM_loopS (fun s n s' => ∃ (i0 M0 : Nat) , i0 + n = a.length ∧ s.M ≤ M0 ∧ ((List.range i0).all (fun i => a.getD i default == b.getD i default) = true) ∧ s' = { s with env := setE 13 (.int .i64 (i0 : Nat)) s.env, M := M0 }) (a.length) ?_ ?_
    ·
      refine .of' _ _ ⟨0, _, by omega, Nat.le_refl _, by simp, rfl⟩ ?_ ?_ ?_ <;> exact L_
    rintro n0 s' ⟨i0, M0, hi0, hM0, hv0, rfl⟩
    try dsimp only at hM0
    try refine S_ ?_
    refine g_ [0,1,12,13,14] ?_
    refine c_ (fun hc1 => ?_) fun hc1 => ?_
    ·
      have hl0 : i0 < a.length := by omega
      refine g_ [0,1,5,12,13] ?_
      refine n_ ?_
      refine dr_ mixed [0,1,12,13,24] 0 0 [] [⟨[0],[],[],[],false⟩,⟨[5],[],[],[],false⟩,⟨[16,17],[],[],[],false⟩,⟨[18],[],[],[],false⟩,⟨[1],[],[],[],false⟩,⟨[5],[],[],[],false⟩,⟨[20,21],[],[],[],false⟩,⟨[22],[],[],[],false⟩,⟨[19,23],[],[],[],false⟩] [0,1,2,3,4,5,6,7,8] [[],[],[0,1],[0,1,2],[],[],[4,5],[4,5,6],[0,1,2,3,4,5,6,7]] 0 ?_
      intro O A K hO hA hK;simp only [atL_cons,atL_nil,Nat.reduceAdd,Nat.zero_add] at hO hA
      refine SO_ ?_
      refine hK _ (S_ ?_);clear hK K hO hA O A
      refine c_ (fun hc2 => ?_) fun hc2 => ?_
      ·
        refine g_ [4] ?_
        refine e_ Tryz.results48 ?_
        first
        | exact True.intro
        | unfold sameC
          have h2 : (!(a.getD i0 default == b.getD i0 default)) = true := hc2
          rw [range_no hl0 (by simpa using h2)]
          simp
      refine g_ [0,1,12,13] ?_
      refine .of' _ _ ⟨n0 - 1, by omega, i0 + 1, _, by omega, M_, ?_, rfl⟩ L_ L_ L_
      have h2 : (!(a.getD i0 default == b.getD i0 default)) = false := hc2
      rw [range_all, hv0]; simpa using h2
    refine g_ [4] ?_
    refine e_ Tryz.results48 ?_
    first
    | exact True.intro
    | have : i0 = a.length := by omega
      rw [sameC, hab, beq_self_eq_true, ← hab, ← this, hv0]; rfl
  refine pureF_of Tryz.func20 rfl Tryz.ntmps20 (by simp) T_ ?_
  intro f0 B Q hQ
  refine g_ [0,1] ?_
  refine n_ ?_
  refine wpM_regionK [4] rfl fun Q1 hQ1 => ?_
  refine S_ ?_
  refine cp_ (hE) Tryz.call48 ?_
  refine hQ1 _ _ (S_ ?_);clear hQ1 Q1
  refine e_ Tryz.results20 ?_
  first
  | exact True.intro
  | rfl
end Go.Proofs.YtmicbfojofcigaaGreatDoor
namespace Go.Proofs.YtmicbfojofcigaaGreatDoor
open Go Sg
set_option maxRecDepth 100000
set_option linter.unusedSimpArgs false
set_option linter.unusedVariables false
set_option linter.unusedSectionVars false
set_option maxHeartbeats 4000000
variable [ErrL]
def GI.takes (i : GI) : Int := if i.op == 3 || i.op == 5 || i.op == 6 then 1 else if i.op == 4 then 2 else 0
def GI.gives (i : GI) : Int := if i.op == 1 || i.op == 2 || i.op == 4 || i.op == 5 then 1 else 0
def GI.goes (i : GI) : Bool := i.op == 6 || i.op == 7 || i.op == 8
def GI.follows (i : GI) : Bool := i.op != 7 && i.op != 8
def GI.noA (i : GI) : Bool := i.a.kind == 0 && i.a.at' == 0
def GI.ok (i : GI) (k many : Int) : Bool :=
  if i.op == 1 then isNum i.n && i.noA
  else if i.op == 2 then i.n == 0 && i.a.ok
  else if i.op == 3 then i.n == 0 && (i.a.ok && i.a.kind != 1)
  else if i.op == 4 then isTwo i.n && i.noA
  else if i.op == 5 then i.n == 0 && i.noA
  else if i.op == 6 || i.op == 7 then decide (i.n > k) && decide (i.n ≤ many) && i.noA
  else if i.op == 8 then decide (i.n ≥ 0) && decide (i.n < k) && i.noA
  else false
theorem takes_ok (i : GI) : PureF Tryz.prog 92 [.agg i.cs] [.int .i64 i.takes] := by
  refine pureF_of Tryz.func92 rfl Tryz.ntmps92 (by simp) T_ ?_
  intro f0 B Q hQ
  refine g_ [1] ?_
  refine g_ [4] ?_
  refine g_ [4,5] ?_
  refine c_ (fun hc0 => ?_) fun hc0 => ?_
  ·
    refine c_ (fun hc1 => ?_) fun hc1 => ?_
    ·
      refine g_ [2] ?_
      refine e_ Tryz.results92 ?_
      first
      | exact True.intro
      | first
        | (simp only [GI.takes, *, ↓reduceIte, Bool.false_eq_true, Bool.or_self, Bool.or_true, Bool.true_or]; done)
        | (exfalso; simp_all; done)
    refine g_ [9] ?_
    refine c_ (fun hc2 => ?_) fun hc2 => ?_
    ·
      refine g_ [2] ?_
      refine e_ Tryz.results92 ?_
      first
      | exact True.intro
      | first
        | (simp only [GI.takes, *, ↓reduceIte, Bool.false_eq_true, Bool.or_self, Bool.or_true, Bool.true_or]; done)
        | (exfalso; simp_all; done)
    refine g_ [2] ?_
    refine e_ Tryz.results92 ?_
    first
    | exact True.intro
    | first
      | (simp only [GI.takes, *, ↓reduceIte, Bool.false_eq_true, Bool.or_self, Bool.or_true, Bool.true_or]; done)
      | (exfalso; simp_all; done)
  refine g_ [4,5] ?_
  refine c_ (fun hc3 => ?_) fun hc3 => ?_
  ·
    refine c_ (fun hc4 => ?_) fun hc4 => ?_
    ·
      refine g_ [2] ?_
      refine e_ Tryz.results92 ?_
      first
      | exact True.intro
      | first
        | (simp only [GI.takes, *, ↓reduceIte, Bool.false_eq_true, Bool.or_self, Bool.or_true, Bool.true_or]; done)
        | (exfalso; simp_all; done)
    refine g_ [9] ?_
    refine c_ (fun hc5 => ?_) fun hc5 => ?_
    ·
      refine g_ [2] ?_
      refine e_ Tryz.results92 ?_
      first
      | exact True.intro
      | first
        | (simp only [GI.takes, *, ↓reduceIte, Bool.false_eq_true, Bool.or_self, Bool.or_true, Bool.true_or]; done)
        | (exfalso; simp_all; done)
    refine g_ [2] ?_
    refine e_ Tryz.results92 ?_
    first
    | exact True.intro
    | first
      | (simp only [GI.takes, *, ↓reduceIte, Bool.false_eq_true, Bool.or_self, Bool.or_true, Bool.true_or]; done)
      | (exfalso; simp_all; done)
  refine g_ [4,5] ?_
  refine c_ (fun hc6 => ?_) fun hc6 => ?_
  ·
    refine g_ [2] ?_
    refine e_ Tryz.results92 ?_
    first
    | exact True.intro
    | first
      | (simp only [GI.takes, *, ↓reduceIte, Bool.false_eq_true, Bool.or_self, Bool.or_true, Bool.true_or]; done)
      | (exfalso; simp_all; done)
  refine g_ [9] ?_
  refine c_ (fun hc7 => ?_) fun hc7 => ?_
  ·
    refine g_ [2] ?_
    refine e_ Tryz.results92 ?_
    first
    | exact True.intro
    | first
      | (simp only [GI.takes, *, ↓reduceIte, Bool.false_eq_true, Bool.or_self, Bool.or_true, Bool.true_or]; done)
      | (exfalso; simp_all; done)
  refine g_ [2] ?_
  refine e_ Tryz.results92 ?_
  first
  | exact True.intro
  | first
    | (simp only [GI.takes, *, ↓reduceIte, Bool.false_eq_true, Bool.or_self, Bool.or_true, Bool.true_or]; done)
    | (exfalso; simp_all; done)
theorem gives_ok (i : GI) : PureF Tryz.prog 93 [.agg i.cs] [.int .i64 i.gives] := by
  refine pureF_of Tryz.func93 rfl Tryz.ntmps93 (by simp) T_ ?_
  intro f0 B Q hQ
  refine g_ [1] ?_
  refine g_ [4] ?_
  refine g_ [4,5] ?_
  refine c_ (fun hc0 => ?_) fun hc0 => ?_
  ·
    refine c_ (fun hc1 => ?_) fun hc1 => ?_
    ·
      refine g_ [2] ?_
      refine e_ Tryz.results93 ?_
      first
      | exact True.intro
      | first
        | (simp only [GI.gives, *, ↓reduceIte, Bool.false_eq_true, Bool.or_self, Bool.or_true, Bool.true_or]; done)
        | (exfalso; simp_all; done)
    refine g_ [2] ?_
    refine e_ Tryz.results93 ?_
    first
    | exact True.intro
    | first
      | (simp only [GI.gives, *, ↓reduceIte, Bool.false_eq_true, Bool.or_self, Bool.or_true, Bool.true_or]; done)
      | (exfalso; simp_all; done)
  refine g_ [4,5] ?_
  refine c_ (fun hc2 => ?_) fun hc2 => ?_
  ·
    refine c_ (fun hc3 => ?_) fun hc3 => ?_
    ·
      refine g_ [2] ?_
      refine e_ Tryz.results93 ?_
      first
      | exact True.intro
      | first
        | (simp only [GI.gives, *, ↓reduceIte, Bool.false_eq_true, Bool.or_self, Bool.or_true, Bool.true_or]; done)
        | (exfalso; simp_all; done)
    refine g_ [2] ?_
    refine e_ Tryz.results93 ?_
    first
    | exact True.intro
    | first
      | (simp only [GI.gives, *, ↓reduceIte, Bool.false_eq_true, Bool.or_self, Bool.or_true, Bool.true_or]; done)
      | (exfalso; simp_all; done)
  refine g_ [4,5] ?_
  refine c_ (fun hc4 => ?_) fun hc4 => ?_
  ·
    refine c_ (fun hc5 => ?_) fun hc5 => ?_
    ·
      refine g_ [2] ?_
      refine e_ Tryz.results93 ?_
      first
      | exact True.intro
      | first
        | (simp only [GI.gives, *, ↓reduceIte, Bool.false_eq_true, Bool.or_self, Bool.or_true, Bool.true_or]; done)
        | (exfalso; simp_all; done)
    refine g_ [2] ?_
    refine e_ Tryz.results93 ?_
    first
    | exact True.intro
    | first
      | (simp only [GI.gives, *, ↓reduceIte, Bool.false_eq_true, Bool.or_self, Bool.or_true, Bool.true_or]; done)
      | (exfalso; simp_all; done)
  refine g_ [5] ?_
  refine c_ (fun hc6 => ?_) fun hc6 => ?_
  ·
    refine g_ [2] ?_
    refine e_ Tryz.results93 ?_
    first
    | exact True.intro
    | first
      | (simp only [GI.gives, *, ↓reduceIte, Bool.false_eq_true, Bool.or_self, Bool.or_true, Bool.true_or]; done)
      | (exfalso; simp_all; done)
  refine g_ [2] ?_
  refine e_ Tryz.results93 ?_
  first
  | exact True.intro
  | first
    | (simp only [GI.gives, *, ↓reduceIte, Bool.false_eq_true, Bool.or_self, Bool.or_true, Bool.true_or]; done)
    | (exfalso; simp_all; done)
theorem goes_ok (i : GI) : PureF Tryz.prog 94 [.agg i.cs] [.bool i.goes] := by
  refine pureF_of Tryz.func94 rfl Tryz.ntmps94 (by simp) T_ ?_
  intro f0 B Q hQ
  refine g_ [1] ?_
  refine gD_ [2] ?_
  refine e_ Tryz.results94 ?_
  first
  | exact True.intro
  | rfl
theorem follows_ok (i : GI) : PureF Tryz.prog 95 [.agg i.cs] [.bool i.follows] := by
  refine pureF_of Tryz.func95 rfl Tryz.ntmps95 (by simp) T_ ?_
  intro f0 B Q hQ
  refine g_ [1] ?_
  refine gD_ [2] ?_
  refine e_ Tryz.results95 ?_
  first
  | exact True.intro
  | rfl
theorem insOk_ok (i : GI) (k many : Int) : PureF Tryz.prog 91 [.agg i.cs, .int .i64 k, .int .i64 many] [.bool (i.ok k many)] := by
  refine pureF_of Tryz.func91 rfl Tryz.ntmps91 (by simp) T_ ?_
  intro f0 B Q hQ
  refine g_ [1,2,3] ?_
  refine g_ [1,2,3,8] ?_
  refine g_ [1,2,3,8,9] ?_
  refine c_ (fun hc0 => ?_) fun hc0 => ?_
  ·
    refine n_ ?_
    refine wpM_regionK [6] rfl fun Q1 hQ1 => ?_
    refine SD_ ?_
    refine cpD_ (isNum_ok i.n) Tryz.call81 ?_
    refine hQ1 _ _ (S_ ?_);clear hQ1 Q1
    refine e_ Tryz.results91 ?_
    first
    | exact True.intro
    | first
      | (simp only [GI.ok, GI.noA, *, ↓reduceIte, Bool.false_eq_true, Bool.or_self, Bool.or_true, Bool.true_or, Bool.true_and, Bool.and_assoc]; done)
      | (exfalso; simp_all; done)
  refine g_ [1,2,3,8,20] ?_
  refine c_ (fun hc1 => ?_) fun hc1 => ?_
  ·
    refine n_ ?_
    refine wpM_regionK [6] rfl fun Q1 hQ1 => ?_
    refine SD_ ?_
    first | refine cg_ (fun hb => iaddrOk_ok i.a) Tryz.call120 ?_ | refine cpD_ (iaddrOk_ok i.a) Tryz.call120 ?_
    refine hQ1 _ _ (S_ ?_);clear hQ1 Q1
    refine e_ Tryz.results91 ?_
    first
    | exact True.intro
    | first
      | (simp only [GI.ok, GI.noA, *, ↓reduceIte, Bool.false_eq_true, Bool.or_self, Bool.or_true, Bool.true_or, Bool.true_and, Bool.and_assoc]; done)
      | (exfalso; simp_all; done)
  refine g_ [1,2,3,8,30] ?_
  refine c_ (fun hc2 => ?_) fun hc2 => ?_
  ·
    refine n_ ?_
    refine wpM_regionK [6] rfl fun Q1 hQ1 => ?_
    refine SD_ ?_
    first | refine cg_ (fun hb => puts_ok i.a) Tryz.call121 ?_ | refine cpD_ (puts_ok i.a) Tryz.call121 ?_
    refine hQ1 _ _ (S_ ?_);clear hQ1 Q1
    refine e_ Tryz.results91 ?_
    first
    | exact True.intro
    | first
      | (simp only [GI.ok, GI.noA, *, ↓reduceIte, Bool.false_eq_true, Bool.or_self, Bool.or_true, Bool.true_or, Bool.true_and, Bool.and_assoc]; done)
      | (exfalso; simp_all; done)
  refine g_ [1,2,3,8,40] ?_
  refine c_ (fun hc3 => ?_) fun hc3 => ?_
  ·
    refine n_ ?_
    refine wpM_regionK [6] rfl fun Q1 hQ1 => ?_
    refine SD_ ?_
    refine cpD_ (isTwo_ok i.n) Tryz.call122 ?_
    refine hQ1 _ _ (S_ ?_);clear hQ1 Q1
    refine e_ Tryz.results91 ?_
    first
    | exact True.intro
    | first
      | (simp only [GI.ok, GI.noA, *, ↓reduceIte, Bool.false_eq_true, Bool.or_self, Bool.or_true, Bool.true_or, Bool.true_and, Bool.and_assoc]; done)
      | (exfalso; simp_all; done)
  refine g_ [1,2,3,8,51] ?_
  refine c_ (fun hc4 => ?_) fun hc4 => ?_
  ·
    refine g_ [6] ?_
    refine e_ Tryz.results91 ?_
    first
    | exact True.intro
    | first
      | (simp only [GI.ok, GI.noA, *, ↓reduceIte, Bool.false_eq_true, Bool.or_self, Bool.or_true, Bool.true_or, Bool.true_and, Bool.and_assoc]; done)
      | (exfalso; simp_all; done)
  refine g_ [1,2,3,8,56] ?_
  refine c_ (fun hc5 => ?_) fun hc5 => ?_
  ·
    refine c_ (fun hc6 => ?_) fun hc6 => ?_
    ·
      refine gD_ [6] ?_
      refine e_ Tryz.results91 ?_
      first
      | exact True.intro
      | first
        | (simp only [GI.ok, GI.noA, *, ↓reduceIte, Bool.false_eq_true, Bool.or_self, Bool.or_true, Bool.true_or, Bool.true_and, Bool.and_assoc]; done)
        | (exfalso; simp_all; done)
    refine g_ [1,3,75] ?_
    refine c_ (fun hc7 => ?_) fun hc7 => ?_
    ·
      refine gD_ [6] ?_
      refine e_ Tryz.results91 ?_
      first
      | exact True.intro
      | first
        | (simp only [GI.ok, GI.noA, *, ↓reduceIte, Bool.false_eq_true, Bool.or_self, Bool.or_true, Bool.true_or, Bool.true_and, Bool.and_assoc]; done)
        | (exfalso; simp_all; done)
    refine g_ [6] ?_
    refine e_ Tryz.results91 ?_
    first
    | exact True.intro
    | first
      | (simp only [GI.ok, GI.noA, *, ↓reduceIte, Bool.false_eq_true, Bool.or_self, Bool.or_true, Bool.true_or, Bool.true_and, Bool.and_assoc]; done)
      | (exfalso; simp_all; done)
  refine g_ [1,2,3,8,56] ?_
  refine c_ (fun hc8 => ?_) fun hc8 => ?_
  ·
    refine gD_ [6] ?_
    refine e_ Tryz.results91 ?_
    first
    | exact True.intro
    | first
      | (simp only [GI.ok, GI.noA, *, ↓reduceIte, Bool.false_eq_true, Bool.or_self, Bool.or_true, Bool.true_or, Bool.true_and, Bool.and_assoc]; done)
      | (exfalso; simp_all; done)
  refine g_ [1,3,75] ?_
  refine c_ (fun hc9 => ?_) fun hc9 => ?_
  ·
    refine gD_ [6] ?_
    refine e_ Tryz.results91 ?_
    first
    | exact True.intro
    | first
      | (simp only [GI.ok, GI.noA, *, ↓reduceIte, Bool.false_eq_true, Bool.or_self, Bool.or_true, Bool.true_or, Bool.true_and, Bool.and_assoc]; done)
      | (exfalso; simp_all; done)
  refine g_ [6] ?_
  refine e_ Tryz.results91 ?_
  first
  | exact True.intro
  | first
    | (simp only [GI.ok, GI.noA, *, ↓reduceIte, Bool.false_eq_true, Bool.or_self, Bool.or_true, Bool.true_or, Bool.true_and, Bool.and_assoc]; done)
    | (exfalso; simp_all; done)
end Go.Proofs.YtmicbfojofcigaaGreatDoor
namespace Go.Proofs.YtmicbfojofcigaaGreatDoor
open Go Sg
set_option maxRecDepth 100000
set_option linter.unusedSimpArgs false
set_option linter.unusedVariables false
set_option linter.unusedSectionVars false
set_option maxHeartbeats 4000000
variable [ErrL]
theorem u64wrap (n : Int) (h : 0 ≤ n) (h1 : n < 18446744073709551616) : IntKind.u64.wrap n = n := by
  show n % 18446744073709551616 = n
  omega
@[go_sem high] theorem and32 (t : TypeId) (x y : Operand) (n : Int) (h : 0 ≤ n) (h1 : n < 4294967296) : binOpA Tryz.prog .and t x y (.int .u64 n) (.int .u64 4294967295) = some (.int .u64 n) := by
  rw [bin_and]
  have : (BitVec.ofInt IntKind.u64.bits n &&& BitVec.ofInt IntKind.u64.bits 4294967295).toNat = n.toNat := by
    show (BitVec.ofInt 64 n &&& BitVec.ofInt 64 4294967295).toNat = n.toNat
    have e : BitVec.ofInt 64 4294967295 = BitVec.ofNat 64 (2 ^ 32 - 1) := by decide
    rw [e, BitVec.toNat_and, BitVec.toNat_ofNat, BitVec.toNat_ofInt]
    have e2 : (2 ^ 32 - 1) % 2 ^ 64 = 2 ^ 32 - 1 := by decide
    rw [e2, Nat.and_two_pow_sub_one_eq_mod]
    omega
  rw [this, u64wrap _ (by omega) (by omega)]
  congr 2; omega
@[go_sem high] theorem shr32 (t : TypeId) (x y : Operand) (n : Int) (h : 0 ≤ n) (h1 : n < 4294967296) : binOpA Tryz.prog .shr t x y (.int .u64 n) (.int .u64 32) = some (.int .u64 0) := by
  rw [bin_shr]
  simp only [shiftA]
  rw [if_neg (by omega)]
  have : n.fdiv (2 ^ (min (32 : Int).toNat IntKind.u64.bits)) = 0 := by
    show n.fdiv (2 ^ 32) = 0
    rw [Int.fdiv_eq_ediv_of_nonneg _ (by decide)]
    omega
  rw [this]
theorem mul64_ok (n : Int) (h : 0 ≤ n) (h1 : n < 4294967296) : PureF Tryz.prog 155 [.int .u64 1, .int .u64 n] [.int .u64 0, .int .u64 n] := by
  refine pureF_of Tryz.func155 rfl Tryz.ntmps155 (by simp) T_ ?_
  intro f0 B Q hQ
  refine g_ [0,1] ?_
  refine n_ ?_
  refine wpM_regionK [0,1,6] rfl fun Q1 hQ1 => ?_
  simp -implicitDefEqProofs (disch := omega) only [go_sem, and32]
  refine hQ1 _ _ (S_ ?_);clear hQ1 Q1
  refine n_ ?_
  refine wpM_regionK [0,1,6,7] rfl fun Q1 hQ1 => ?_
  simp -implicitDefEqProofs (disch := omega) only [go_sem, shr32]
  refine hQ1 _ _ (S_ ?_);clear hQ1 Q1
  refine n_ ?_
  refine wpM_regionK [0,1,6,7,8] rfl fun Q1 hQ1 => ?_
  simp -implicitDefEqProofs (disch := omega) only [go_sem, and32]
  refine hQ1 _ _ (S_ ?_);clear hQ1 Q1
  refine n_ ?_
  refine wpM_regionK [0,1,6,7,8,9] rfl fun Q1 hQ1 => ?_
  simp -implicitDefEqProofs (disch := omega) only [go_sem, shr32]
  refine hQ1 _ _ (S_ ?_);clear hQ1 Q1
  refine n_ ?_
  refine wpM_regionK [0,1,6,7,8,9,10] rfl fun Q1 hQ1 => ?_
  simp -implicitDefEqProofs (disch := omega) only [go_sem, u64wrap, Int.one_mul]
  refine hQ1 _ _ (S_ ?_);clear hQ1 Q1
  refine n_ ?_
  refine wpM_regionK [0,1,6,7,9,11] rfl fun Q1 hQ1 => ?_
  simp -implicitDefEqProofs (disch := omega) only [go_sem, u64wrap, Int.zero_mul, shr32]
  refine hQ1 _ _ (S_ ?_);clear hQ1 Q1
  refine n_ ?_
  refine wpM_regionK [0,1,6,7,9,11,12] rfl fun Q1 hQ1 => ?_
  simp -implicitDefEqProofs (disch := omega) only [go_sem, and32]
  refine hQ1 _ _ (S_ ?_);clear hQ1 Q1
  refine n_ ?_
  refine wpM_regionK [0,1,6,7,9,12,13] rfl fun Q1 hQ1 => ?_
  simp -implicitDefEqProofs (disch := omega) only [go_sem, shr32]
  refine hQ1 _ _ (S_ ?_);clear hQ1 Q1
  refine n_ ?_
  refine wpM_regionK [0,1,7,9,12,13] rfl fun Q1 hQ1 => ?_
  simp -implicitDefEqProofs (disch := omega) only [go_sem, u64wrap, Int.mul_zero]
  refine hQ1 _ _ (S_ ?_);clear hQ1 Q1
  refine n_ ?_
  refine wpM_regionK [0,1,4] rfl fun Q1 hQ1 => ?_
  simp -implicitDefEqProofs (disch := omega) only [go_sem, u64wrap, Int.mul_zero, shr32]
  refine hQ1 _ _ (S_ ?_);clear hQ1 Q1
  refine n_ ?_
  refine wpM_regionK [4,5] rfl fun Q1 hQ1 => ?_
  simp -implicitDefEqProofs (disch := omega) only [go_sem, u64wrap, Int.one_mul]
  refine hQ1 _ _ (S_ ?_);clear hQ1 Q1
  exact e_ Tryz.results155 True.intro
theorem bmul_ok (n : Int) (h : 0 ≤ n) (h1 : n < 4294967296) : PureF Tryz.prog 119 [.int .u64 1, .int .u64 n] [.int .u64 0, .int .u64 n] := by
  refine pureF_of Tryz.func119 rfl Tryz.ntmps119 (by simp) T_ ?_
  intro f0 B Q hQ
  refine g_ [0,1] ?_
  refine c1_ ?_
  refine n_ ?_
  refine wpM_regionK [8,9] rfl fun Q1 hQ1 => ?_
  refine S_ ?_
  refine cp_ (mul64_ok n h h1) Tryz.call155 ?_
  refine hQ1 _ _ (S_ ?_);clear hQ1 Q1
  refine g_ [4,5] ?_
  exact e_ Tryz.results119 True.intro
def repL (L : List Int) (i k : Nat) : List Int := L.take i ++ L.take k ++ L.drop (i + k)
theorem repL_splice (L : List Int) (i k : Nat) (h : k ≤ L.length) : splice (ints L) i (List.take k (ints L)) = ints (repL L i k) := by
  have : (List.take k (ints L)).length = k := by simp [ints]; omega
  rw [splice, this]
  simp only [repL, ints, List.map_append, List.map_take, List.map_drop]
theorem repL_len (L : List Int) (i k : Nat) (h1 : k ≤ i) (h2 : i + k ≤ L.length) : (repL L i k).length = L.length := by simp [repL]; omega
theorem repL_take (L : List Int) (i k : Nat) (v : Int) (h1 : k ≤ i) (h2 : i + k ≤ L.length) (h : L.take i = List.replicate i v) : (repL L i k).take (i + k) = List.replicate (i + k) v := by
  have hk : L.take k = List.replicate k v := by
    have : L.take k = (L.take i).take k := by rw [List.take_take, Nat.min_eq_left h1]
    rw [this, h, List.take_replicate, Nat.min_eq_left h1]
  rw [repL, h, hk]
  rw [List.take_append_of_le_length (by simp)]
  rw [List.take_of_length_le (by simp), List.replicate_append_replicate]
theorem repeat_ok (id : Nat) (v : Int) (n : Nat) (h0 : 0 < n) (h1 : n ≤ 1000000) : CallF Tryz.prog 89 [.sl 3 id 0 1, .int .i64 (n : Nat)] [(id, .cells 3 [.int .i64 v])] 1 (fun ns o => ∃ z, ns = [z] ∧ o = { rs := [.sl 3 z 0 n], nw := [(z, .cells 3 (ints (List.replicate n v)))] }) := by
  refine callF_of' Tryz.func89 rfl Tryz.ntmps89 (by simp) ?_
  intro f0 B ns Q hB hns hQ
  have hid : id < B := hB id (by simp [hasKey, lk])
  obtain ⟨z, rfl⟩ : ∃ z, ns = [z] := by
    match ns, hns with
    | [x], _ => exact ⟨x, rfl⟩
  have hmin : min 1 n = 1 := by omega
  refine g_ [0,1] ?_
  refine g_ [0,1,10] ?_
  refine c_ (fun hc0 => ?_) fun hc0 => ?_
  · exfalso; omega
  refine n_ ?_
  refine wpM_regionK [0,5,6] rfl fun Q1 hQ1 => ?_
  simp -implicitDefEqProofs (disch := omega) only [go_sem, u64wrap]
  refine call_p (bmul_ok (n : Int) (by omega) (by omega)) Tryz.call119 rfl rfl rfl (by first | rfl | (simp -implicitDefEqProofs (disch := omega) only [go_sem] <;> rfl)) ?_
  simp -implicitDefEqProofs (disch := omega) only [go_sem, u64wrap]
  refine hQ1 _ _ (S_ ?_);clear hQ1 Q1
  refine gD_ [0,6,26] ?_
  refine c_ (fun hc1 => ?_) fun hc1 => ?_
  · exfalso; simp at hc1; omega
  refine n_ ?_
  refine wpM_regionK [0,7] rfl fun Q1 hQ1 => ?_
  simp -implicitDefEqProofs (disch := omega) only [go_sem, u64wrap]
  refine hQ1 _ _ (S_ ?_);clear hQ1 Q1
  refine n_ ?_
  refine wpM_regionK [7,8] rfl fun Q1 hQ1 => ?_
  simp -implicitDefEqProofs (disch := omega) only [go_sem, hmin, List.length_replicate]
  refine hQ1 _ _ (S_ ?_);clear hQ1 Q1
  rw [splice_ints _ _ _ (by simp; omega)]
  refine n_ ?_
  refine wpM_loopS (fun q k s' => ∃ (i : Nat) (L : List Int), k + i = n ∧ 0 < i ∧ L.length = n ∧ L.take i = List.replicate i v ∧ s' = { q with env := setE 8 (.int .i64 (i : Nat)) q.env, l := setl B (.cells 3 (ints L)) q.l }) (n - 1) ?_ ?_
  ·
    refine .of' _ _ ⟨1, (List.replicate n 0).set 0 v, by omega, by omega, by simp, ?_, rfl⟩ ?_ ?_ ?_
    · obtain ⟨n, rfl⟩ : ∃ k, n = k + 1 := ⟨n - 1, by omega⟩
      simp [List.replicate_succ]
    all_goals exact L_
  rintro k s' ⟨i, L, hk, hi, hL, ht, rfl⟩
  try refine S_ ?_
  refine g_ [7,8,37] ?_
  refine c_ (fun hc2 => ?_) fun hc2 => ?_
  ·
    refine n_ ?_
    refine dr_ mixed [7,8] 0 1 [B] [⟨[8],[],[],[],false⟩,⟨[7],[],[],[],false⟩,⟨[8],[],[],[],false⟩,⟨[39,40],[],[],[],false⟩,⟨[7],[],[],[],false⟩,⟨[8],[],[],[],false⟩,⟨[42,43],[],[],[],false⟩,⟨[41,44],[0],[0],[],false⟩,⟨[38,45],[],[],[],false⟩,⟨[46],[],[],[],false⟩] [0,1,2,3,4,5,6,7,8,9] [[],[],[],[1,2],[],[],[4,5],[1,2,3,4,5,6],[0,1,2,3,4,5,6,7],[0,1,2,3,4,5,6,7,8]] 1 ?_
    intro O A K hO hA hK;simp only [atL_cons,atL_nil,Nat.reduceAdd,Nat.zero_add] at hO hA
    refine SO_ ?_
    refine hK _ (S_ ?_);clear hK K hO hA O A
    obtain ⟨m, hm⟩ : ∃ m, m = min i (n - i) := ⟨_, rfl⟩
    rw [← hm]
    have hlt : i < n := by omega
    rw [repL_splice L i m (by omega)]
    refine .of' _ _ ⟨n - (i + m), by omega, i + m, repL L i m, by omega, by omega, by rw [repL_len L i m (by omega) (by omega), hL], repL_take L i m v (by omega) (by omega) ht, rfl⟩ ?_ ?_ ?_
    all_goals exact L_
  refine g_ [4] ?_
  refine wpM_ret ?_
  try refine S_ ?_
  have hin : i = n := by omega
  have hL2 : L = List.replicate n v := by rw [← hin, ← ht, hin, ← hL, List.take_length]
  rw [hL2]
  refine hQ _ _ (retK [B] [] [(z, .cells 3 (ints (List.replicate n v)))] rfl rfl rfl (by rw [Tryz.results89] <;> simp (maxSteps := 1000000) -implicitDefEqProofs (disch := omega) only [go_sem] <;> rfl) ?_ ⟨z, rfl, rfl⟩ ?_ ?_ ?_ ?_ ?_ ?_)
  all_goals (first | (simp -implicitDefEqProofs (disch := omega) only [go_sem, List.nodup_cons, List.nodup_nil, true_or, or_true, List.mem_cons, List.not_mem_nil, if_true, List.length_append]; done) | (simp -implicitDefEqProofs (disch := omega) only [go_sem, List.nodup_cons, List.nodup_nil, true_or, or_true, List.mem_cons, List.not_mem_nil, List.length_append]; first | rfl | omega))
end Go.Proofs.YtmicbfojofcigaaGreatDoor
namespace Go.Proofs.YtmicbfojofcigaaGreatDoor
open Go Sg
set_option maxRecDepth 100000
set_option linter.unusedSimpArgs false
set_option linter.unusedVariables false
set_option linter.unusedSectionVars false
set_option maxHeartbeats 4000000
variable [ErrL]
def tellL (L : List Int) (k : Nat) (n : Int) : List Int := if L.getD k 0 == -1 then L.set k n else L
def tellB (L : List Int) (k : Nat) (n : Int) : Bool := (tellL L k n).getD k 0 == n
theorem tellL_len (L : List Int) (k : Nat) (n : Int) : (tellL L k n).length = L.length := by
  unfold tellL; split <;> simp
def hfoot (h y : Nat) (L : List Int) : List (Nat × AObj) := [(h, .cells 31 [.sl 3 y 0 L.length]), (y, .cells 3 (ints L))]
@[go_sem] theorem hfoot_eq (h y : Nat) (L : List Int) : hfoot h y L = [(h, .cells 31 [.sl 3 y 0 L.length]), (y, .cells 3 (ints L))] := rfl
theorem tell_ok (h y : Nat) (hhy : h ≠ y) (L : List Int) (k : Nat) (hk : k < L.length) (n : Int) : CallF Tryz.prog 90 ([.int .i64 (k : Nat), .int .i64 n] ++ [.ptr h 0]) (hfoot h y L) 0 (fun _ o => o = { rs := [.bool (tellB L k n)], u := [(y, some (.cells 3 (ints (tellL L k n))))] }) := by
  refine callF_of' Tryz.func90 rfl Tryz.ntmps90 (by simp) ?_
  intro f0 B ns Q hB hns hQ
  have hh : h < B := hB h (by simp [hasKey, lk, hfoot])
  have hy : y < B := hB y (by simp [hasKey, lk, hfoot, hhy])
  obtain rfl : ns = [] := List.eq_nil_of_length_eq_zero hns
  refine g_ [0,1,2] ?_
  refine g_ [0,1,2,10] ?_
  refine c_ (fun hc0 => ?_) fun hc0 => ?_
  ·
    have hT : tellL L k n = L.set k n := by rw [tellL, if_pos hc0]
    have hk2 : k < (L.set k n).length := by simp; exact hk
    refine g_ [0,1,2] ?_
    refine g_ [5] ?_
    refine wpM_ret ?_
    try refine S_ ?_
    unfold tellB at hQ
    rw [hT] at hQ
    refine hQ _ _ (ret0 [(y, some (.cells 3 (ints _)))] rfl rfl rfl (by rw [Tryz.results90] <;> simp (maxSteps := 1000000) -implicitDefEqProofs (disch := omega) only [go_sem] <;> rfl) rfl ?_ ?_ ?_ ?_)
    all_goals simp -implicitDefEqProofs (disch := omega) only [go_sem, true_or, or_true]
  have hT : tellL L k n = L := by rw [tellL, if_neg (by rw [hc0]; simp)]
  refine g_ [5] ?_
  refine wpM_ret ?_
  try refine S_ ?_
  unfold tellB at hQ
  rw [hT] at hQ
  refine hQ _ _ (ret0 [(y, some (.cells 3 (ints _)))] rfl rfl rfl (by rw [Tryz.results90] <;> simp (maxSteps := 1000000) -implicitDefEqProofs (disch := omega) only [go_sem] <;> rfl) rfl ?_ ?_ ?_ ?_)
  all_goals simp -implicitDefEqProofs (disch := omega) only [go_sem, true_or, or_true]
def tD (i : GI) (L : List Int) (k : Nat) : Int := L.getD k 0 - i.takes + i.gives
def L1D (i : GI) (L : List Int) (t : Int) : List Int := if !decide (t > 12) && i.goes then tellL L i.n.toNat t else L
def bad1D (i : GI) (L : List Int) (t : Int) : Bool := decide (t > 12) || i.goes && !tellB L i.n.toNat t
def L2D (i : GI) (L : List Int) (k : Nat) (t : Int) : List Int := if !bad1D i L t && i.follows then tellL (L1D i L t) (k + 1) t else L1D i L t
def bad0D (i : GI) (n : Int) (L : List Int) (k : Nat) : Bool := !i.ok k n || L.getD k 0 == -1 || decide (L.getD k 0 < i.takes)
def bad2D (i : GI) (L : List Int) (k : Nat) (t : Int) : Bool := bad1D i L t || i.follows && !tellB (L1D i L t) (k + 1) t
def stepI (i : GI) (n : Int) (L : List Int) (k : Nat) : Option (List Int) := if bad0D i n L k then none else if bad2D i L k (tD i L k) then none else some (L2D i L k (tD i L k))
def stepD (p : List GI) (L : List Int) (k : Nat) : Option (List Int) := stepI (p.getD k default) p.length L k
def runD' (p : List GI) : Nat → Option (List Int)
  | 0 => some ((List.replicate (p.length + 1) (-1)).set 0 0)
  | k + 1 => match runD' p k with
    | some L => stepD p L k
    | none => none
def depthsF (p : List GI) : Option (List Int) := if (p.length : Int) > 400 then none else runD' p p.length
theorem runD_none {p : List GI} {k : Nat} (h : runD' p k = none) : ∀ n, runD' p (k + n) = none
  | 0 => h
  | n + 1 => by rw [← Nat.add_assoc, runD', runD_none h n]
def depV (p : List GI) : List Int × Bool := match depthsF p with
  | some L => (L, L.getD p.length 0 == 0)
  | none => ([], false)
theorem goes_in {i : GI} {k n : Nat} (hk : k < n) (h : i.ok k n = true) (hg : i.goes = true) : 0 ≤ i.n ∧ i.n.toNat < n + 1 := by
  unfold GI.goes at hg
  unfold GI.ok at h
  simp only [Bool.or_eq_true, beq_iff_eq] at hg
  rcases hg with (hg | hg) | hg <;> rw [hg] at h <;> simp at h <;> omega
theorem L1D_len (i : GI) (L : List Int) (t : Int) : (L1D i L t).length = L.length := by
  unfold L1D; split <;> simp [tellL_len]
theorem L2D_len (i : GI) (L : List Int) (k : Nat) (t : Int) : (L2D i L k t).length = L.length := by
  unfold L2D; split <;> simp [tellL_len, L1D_len]
theorem stepD_len {p : List GI} {L L' : List Int} {k : Nat} (h : stepD p L k = some L') : L'.length = L.length := by
  unfold stepD stepI at h
  split at h
  · cases h
  · split at h
    · cases h
    · injection h with h; subst h
      exact L2D_len _ _ _ _
def Bnd (L : List Int) : Prop := ∀ j, -1 ≤ L.getD j 0 ∧ L.getD j 0 ≤ 12
theorem Bnd.set {L : List Int} (h : Bnd L) (k : Nat) (v : Int) (h0 : -1 ≤ v) (h1 : v ≤ 12) : Bnd (L.set k v) := by
  intro j
  simp only [List.getD, List.getElem?_set]
  split
  · split
    · exact ⟨h0, h1⟩
    · simp
  · exact h j
theorem Bnd.tell {L : List Int} (h : Bnd L) (k : Nat) (v : Int) (h0 : -1 ≤ v) (h1 : v ≤ 12) : Bnd (tellL L k v) := by
  unfold tellL; split
  · exact h.set k v h0 h1
  · exact h
theorem Bnd.l2 {i : GI} {L : List Int} (h : Bnd L) {k : Nat} {t : Int} (h0 : -1 ≤ t) (h1 : t ≤ 12) : Bnd (L2D i L k t) := by
  have hl : Bnd (L1D i L t) := by
    unfold L1D; split
    · exact h.tell _ _ h0 h1
    · exact h
  unfold L2D; split
  · exact hl.tell _ _ h0 h1
  · exact hl
theorem Bnd.first (n : Nat) : Bnd ((List.replicate n (-1 : Int)).set 0 0) := by
  refine Bnd.set (fun j => ?_) 0 0 (by omega) (by omega)
  simp only [List.getD, List.getElem?_replicate]
  split <;> simp
theorem takes_in (i : GI) : 0 ≤ i.takes ∧ i.takes ≤ 2 := by unfold GI.takes; split <;> (try split) <;> omega
theorem gives_in (i : GI) : 0 ≤ i.gives ∧ i.gives ≤ 1 := by unfold GI.gives; split <;> omega
def repI (n : Nat) (v : Int) : List Int := List.replicate n v
theorem repI_len (n : Nat) (v : Int) : (repI n v).length = n := List.length_replicate
theorem repeat_ok' (id : Nat) (v : Int) (n : Nat) (h0 : 0 < n) (h1 : n ≤ 1000000) : CallF Tryz.prog 89 [.sl 3 id 0 1, .int .i64 (n : Nat)] [(id, .cells 3 [.int .i64 v])] 1 (fun ns o => ∃ z, ns = [z] ∧ o = { rs := [.sl 3 z 0 n], nw := [(z, .cells 3 (ints (repI n v)))] }) := repeat_ok id v n h0 h1
theorem depths_ok (p : List GI) (hp : p.length ≤ 1099511627776) : PureF Tryz.prog 50 [.rows 81 (insR p)] [.rows 3 (rowsI (depV p).1), .bool (depV p).2] := by
  refine pureF_of Tryz.func50 rfl Tryz.ntmps50 (by simp) T_ ?_
  intro f0 B Q hQ
  refine g_ [0] ?_
  refine g_ [0,11] ?_
  refine c_ (fun hc0 => ?_) fun hc0 => ?_
  ·
    refine g_ [2,3] ?_
    have hcs : depV p = ([], false) := by rw [depV, depthsF, if_pos hc0]
    refine wpM_le [(2, .rows 3 []), (3, .bool false)] [] T_ T_ T_ ?_
    refine e_ Tryz.results50 ?_
    first
    | exact True.intro
    | rw [hcs]
      exact ⟨rfl, rfl⟩
  refine n_ ?_
  refine wpM_regionK [0,4] rfl fun Q1 hQ1 => ?_
  refine S_ ?_
  refine call_fn (l := [(B, .cells 3 [.int .i64 (-1)])]) (first := []) (cap := []) (ps := [.sl 3 B 0 1, .int .i64 ((p.length + 1 : Nat) : Int)]) (repeat_ok' B (-1) (p.length + 1) (by omega) (by omega)) Tryz.call89 rfl rfl rfl G_ T_ ?_
  rintro out ⟨z', ⟨⟩, rfl⟩
  refine S_ ?_
  refine hQ1 _ _ (S_ ?_);clear hQ1 Q1
  refine n_ ?_
  have hD : depthsF p = runD' p p.length := by rw [depthsF, if_neg hc0]
  have hr0 : (repI (p.length + 1) (-1 : Int)).length = p.length + 1 := repI_len _ _
  have hr1 : runD' p 0 = some ((repI (p.length + 1) (-1)).set 0 0) := rfl
  have hr3 : Bnd ((repI (p.length + 1) (-1)).set 0 0) := Bnd.first _
  generalize hR : repI (p.length + 1) (-1 : Int) = R at *
  clear hR
  refine g_ [0,4] ?_
  refine g_ [0,4,5] ?_
  refine g_ [0,4,5,20,21,22] ?_
  refine n_ ?_
  refine wpM_loopS (fun q n s' => ∃ (i M : Nat) (L : List Int), i + n = p.length ∧ B + 3 ≤ M ∧ runD' p i = some L ∧ L.length = p.length + 1 ∧ Bnd L ∧ s' = { q with env := setE 22 (.int .i64 (i : Nat)) q.env, l := hfoot (B + 2) (B + 1) L, M := M }) (p.length) ?_ ?_
  ·
    have hr2 : (R.set 0 0).length = p.length + 1 := by rw [List.length_set, hr0]
    refine .of' _ _ ⟨0, _, R.set 0 0, by omega, Nat.le_refl _, hr1, hr2, hr3, rfl⟩ ?_ ?_ ?_
    all_goals (try simp only [hfoot_eq, hr2])
    all_goals exact L_
  rintro n s' ⟨i, M, L, hi, hM, hrun, hL, hbn, rfl⟩
  try refine S_ ?_
  refine g_ [0,4,5,20,21,22,23] ?_
  refine c_ (fun hc1 => ?_) fun hc1 => ?_
  ·
    have hi2 : i < p.length := by omega
    have hst : runD' p (i + 1) = stepI (p.getD i default) p.length L i := by rw [runD', hrun]; rfl
    refine g_ [0,4,5,6,7,20,21,22] ?_
    generalize hI : p.getD i default = I at *
    refine n_ ?_
    refine dr_ mixed [0,4,5,6,7,20,21,22,48] 0 3 [B + 2, B + 1, M] [⟨[7],[2],[],[],false⟩,⟨[6],[],[],[],false⟩,⟨[0],[],[],[],false⟩,⟨[29],[],[],[],false⟩,⟨[27,28,30],[],[],[],true⟩,⟨[31],[],[],[],false⟩,⟨[32],[],[],[],false⟩,⟨[4,33],[0],[],[],false⟩,⟨[6,33],[],[],[],false⟩,⟨[33,34,35],[],[],[],false⟩,⟨[33,36],[1],[],[],false⟩,⟨[33,37],[],[],[],false⟩,⟨[33,38],[],[],[],false⟩,⟨[39],[],[],[],false⟩,⟨[4,40],[0],[],[],false⟩,⟨[6,40],[],[],[],false⟩,⟨[40,41,42],[],[],[],false⟩,⟨[40,43],[1],[],[],false⟩,⟨[7,40],[2],[],[],false⟩,⟨[40,45],[],[],[],true⟩,⟨[40,44,46],[],[],[],false⟩,⟨[40,47],[],[],[],false⟩] [0,1,2,3,4,5,6,7,8,9,10,11,12,13,14,15,16,17,18,19,20,21] [[],[],[],[2],[0,1,2,3],[0,1,2,3,4],[0,1,2,3,4,5],[0,1,2,3,4,5,6],[0,1,2,3,4,5,6],[0,1,2,3,4,5,6,7,8],[0,1,2,3,4,5,6,7,8,9],[0,1,2,3,4,5,6,7,8,9,10],[0,1,2,3,4,5,6,7,8,9,10,11],[0,1,2,3,4,5,6,7,8,9,10,11,12],[0,1,2,3,4,5,6,7,8,9,10,11,12,13],[0,1,2,3,4,5,6,7,8,9,10,11,12,13],[0,1,2,3,4,5,6,7,8,9,10,11,12,13,14,15],[0,1,2,3,4,5,6,7,8,9,10,11,12,13,14,15,16],[0,1,2,3,4,5,6,7,8,9,10,11,12,13],[0,1,2,3,4,5,6,7,8,9,10,11,12,13,18],[0,1,2,3,4,5,6,7,8,9,10,11,12,13,14,15,16,17,18,19],[0,1,2,3,4,5,6,7,8,9,10,11,12,13,14,15,16,17,18,19,20]] 3 (htbl := by simp; omega) (hnm := by simp) ?_
    intro O A K hO hA hK;simp only [atL_cons,atL_nil,Nat.reduceAdd,Nat.zero_add] at hO hA
    refine SE_ ?_
    refine lpE_ (insOk_ok I (i : Nat) (p.length : Nat)) Tryz.call91 ?_
    first | refine lg_ (fun hb => takes_ok I) Tryz.call92 ?_ | refine lpE_ (takes_ok I) Tryz.call92 ?_
    refine hK _ (S_ ?_);clear hK K hO hA O A
    refine c_ (fun hc2 => ?_) fun hc2 => ?_
    ·
      refine g_ [2,3] ?_
      have hcs : depV p = ([], false) := by
        have hn : runD' p (i + 1) = none := by rw [hst, stepI, if_pos (show bad0D I p.length L i = true from hc2)]
        have := runD_none hn (p.length - (i + 1))
        rw [show i + 1 + (p.length - (i + 1)) = p.length by omega] at this
        rw [depV, hD, this]
      refine wpM_le [(2, .rows 3 []), (3, .bool false)] [] T_ T_ T_ ?_
      refine e_ Tryz.results50 ?_
      first
      | exact True.intro
      | rw [hcs]
        exact ⟨rfl, rfl⟩
    have hb0 : bad0D I p.length L i = false := hc2
    have hbi := hbn i
    have htk := takes_in I
    have hgv := gives_in I
    have hb1 := hb0
    simp only [bad0D, Bool.or_eq_false_iff, Bool.not_eq_false', beq_eq_false_iff_ne, decide_eq_false_iff_not] at hb1
    obtain ⟨⟨hiok, hne⟩, hge⟩ := hb1
    have hgo : I.goes = true → 0 ≤ I.n ∧ I.n.toNat < L.length := fun h => by
      have := goes_in (n := p.length) hi2 hiok h
      omega
    refine n_ ?_
    refine dr_ mixed [0,4,5,6,7,8,20,21,22] 0 3 [B + 2, B + 1, M] [⟨[4],[0],[],[],false⟩,⟨[6],[],[],[],false⟩,⟨[49,50],[],[],[],false⟩,⟨[51],[1],[],[],false⟩,⟨[7],[2],[],[],false⟩,⟨[53],[],[],[],true⟩,⟨[52,54],[],[],[],false⟩,⟨[7],[2],[],[],false⟩,⟨[56],[],[],[],true⟩,⟨[55,57],[],[],[],false⟩,⟨[58],[],[],[],false⟩] [0,1,2,3,4,7,5,6,8,9,10] [[],[],[0,1],[0,1,2],[],[4],[0,1,2,3,4,5],[],[4,5,7],[0,1,2,3,4,5,6,7,8],[0,1,2,3,4,5,6,7,8,9]] 3 (htbl := by simp; omega) (hnm := by simp) ?_
    intro O A K hO hA hK;simp only [atL_cons,atL_nil,Nat.reduceAdd,Nat.zero_add] at hO hA
    refine SO_ ?_
    refine lp_ (takes_ok I) Tryz.call92 ?_
    refine lp_ (gives_ok I) Tryz.call93 ?_
    refine hK _ (S_ ?_);clear hK K hO hA O A
    have ht : L.getD i 0 - I.takes + I.gives = tD I L i := rfl
    rw [ht]
    refine n_ ?_
    refine wpM_regionK [0,4,5,20,21,22,84] rfl fun Q1 hQ1 => ?_
    refine SD_ ?_
    first | refine cg_ (fun hb => goes_ok I) Tryz.call94 ?_ | refine cpD_ (goes_ok I) Tryz.call94 ?_
    refine callG_u (B + 1) 3 (ints L) (ints (tellL L I.n.toNat (tD I L i))) (ints (L1D I L (tD I L i))) (cap := [.ptr (B + 2) 0]) (args := [.int .i64 ((I.n.toNat : Nat) : Int), .int .i64 (tD I L i)]) (lf := hfoot (B + 2) (B + 1) L) (fun hb => tell_ok (B + 2) (B + 1) (by omega) L I.n.toNat (hgo (Bool.and_eq_true_iff.1 hb).2).2 (tD I L i)) Tryz.call90 (fun hb => by rw [L1D, if_pos hb]) (fun hb => by rw [L1D, if_neg (by rw [hb]; simp)]) T_ (fun hb => by simp -implicitDefEqProofs (disch := omega) only [go_sem]) rfl rfl (fun hb => by simp -implicitDefEqProofs (disch := omega) only [go_sem, hb, gd_of hb]) (fun hb => ?_) ?_
    · have hn0 := (hgo (Bool.and_eq_true_iff.1 hb).2).1
      have hn1 : ((I.n.toNat : Nat) : Int) = I.n := by omega
      simp -implicitDefEqProofs (disch := omega) only [go_sem, hb, gd_of hb, hn1]
    refine SD_ ?_
    first | refine cg_ (fun hb => follows_ok I) Tryz.call95 ?_ | refine cpD_ (follows_ok I) Tryz.call95 ?_
    have hl1 := L1D_len I L (tD I L i)
    refine callG_u (B + 1) 3 (ints (L1D I L (tD I L i))) (ints (tellL (L1D I L (tD I L i)) (i + 1) (tD I L i))) (ints (L2D I L i (tD I L i))) (cap := [.ptr (B + 2) 0]) (args := [.int .i64 ((i + 1 : Nat) : Int), .int .i64 (tD I L i)]) (lf := hfoot (B + 2) (B + 1) (L1D I L (tD I L i))) (fun hb => tell_ok (B + 2) (B + 1) (by omega) (L1D I L (tD I L i)) (i + 1) (by omega) (tD I L i)) Tryz.call90 (fun hb => by rw [L2D, if_pos (show (!bad1D I L (tD I L i) && I.follows) = true from hb)]) (fun hb => by rw [L2D, if_neg (by rw [show (!bad1D I L (tD I L i) && I.follows) = false from hb]; simp)]) T_ (fun hb => by simp -implicitDefEqProofs (disch := omega) only [go_sem, hl1]) rfl rfl (fun hb => by simp -implicitDefEqProofs (disch := omega) only [go_sem, hb, gd_of hb]) (fun hb => by simp -implicitDefEqProofs (disch := omega) only [go_sem, hb, gd_of hb] <;> rfl) ?_
    refine SD_ ?_
    refine hQ1 _ _ (S_ ?_);clear hQ1 Q1
    refine c_ (fun hc3 => ?_) fun hc3 => ?_
    ·
      refine g_ [2,3] ?_
      have hcs : depV p = ([], false) := by
        have hn : runD' p (i + 1) = none := by rw [hst, stepI, if_neg (by rw [hb0]; simp), if_pos (show bad2D I L i (tD I L i) = true from hc3)]
        have := runD_none hn (p.length - (i + 1))
        rw [show i + 1 + (p.length - (i + 1)) = p.length by omega] at this
        rw [depV, hD, this]
      refine wpM_le [(2, .rows 3 []), (3, .bool false)] [] T_ T_ T_ ?_
      refine e_ Tryz.results50 ?_
      first
      | exact True.intro
      | rw [hcs]
        exact ⟨rfl, rfl⟩
    refine g_ [0,4,5,20,21,22] ?_
    have hb2 : bad2D I L i (tD I L i) = false := hc3
    have hrun2 : runD' p (i + 1) = some (L2D I L i (tD I L i)) := by rw [hst, stepI, if_neg (by rw [hb0]; simp), if_neg (by rw [hb2]; simp)]
    have hl2 := L2D_len I L i (tD I L i)
    have ht12 : tD I L i ≤ 12 := by
      simp only [bad2D, bad1D, Bool.or_eq_false_iff, decide_eq_false_iff_not] at hb2
      omega
    have ht0 : -1 ≤ tD I L i := by unfold tD; omega
    refine .of' _ _ ⟨n - 1, by omega, i + 1, _, L2D I L i (tD I L i), by omega, M_, hrun2, by omega, hbn.l2 ht0 ht12, rfl⟩ ?_ ?_ ?_
    all_goals (try simp only [hfoot_eq, hl2])
    all_goals exact L_
  refine n_ ?_
  obtain rfl : i = p.length := by omega
  refine dr_ mixed [2,3] 0 2 [B + 2, B + 1] [⟨[4],[0],[],[],false⟩,⟨[4],[0],[],[],false⟩,⟨[0],[],[],[],false⟩,⟨[88],[],[],[],false⟩,⟨[87,89],[],[],[],false⟩,⟨[90],[1],[],[],false⟩,⟨[91],[],[],[],false⟩,⟨[86],[],[],[],false⟩,⟨[92],[],[],[],false⟩] [0,1,2,3,4,5,6,7,8] [[],[],[],[2],[1,2,3],[1,2,3,4],[1,2,3,4,5],[0],[0,1,2,3,4,5,6,7]] 2 ?_
  intro O A K hO hA hK;simp only [atL_cons,atL_nil,Nat.reduceAdd,Nat.zero_add] at hO hA
  refine SO_ ?_
  refine hK _ (S_ ?_);clear hK K hO hA O A
  have hcs : depV p = (L, L.getD p.length 0 == 0) := by rw [depV, hD, hrun]
  refine wpM_frz [B + 1] [(3, B + 1, 0, L.length, rowsI L)] (by intro q hq; simp at hq; subst hq; simp -implicitDefEqProofs (disch := omega) only [go_sem]) (by intro q hq; simp only [List.mem_cons, List.not_mem_nil, or_false] at hq; subst hq; exact ⟨by simp, rowsOf_ints' (T := 3) T_ rfl⟩) ?_
  refine S_ ?_
  refine e_ Tryz.results50 ?_
  first
  | exact True.intro
  | rw [hcs]
    exact ⟨rfl, rfl⟩
def okC (p : List GI) : Bool := (depV p).2
theorem icodeOk_ok (p : List GI) (hp : p.length ≤ 1099511627776) : PureF Tryz.prog 22 [.rows 81 (insR p)] [.bool (okC p)] := by
  refine pureF_of Tryz.func22 rfl Tryz.ntmps22 (by simp) T_ ?_
  intro f0 B Q hQ
  refine g_ [0] ?_
  refine n_ ?_
  refine wpM_regionK [4] rfl fun Q1 hQ1 => ?_
  refine S_ ?_
  refine cp_ (depths_ok p hp) Tryz.call50 ?_
  refine hQ1 _ _ (S_ ?_);clear hQ1 Q1
  refine g_ [2] ?_
  refine e_ Tryz.results22 ?_
  first
  | exact True.intro
  | rfl
end Go.Proofs.YtmicbfojofcigaaGreatDoor
namespace Go.Proofs.YtmicbfojofcigaaGreatDoor
open Go Sg
set_option maxRecDepth 100000
set_option linter.unusedSimpArgs false
set_option linter.unusedVariables false
set_option linter.unusedSectionVars false
set_option maxHeartbeats 4000000
variable [ErrL]
def actW (f : PV) : PV := .fn (.func 124) [] [.vptr [f]]
def actV (i : GI) : PV :=
  if i.op == 1 then actW (.fn (.func 125) [] [.vptr i.cs])
  else if i.op == 2 then actW (.fn (.func 127) [] [.vptr i.cs])
  else if i.op == 3 then actW (.fn (.func 129) [] [.vptr i.cs])
  else if i.op == 4 then actW (.fn (.func 132) [] [.vptr i.cs])
  else if i.op == 5 then actW (.fn (.func 134) [] [])
  else if i.op == 6 then actW (.fn (.func 137) [] [.vptr i.cs])
  else if i.op == 7 then actW (.fn (.func 138) [] [.vptr i.cs])
  else .fn (.func 139) [] [.vptr i.cs]
theorem actV_pure (i : GI) : (actV i).pure = true := by
  unfold actV actW
  repeat' split
  all_goals rfl
theorem actV_cell (i : GI) : (actV i).cell = true := by
  unfold actV actW
  repeat' split
  all_goals rfl
theorem act1_ok (k : FuncId) (c : List PV) (hc : PV.pureL c = true) : PureF Tryz.prog 123 [.fn (.func k) [] c] [actW (.fn (.func k) [] c)] := by
  refine pureF_of Tryz.func123 rfl Tryz.ntmps123 (by simp) (by simp [PV.pureL, actW, PV.pure]) ?_
  intro f0 B Q hQ
  refine g_ [1] ?_
  refine wpM_fzp B 173 [.fn (.func k) [] c] T_ T_ (by simp -implicitDefEqProofs (disch := omega) only [go_sem, hc]) T_ ?_
  refine S_ ?_
  refine g_ [2] ?_
  refine e_ Tryz.results123 ?_
  first
  | exact True.intro
  | rfl
theorem act_ok (i : GI) : PureF Tryz.prog 96 [.agg i.cs] [actV i] := by
  refine pureF_of Tryz.func96 rfl Tryz.ntmps96 (by simp) (by simp [PV.pureL, actV_pure]) ?_
  intro f0 B Q hQ
  refine g_ [1] ?_
  refine n_ ?_
  refine wpM_fzp B 81 i.cs T_ T_ T_ T_ ?_
  refine S_ ?_
  refine g_ [1,3] ?_
  refine g_ [1,3,5] ?_
  refine g_ [1,3,5,6] ?_
  refine c_ (fun hc0 => ?_) fun hc0 => ?_
  ·
    refine n_ ?_
    refine wpM_regionK [2] rfl fun Q1 hQ1 => ?_
    refine S_ ?_
    refine call_p (act1_ok 125 [.vptr i.cs] rfl) Tryz.call123 rfl rfl T_ F_ ?_
    refine S_ ?_
    refine hQ1 _ _ (S_ ?_);clear hQ1 Q1
    refine e_ Tryz.results96 ?_
    first
    | exact True.intro
    | simp only [actV, *, ↓reduceIte, Bool.false_eq_true]
      try rfl
  refine g_ [1,3,5,11] ?_
  refine c_ (fun hc1 => ?_) fun hc1 => ?_
  ·
    refine n_ ?_
    refine wpM_regionK [2] rfl fun Q1 hQ1 => ?_
    refine S_ ?_
    refine call_p (act1_ok 127 [.vptr i.cs] rfl) Tryz.call123 rfl rfl T_ F_ ?_
    refine S_ ?_
    refine hQ1 _ _ (S_ ?_);clear hQ1 Q1
    refine e_ Tryz.results96 ?_
    first
    | exact True.intro
    | simp only [actV, *, ↓reduceIte, Bool.false_eq_true]
      try rfl
  refine g_ [1,3,5,16] ?_
  refine c_ (fun hc2 => ?_) fun hc2 => ?_
  ·
    refine n_ ?_
    refine wpM_regionK [2] rfl fun Q1 hQ1 => ?_
    refine S_ ?_
    refine call_p (act1_ok 129 [.vptr i.cs] rfl) Tryz.call123 rfl rfl T_ F_ ?_
    refine S_ ?_
    refine hQ1 _ _ (S_ ?_);clear hQ1 Q1
    refine e_ Tryz.results96 ?_
    first
    | exact True.intro
    | simp only [actV, *, ↓reduceIte, Bool.false_eq_true]
      try rfl
  refine g_ [1,3,5,21] ?_
  refine c_ (fun hc3 => ?_) fun hc3 => ?_
  ·
    refine n_ ?_
    refine wpM_regionK [2] rfl fun Q1 hQ1 => ?_
    refine S_ ?_
    refine call_p (act1_ok 132 [.vptr i.cs] rfl) Tryz.call123 rfl rfl T_ F_ ?_
    refine S_ ?_
    refine hQ1 _ _ (S_ ?_);clear hQ1 Q1
    refine e_ Tryz.results96 ?_
    first
    | exact True.intro
    | simp only [actV, *, ↓reduceIte, Bool.false_eq_true]
      try rfl
  refine g_ [1,3,5,26] ?_
  refine c_ (fun hc4 => ?_) fun hc4 => ?_
  ·
    refine n_ ?_
    refine wpM_regionK [2] rfl fun Q1 hQ1 => ?_
    refine S_ ?_
    refine call_p (act1_ok 134 [] rfl) Tryz.call123 rfl rfl T_ F_ ?_
    refine S_ ?_
    refine hQ1 _ _ (S_ ?_);clear hQ1 Q1
    refine e_ Tryz.results96 ?_
    first
    | exact True.intro
    | simp only [actV, *, ↓reduceIte, Bool.false_eq_true]
      try rfl
  refine g_ [1,3,5,30] ?_
  refine c_ (fun hc5 => ?_) fun hc5 => ?_
  ·
    refine n_ ?_
    refine wpM_regionK [2] rfl fun Q1 hQ1 => ?_
    refine S_ ?_
    refine call_p (act1_ok 137 [.vptr i.cs] rfl) Tryz.call123 rfl rfl T_ F_ ?_
    refine S_ ?_
    refine hQ1 _ _ (S_ ?_);clear hQ1 Q1
    refine e_ Tryz.results96 ?_
    first
    | exact True.intro
    | simp only [actV, *, ↓reduceIte, Bool.false_eq_true]
      try rfl
  refine g_ [1,3,35] ?_
  refine c_ (fun hc6 => ?_) fun hc6 => ?_
  ·
    refine n_ ?_
    refine wpM_regionK [2] rfl fun Q1 hQ1 => ?_
    refine S_ ?_
    refine call_p (act1_ok 138 [.vptr i.cs] rfl) Tryz.call123 rfl rfl T_ F_ ?_
    refine S_ ?_
    refine hQ1 _ _ (S_ ?_);clear hQ1 Q1
    refine e_ Tryz.results96 ?_
    first
    | exact True.intro
    | simp only [actV, *, ↓reduceIte, Bool.false_eq_true]
      try rfl
  refine g_ [2] ?_
  refine e_ Tryz.results96 ?_
  first
  | exact True.intro
  | simp only [actV, *, ↓reduceIte, Bool.false_eq_true]
    try rfl
def actF (i : GI) : FuncId := if i.op == 1 || i.op == 2 || i.op == 3 || i.op == 4 || i.op == 5 || i.op == 6 || i.op == 7 then 124 else 139
def actCap (i : GI) : List PV := match actV i with
  | .fn _ _ c => c
  | _ => []
theorem actV_eq (i : GI) : actV i = .fn (.func (actF i)) [] (actCap i) := by
  unfold actCap actF actV actW
  cases h1 : i.op == 1 <;> cases h2 : i.op == 2 <;> cases h3 : i.op == 3 <;> cases h4 : i.op == 4 <;> cases h5 : i.op == 5 <;> cases h6 : i.op == 6 <;> cases h7 : i.op == 7 <;> rfl
def actR (p : List GI) : List (List PV) := p.map fun i => [actV i]
@[go_sem] theorem actR_len (p : List GI) : (actR p).length = p.length := by simp [actR]
@[go_sem] theorem actR_get (p : List GI) (k : Nat) (h : k < p.length) : (actR p).getD k [] = [actV (p.getD k default)] := by simp [actR, List.getD, h]
def actC (p : List GI) : List PV := p.map actV
theorem actR_flat (p : List GI) : (actR p).flatten = actC p := by
  induction p with
  | nil => rfl
  | cons x p ih => simp only [actR, actC, List.map_cons, List.flatten_cons] at ih ⊢; rw [ih]; rfl
@[go_sem] theorem actC_nil : actC [] = [] := rfl
@[go_sem] theorem actC_len (p : List GI) : (actC p).length = p.length := by simp [actC]
theorem actC_snoc (p : List GI) (i : GI) : actC p ++ [PV.fn (.func (actF i)) [] (actCap i)] = actC (p ++ [i]) := by simp [actC, ← actV_eq]
theorem actV_cell' (i : GI) : (actV i).cell = true := actV_cell i
theorem actV_cells (i : GI) : (actV i).cellsOf = [actV i] := by
  unfold actV actW
  repeat' split
  all_goals rfl
theorem actV_whole (i : GI) : (actV i).whole = true := by
  unfold actV actW
  repeat' split
  all_goals rfl
theorem rowsOf_actC {f : Nat → Option AObj} {id n : Nat} {T : TypeId} {p : List GI} (h : f id = some (.cells T (actC p))) (hn : p.length = n) : RowsOf Tryz.prog f 92 id 0 n (actR p) := by
  subst hn
  refine ⟨by rw [cellsOf92]; omega, by simp [actR], ?_, T, _, h, ?_, ?_⟩
  · intro c hc
    simp only [actR, List.mem_map] at hc
    obtain ⟨x, _, rfl⟩ := hc
    rw [cellsOf92]; exact ⟨rfl, by simp [PV.pureL, actV_pure]⟩
  · rw [cellsOf92, actC_len]; omega
  · rw [cellsOf92, actR_flat, List.drop_zero, List.take_of_length_le (by rw [actC_len]; omega)]
theorem actC_cell (p : List GI) : (actC p).all PV.cell = true := by
  simp [actC, actV_cell]
theorem acts_ok (p : List GI) (hp : p.length ≤ 1000000) : PureF Tryz.prog 51 [.rows 81 (insR p)] [.rows 92 (actR p)] := by
  refine pureF_of Tryz.func51 rfl Tryz.ntmps51 (by simp) T_ ?_
  intro f0 B Q hQ
  refine g_ [0] ?_
  refine g_ [0,3] ?_
  refine n_ ?_
  refine wpM_nil 92 [(0, .rows 81 (insR p)), (3, .sl 92 B 0 0)] [] T_ T_ T_ ?_
  refine S_ ?_
  refine g_ [3,6,7,8] ?_
  refine n_ ?_
  refine wpM_loopS (fun q n s' => ∃ (i M Y : Nat), i + n = p.length ∧ B ≤ Y ∧ Y < M ∧ s' = { q with env := setE 8 (.int .i64 (i : Nat)) (setE 3 (.sl 92 Y 0 i) q.env), l := [(Y, .cells 92 (actC (p.take i)))], M := M }) (p.length) ?_ ?_
  ·
    refine .of' _ _ ⟨0, _, B, by omega, Nat.le_refl _, Nat.lt_succ_self _, rfl⟩ ?_ ?_ ?_
    all_goals exact L_
  rintro n s' ⟨i, M, Y, hi, hBY, hYM, rfl⟩
  try refine S_ ?_
  refine g_ [3,6,7,8,9] ?_
  refine c_ (fun hc0 => ?_) fun hc0 => ?_
  ·
    have hi2 : i < p.length := by omega
    have htl : (p.take i).length = i := by simp; omega
    have htk : actC (p.take (i + 1)) = actC (p.take i ++ [p.getD i default]) := by
      rw [List.take_succ_eq_append_getElem hi2]; simp [List.getD, hi2]
    refine g_ [3,5,6,7,8] ?_
    refine wpM_regionK [3,6,7,8] rfl fun Q1 hQ1 => ?_
    simp -implicitDefEqProofs (disch := omega) only [go_sem, htl, actV_eq, actC_snoc]
    refine call_p (act_ok (p.getD i default)) Tryz.call96 rfl rfl rfl (by first | rfl | (simp -implicitDefEqProofs (disch := omega) only [go_sem] <;> rfl)) ?_
    simp -implicitDefEqProofs (disch := omega) only [go_sem, htl, actV_eq, actC_snoc]
    refine hQ1 _ _ (S_ ?_);clear hQ1 Q1
    refine g_ [3,6,7,8] ?_
    rw [← htk]
    refine .of' _ _ ⟨n - 1, by omega, i + 1, _, M + 2, by omega, ?_, ?_, rfl⟩ ?_ ?_ ?_
    any_goals (first | omega | exact Nat.lt_succ_self _)
    all_goals exact L_
  refine n_ ?_
  obtain rfl : i = p.length := by omega
  rw [List.take_of_length_le (Nat.le_refl _)]
  refine g_ [2] ?_
  refine wpM_frz [Y] [(92, Y, 0, p.length, actR p)] (by intro q hq; simp at hq; subst hq; simp -implicitDefEqProofs (disch := omega) only [go_sem]) (by intro q hq; simp only [List.mem_cons, List.not_mem_nil, or_false] at hq; subst hq; exact ⟨by simp, rowsOf_actC (T := 92) T_ rfl⟩) ?_
  refine S_ ?_
  refine e_ Tryz.results51 ?_
  first
  | exact True.intro
  | rfl
end Go.Proofs.YtmicbfojofcigaaGreatDoor
namespace Go.Proofs.YtmicbfojofcigaaGreatDoor
open Go Sg
set_option maxRecDepth 100000
set_option linter.unusedSimpArgs false
set_option linter.unusedVariables false
set_option linter.unusedSectionVars false
set_option maxHeartbeats 4000000
variable [ErrL]
structure PS where
  H : List Int
  n : Int
  k : Int
  F : Int
  m : MM
def pcs (id : Nat) (S : PS) : List PV := .ptr id 0 :: ints (S.H ++ [S.n, S.k, S.F])
structure PS.Ok (S : PS) : Prop where
  H : S.H.length = 12
  m : S.m.Six
section
variable (id : Nat) (S : PS) (h : S.H.length = 12)
include h
theorem pcs_len : (pcs id S).length = 16 := by simp [pcs, ints, h]
theorem pcs_get (j : Nat) (hj : j < 15) : ((pcs id S).drop (1 + j))[0]? = some (.int .i64 ((S.H ++ [S.n, S.k, S.F]).getD j 0)) := by
  have hl : j < (S.H ++ [S.n, S.k, S.F]).length := by simp [h]; omega
  simp only [pcs, Nat.add_comm 1 j, List.drop_succ_cons, ints]
  rw [List.getElem?_drop, Nat.add_zero, List.getElem?_map, List.getElem?_eq_getElem hl, List.getD, List.getElem?_eq_getElem hl]
  rfl
theorem pcs_n : ((pcs id S).drop 13)[0]? = some (.int .i64 S.n) := by
  rw [pcs_get id S h 12 (by omega)]
  simp [List.getD, List.getElem?_append_right, h]
theorem pcs_k : ((pcs id S).drop 14)[0]? = some (.int .i64 S.k) := by
  rw [pcs_get id S h 13 (by omega)]
  simp [List.getD, List.getElem?_append_right, h]
theorem pcs_F : ((pcs id S).drop 15)[0]? = some (.int .i64 S.F) := by
  rw [pcs_get id S h 14 (by omega)]
  simp [List.getD, List.getElem?_append_right, h]
theorem pcs_H (j : Nat) (hj : j < 12) : ((pcs id S).drop (1 + j))[0]? = some (.int .i64 (S.H.getD j 0)) := by
  rw [pcs_get id S h j (by omega)]
  simp [List.getD, List.getElem?_append_left, h, hj]
theorem pcs_set (j : Nat) (hj : j < 15) (v : Int) : splice (pcs id S) (1 + j) [.int .i64 v] = .ptr id 0 :: ints ((S.H ++ [S.n, S.k, S.F]).set j v) := by
  have := splice_ints (S.H ++ [S.n, S.k, S.F]) j v (by simp [h]; omega)
  rw [← this, Nat.add_comm 1 j]
  simp only [pcs, splice, List.length_cons, List.length_nil, List.take_succ_cons, Nat.zero_add]
  rw [show j + 1 + 1 = (j + 1) + 1 from rfl, List.drop_succ_cons]
  rfl
theorem pcs_setn (v : Int) : splice (pcs id S) 13 [.int .i64 v] = pcs id { S with n := v } := by
  rw [pcs_set id S h 12 (by omega), pcs]
  rw [List.set_append_right _ _ (by omega), h]; rfl
theorem pcs_setk (v : Int) : splice (pcs id S) 14 [.int .i64 v] = pcs id { S with k := v } := by
  rw [pcs_set id S h 13 (by omega), pcs]
  rw [List.set_append_right _ _ (by omega), h]; rfl
theorem pcs_setF (v : Int) : splice (pcs id S) 15 [.int .i64 v] = pcs id { S with F := v } := by
  rw [pcs_set id S h 14 (by omega), pcs]
  rw [List.set_append_right _ _ (by omega), h]; rfl
theorem pcs_setH (j : Nat) (hj : j < 12) (v : Int) : splice (pcs id S) (1 + j) [.int .i64 v] = pcs id { S with H := S.H.set j v } := by
  rw [pcs_set id S h j (by omega), pcs]
  rw [List.set_append_left _ _ (by omega)]
end
@[go_sem] theorem pcs_0 (id : Nat) (S : PS) : (pcs id S)[0]? = some (.ptr id 0) := rfl
@[go_sem high] theorem idsL_pcs (p : Nat → Prop) (id : Nat) (S : PS) : PV.idsL p (pcs id S) = p id := by
  simp only [pcs, PV.idsL, PV.ids, idsL_ints, and_true]
@[go_sem high] theorem renL_pcs (p : Nat → Nat) (id : Nat) (S : PS) : PV.renL p (pcs id S) = .ptr (p id) 0 :: ints (S.H ++ [S.n, S.k, S.F]) := by
  simp only [pcs, PV.renL, PV.ren, renL_ints]
def pfoot (x id : Nat) (S : PS) : List (Nat × AObj) := [(x, .cells 88 (pcs id S)), (id, .cells 122 (ints S.m.flat))]
@[go_sem] theorem pfoot_eq (x id : Nat) (S : PS) : pfoot x id S = [(x, .cells 88 (pcs id S)), (id, .cells 122 (ints S.m.flat))] := rfl
def pu (x id : Nat) (S : PS) : List (Nat × Option AObj) := [(x, some (.cells 88 (pcs id S))), (id, some (.cells 122 (ints S.m.flat)))]
@[go_sem] theorem pu_eq (x id : Nat) (S : PS) : pu x id S = [(x, some (.cells 88 (pcs id S))), (id, some (.cells 122 (ints S.m.flat)))] := rfl
def PS.push (S : PS) (v : Int) : PS := { S with H := S.H.set S.n.toNat v, n := S.n + 1 }
theorem push_ok (x id : Nat) (hx : x ≠ id) (S : PS) (h : S.Ok) (h0 : 0 ≤ S.n) (h1 : S.n < 12) (v : Int) : CallF Tryz.prog 126 [.ptr x 0, .int .i64 v] (pfoot x id S) 0 (fun _ o => o = { rs := [], u := pu x id (S.push v) }) := by
  have hH := h.H
  refine callF_of' Tryz.func126 rfl Tryz.ntmps126 (by simp) ?_
  intro f0 B ns Q hB hns hQ
  have hxB : x < B := hB x (by simp [hasKey, lk, pfoot])
  have hiB : id < B := hB id (by simp [hasKey, lk, pfoot, hx])
  obtain rfl : ns = [] := List.eq_nil_of_length_eq_zero hns
  refine n_ ?_
  refine dr_ mixed [0] 0 1 [x] [⟨[0],[],[],[],false⟩,⟨[0],[],[],[],false⟩,⟨[5],[],[],[],false⟩,⟨[6],[],[],[],false⟩,⟨[7],[0],[],[],false⟩,⟨[1],[],[],[],false⟩,⟨[4],[],[],[],false⟩,⟨[10],[],[],[],false⟩,⟨[8,11],[],[],[],false⟩,⟨[9,12],[0],[0],[],false⟩] [0,1,2,3,4,5,6,7,8,9] [[],[],[1],[1,2],[1,2,3],[],[0],[0,6],[0,1,2,3,4,5,6,7],[0,1,2,3,4,5,6,7,8]] 1 ?_
  intro O A K hO hA hK;simp only [atL_cons,atL_nil,Nat.reduceAdd,Nat.zero_add] at hO hA
  simp -implicitDefEqProofs (disch := omega) only [go_sem, pcs_n id S hH, pcs_len id S hH, pcs_setH id S hH, hO, hA]
  refine hK _ (S_ ?_);clear hK K hO hA O A
  have hH1 : ({ S with H := S.H.set S.n.toNat v } : PS).H.length = 12 := by simp [hH]
  refine wpM_regionK [] rfl fun Q1 hQ1 => ?_
  simp -implicitDefEqProofs (disch := omega) only [go_sem, pcs_n _ _ hH1, pcs_len _ _ hH1, pcs_setn _ _ hH1]
  refine hQ1 _ _ (S_ ?_);clear hQ1 Q1
  refine hQ _ _ (ret0n (pu x id (S.push v)) rfl rfl rfl (by rw [Tryz.results126] <;> simp (maxSteps := 1000000) -implicitDefEqProofs (disch := omega) only [go_sem] <;> rfl) rfl ?_ ?_ ?_ ?_)
  all_goals simp -implicitDefEqProofs (disch := omega) only [go_sem, true_or, or_true]
  all_goals exact ⟨rfl, rfl⟩
def PS.pop (S : PS) : PS := { S with n := S.n - 1 }
def PS.top (S : PS) : Int := S.H.getD (S.n - 1).toNat 0
theorem pop_ok (x id : Nat) (hx : x ≠ id) (S : PS) (h : S.Ok) (h0 : 1 ≤ S.n) (h1 : S.n ≤ 12) : CallF Tryz.prog 131 [.ptr x 0] (pfoot x id S) 0 (fun _ o => o = { rs := [.int .i64 S.top], u := pu x id S.pop }) := by
  have hH := h.H
  refine callF_of' Tryz.func131 rfl Tryz.ntmps131 (by simp) ?_
  intro f0 B ns Q hB hns hQ
  have hxB : x < B := hB x (by simp [hasKey, lk, pfoot])
  have hiB : id < B := hB id (by simp [hasKey, lk, pfoot, hx])
  obtain rfl : ns = [] := List.eq_nil_of_length_eq_zero hns
  refine g_ [0] ?_
  refine n_ ?_
  refine wpM_regionK [0] rfl fun Q1 hQ1 => ?_
  simp -implicitDefEqProofs (disch := omega) only [go_sem, pcs_n id S hH, pcs_len id S hH, pcs_setn id S hH]
  refine hQ1 _ _ (S_ ?_);clear hQ1 Q1
  have hH1 : ({ S with n := S.n - 1 } : PS).H.length = 12 := hH
  refine n_ ?_
  refine dr_ mixed [2] 0 1 [x] [⟨[0],[],[],[],false⟩,⟨[0],[],[],[],false⟩,⟨[11],[],[],[],false⟩,⟨[12],[],[],[],false⟩,⟨[13],[0],[],[],false⟩,⟨[10],[],[],[],false⟩,⟨[15],[],[],[],false⟩,⟨[14,16],[],[],[],false⟩,⟨[17],[0],[],[],false⟩,⟨[18],[],[],[],false⟩] [0,1,2,3,4,5,6,7,8,9] [[],[],[1],[1,2],[1,2,3],[0],[0,5],[0,1,2,3,4,5,6],[0,1,2,3,4,5,6,7],[0,1,2,3,4,5,6,7,8]] 1 ?_
  intro O A K hO hA hK;simp only [atL_cons,atL_nil,Nat.reduceAdd,Nat.zero_add] at hO hA
  simp -implicitDefEqProofs (disch := omega) only [go_sem, pcs_n _ _ hH1, pcs_len _ _ hH1, pcs_H _ _ hH1, hO, hA]
  refine hK _ (S_ ?_);clear hK K hO hA O A
  refine wpM_ret ?_
  try refine S_ ?_
  refine hQ _ _ (ret0 (pu x id S.pop) rfl rfl rfl (by rw [Tryz.results131] <;> simp (maxSteps := 1000000) -implicitDefEqProofs (disch := omega) only [go_sem] <;> rfl) rfl ?_ ?_ ?_ ?_)
  all_goals simp -implicitDefEqProofs (disch := omega) only [go_sem, true_or, or_true]
  all_goals exact ⟨rfl, rfl⟩
end Go.Proofs.YtmicbfojofcigaaGreatDoor
namespace Go.Proofs.YtmicbfojofcigaaGreatDoor
open Go Sg
set_option maxRecDepth 100000
set_option linter.unusedSimpArgs false
set_option linter.unusedVariables false
set_option linter.unusedSectionVars false
set_option maxHeartbeats 4000000
variable [ErrL]
def Stp (x id : Nat) (f : FuncId) (c : List PV) (S S' : PS) : Prop := CallF Tryz.prog f ([.ptr x 0] ++ c) (pfoot x id S) 0 (fun _ o => o = { rs := [], u := pu x id S' })
theorem PS.Ok.push {S : PS} (h : S.Ok) (v : Int) : (S.push v).Ok := ⟨by simp [PS.push, h.H], h.m⟩
theorem PS.Ok.pop {S : PS} (h : S.Ok) : S.pop.Ok := ⟨h.H, h.m⟩
@[go_sem] theorem pop_m (S : PS) : S.pop.m = S.m := rfl
@[go_sem] theorem push_m (S : PS) (v : Int) : (S.push v).m = S.m := rfl
theorem stp_push (x id : Nat) (hx : x ≠ id) (S : PS) (h : S.Ok) (i : GI) (h0 : 0 ≤ S.n) (h1 : S.n < 12) : Stp x id 125 [.vptr i.cs] S (S.push i.n) := by
  have hH := h.H
  refine callF_of' Tryz.func125 rfl Tryz.ntmps125 (by simp) ?_
  intro f0 B ns Q hB hns hQ
  have hxB : x < B := hB x (by simp [hasKey, lk, pfoot])
  have hiB : id < B := hB id (by simp [hasKey, lk, pfoot, hx])
  obtain rfl : ns = [] := List.eq_nil_of_length_eq_zero hns
  refine n_ ?_
  refine wpM_regionK [] rfl fun Q1 hQ1 => ?_
  refine S_ ?_
  refine call_fn (l := pfoot x id S) (first := []) (cap := []) (ps := [.ptr x 0, .int .i64 i.n]) (push_ok x id hx S h h0 h1 i.n) Tryz.call126 rfl rfl rfl G_ T_ ?_
  rintro out rfl
  refine S_ ?_
  refine hQ1 _ _ (S_ ?_);clear hQ1 Q1
  refine hQ _ _ (ret0n (pu x id (S.push i.n)) rfl rfl rfl (by rw [Tryz.results125] <;> simp (maxSteps := 1000000) -implicitDefEqProofs (disch := omega) only [go_sem] <;> rfl) rfl ?_ ?_ ?_ ?_)
  all_goals simp -implicitDefEqProofs (disch := omega) only [go_sem, true_or, or_true]
theorem stp_load (x id : Nat) (hx : x ≠ id) (S : PS) (h : S.Ok) (i : GI) (h0 : 0 ≤ S.n) (h1 : S.n < 12) (ha : i.a.ok = true) : Stp x id 127 [.vptr i.cs] S (S.push (S.m.get i.a)) := by
  have hH := h.H
  refine callF_of' Tryz.func127 rfl Tryz.ntmps127 (by simp) ?_
  intro f0 B ns Q hB hns hQ
  have hxB : x < B := hB x (by simp [hasKey, lk, pfoot])
  have hiB : id < B := hB id (by simp [hasKey, lk, pfoot, hx])
  obtain rfl : ns = [] := List.eq_nil_of_length_eq_zero hns
  refine n_ ?_
  refine dr_ mixed [] 0 2 [x, id] [⟨[0],[],[],[],false⟩,⟨[0],[],[],[],false⟩,⟨[4],[],[],[],false⟩,⟨[5],[],[],[],false⟩,⟨[6],[0],[],[],false⟩,⟨[1],[],[],[],false⟩,⟨[8],[],[],[],false⟩,⟨[7,9],[1],[],[],true⟩,⟨[3,10],[0,1],[0,1],[],true⟩] [0,1,2,3,4,5,6,7,8] [[],[],[1],[1,2],[1,2,3],[],[5],[1,2,3,4,5,6],[0,1,2,3,4,5,6,7]] 2 (htbl := by simp; omega) (hnm := by simp) ?_
  intro O A K hO hA hK;simp only [atL_cons,atL_nil,Nat.reduceAdd,Nat.zero_add] at hO hA
  simp -implicitDefEqProofs (disch := omega) only [go_sem, pcs_len id S hH, hO, hA]
  refine loud_r (iget_ok id S.m.flat i.a ha (MM.flat_len h.m)) (subG_spec T_) Tryz.call128 rfl rfl F_ rfl ?_
  rw [MM.flat_get S.m h.m i.a ha]
  simp -implicitDefEqProofs (disch := omega) only [go_sem, pcs_len id S hH, hO, hA]
  refine loud_fn (first := []) (cap := []) (ps := [.ptr x 0, .int .i64 (S.m.get i.a)]) (l := pfoot x id S) (push_ok x id hx S h h0 h1 (S.m.get i.a)) Tryz.call126 rfl rfl F_ (subG_spec T_) rfl ?_
  rintro out rfl
  refine ⟨rfl, ?_⟩
  simp -implicitDefEqProofs (disch := omega) only [go_sem, pcs_len id S hH, hO, hA]
  refine hK _ (S_ ?_);clear hK K hO hA O A
  refine hQ _ _ (ret0n (pu x id (S.push (S.m.get i.a))) rfl rfl rfl (by rw [Tryz.results127] <;> simp (maxSteps := 1000000) -implicitDefEqProofs (disch := omega) only [go_sem] <;> rfl) rfl ?_ ?_ ?_ ?_)
  all_goals simp -implicitDefEqProofs (disch := omega) only [go_sem, true_or, or_true]
theorem stp_store (x id : Nat) (hx : x ≠ id) (S : PS) (h : S.Ok) (i : GI) (h0 : 1 ≤ S.n) (h1 : S.n ≤ 12) (ha : i.a.ok = true) (ha1 : i.a.kind ≠ 1) : Stp x id 129 [.vptr i.cs] S { S.pop with m := S.m.put i.a S.top } := by
  have hH := h.H
  have hp := put_flat h.m ha ha1 S.top
  refine callF_of' Tryz.func129 rfl Tryz.ntmps129 (by simp) ?_
  intro f0 B ns Q hB hns hQ
  have hxB : x < B := hB x (by simp [hasKey, lk, pfoot])
  have hiB : id < B := hB id (by simp [hasKey, lk, pfoot, hx])
  obtain rfl : ns = [] := List.eq_nil_of_length_eq_zero hns
  refine n_ ?_
  refine dr2_ mixed [0,1] [x, id] [⟨[0],[],[],[],false⟩,⟨[3],[],[],[],false⟩,⟨[4],[],[],[],false⟩,⟨[5],[0],[],[],false⟩,⟨[1],[],[],[],false⟩,⟨[7],[],[],[],false⟩,⟨[0],[],[],[],false⟩,⟨[9],[0,1],[0,1],[],true⟩,⟨[6,8,10],[1],[1],[],true⟩] [0,1,2,4,5,6,3,7,8] [0,1,2,4,5,6,7,3,8] [[],[0],[0,1],[0,1,2],[],[4],[],[6],[0,1,2,3,4,5,6,7]] 3 7 2 ?_ ?_ (htbl := by simp; omega)
  all_goals
    intro O A K hO hA hK;simp only [atL_cons,atL_nil,Nat.reduceAdd,Nat.zero_add] at hO hA
    simp -implicitDefEqProofs (disch := omega) only [go_sem, pcs_len id S hH, hO, hA]
    refine loud_fn (first := []) (cap := []) (ps := [.ptr x 0]) (l := pfoot x id S) (pop_ok x id hx S h h0 h1) Tryz.call131 rfl rfl F_ (subG_spec T_) rfl ?_
    rintro out rfl
    refine ⟨rfl, ?_⟩
    simp -implicitDefEqProofs (disch := omega) only [go_sem, pcs_len id S hH, hO, hA]
    refine loud_fn (first := []) (cap := []) (ps := [.ptr id 0, .agg i.a.cs, .int .i64 S.top]) (l := mobj id S.m) (iput_ok id S.m.flat i.a S.top ha ha1 (MM.flat_len h.m)) Tryz.call130 rfl rfl F_ (subG_spec T_) rfl ?_
    rintro out rfl
    rw [← hp]
    refine ⟨rfl, ?_⟩
    simp -implicitDefEqProofs (disch := omega) only [go_sem, pcs_len id S hH, hO, hA]
    refine hK _ (S_ ?_)
    refine hQ _ _ (ret0n (pu x id ({ S.pop with m := S.m.put i.a S.top })) rfl rfl rfl (by rw [Tryz.results129] <;> simp (maxSteps := 1000000) -implicitDefEqProofs (disch := omega) only [go_sem] <;> rfl) rfl ?_ ?_ ?_ ?_)
    all_goals simp -implicitDefEqProofs (disch := omega) only [go_sem, true_or, or_true]
    all_goals rfl
theorem stp_two (x id : Nat) (hx : x ≠ id) (S : PS) (h : S.Ok) (i : GI) (h0 : 2 ≤ S.n) (h1 : S.n ≤ 12) : Stp x id 132 [.vptr i.cs] S (S.pop.pop.push (two i.n S.pop.top S.top)) := by
  have hH := h.H
  refine callF_of' Tryz.func132 rfl Tryz.ntmps132 (by simp) ?_
  intro f0 B ns Q hB hns hQ
  have hxB : x < B := hB x (by simp [hasKey, lk, pfoot])
  have hiB : id < B := hB id (by simp [hasKey, lk, pfoot, hx])
  obtain rfl : ns = [] := List.eq_nil_of_length_eq_zero hns
  refine n_ ?_
  refine wpM_regionK [0,1,3] rfl fun Q1 hQ1 => ?_
  refine S_ ?_
  refine call_fn (l := pfoot x id S) (first := []) (cap := []) (ps := [.ptr x 0]) (pop_ok x id hx S h (by omega) h1) Tryz.call131 rfl rfl rfl G_ T_ ?_
  rintro out rfl
  refine S_ ?_
  refine hQ1 _ _ (S_ ?_);clear hQ1 Q1
  refine dr_ mixed [] 0 2 [x, id] [⟨[0],[],[],[],false⟩,⟨[1],[],[],[],false⟩,⟨[7],[],[],[],false⟩,⟨[0],[],[],[],false⟩,⟨[9],[0,1],[0,1],[],true⟩,⟨[3],[],[],[],false⟩,⟨[8,10,11],[],[],[],true⟩,⟨[6,12],[0,1],[0,1],[],true⟩] [0,1,2,3,5,4,6,7] [[],[],[1],[],[3],[],[1,2,3,4,5],[0,1,2,3,4,5,6]] 2 (htbl := by simp; omega) (hnm := by simp) ?_
  intro O A K hO hA hK;simp only [atL_cons,atL_nil,Nat.reduceAdd,Nat.zero_add] at hO hA
  refine SO_ ?_
  refine loud_fn (first := []) (cap := []) (ps := [.ptr x 0]) (l := pfoot x id S.pop) (pop_ok x id hx S.pop h.pop (by show 1 ≤ S.n - 1; omega) (by show S.n - 1 ≤ 12; omega)) Tryz.call131 rfl rfl F_ (subG_spec T_) rfl ?_
  rintro out rfl
  refine ⟨rfl, ?_⟩
  refine SO_ ?_
  refine lp_ (itwo_ok i.n S.pop.top S.top) Tryz.call133 ?_
  refine loud_fn (first := []) (cap := []) (ps := [.ptr x 0, .int .i64 (two i.n S.pop.top S.top)]) (l := pfoot x id S.pop.pop) (push_ok x id hx S.pop.pop h.pop.pop (by show 0 ≤ S.n - 1 - 1; omega) (by show S.n - 1 - 1 < 12; omega) _) Tryz.call126 rfl rfl F_ (subG_spec T_) rfl ?_
  rintro out rfl
  refine ⟨rfl, ?_⟩
  refine SO_ ?_
  refine hK _ (S_ ?_);clear hK K hO hA O A
  refine hQ _ _ (ret0n (pu x id (S.pop.pop.push (two i.n S.pop.top S.top))) rfl rfl rfl (by rw [Tryz.results132] <;> simp (maxSteps := 1000000) -implicitDefEqProofs (disch := omega) only [go_sem] <;> rfl) rfl ?_ ?_ ?_ ?_)
  all_goals simp -implicitDefEqProofs (disch := omega) only [go_sem, true_or, or_true]
theorem stp_not (x id : Nat) (hx : x ≠ id) (S : PS) (h : S.Ok) (i : GI) (h0 : 1 ≤ S.n) (h1 : S.n ≤ 12) : Stp x id 134 [] S (S.pop.push (numIs (!(S.top != 0)))) := by
  have hH := h.H
  refine callF_of' Tryz.func134 rfl Tryz.ntmps134 (by simp) ?_
  intro f0 B ns Q hB hns hQ
  have hxB : x < B := hB x (by simp [hasKey, lk, pfoot])
  have hiB : id < B := hB id (by simp [hasKey, lk, pfoot, hx])
  obtain rfl : ns = [] := List.eq_nil_of_length_eq_zero hns
  refine n_ ?_
  refine wpM_regionK [] rfl fun Q1 hQ1 => ?_
  refine S_ ?_
  refine call_fn (l := pfoot x id S) (first := []) (cap := []) (ps := [.ptr x 0]) (pop_ok x id hx S h h0 h1) Tryz.call131 rfl rfl rfl G_ T_ ?_
  rintro out rfl
  refine S_ ?_
  refine cp_ (ion_ok S.top) Tryz.call136 ?_
  refine cp_ (iis_ok (!(S.top != 0))) Tryz.call135 ?_
  refine call_fn (l := pfoot x id S.pop) (first := []) (cap := []) (ps := [.ptr x 0, .int .i64 (numIs (!(S.top != 0)))]) (push_ok x id hx S.pop h.pop (by show 0 ≤ S.n - 1; omega) (by show S.n - 1 < 12; omega) (numIs (!(S.top != 0)))) Tryz.call126 rfl rfl rfl G_ T_ ?_
  rintro out rfl
  refine S_ ?_
  refine hQ1 _ _ (S_ ?_);clear hQ1 Q1
  refine hQ _ _ (ret0n (pu x id (S.pop.push (numIs (!(S.top != 0))))) rfl rfl rfl (by rw [Tryz.results134] <;> simp (maxSteps := 1000000) -implicitDefEqProofs (disch := omega) only [go_sem] <;> rfl) rfl ?_ ?_ ?_ ?_)
  all_goals simp -implicitDefEqProofs (disch := omega) only [go_sem, true_or, or_true]
theorem stp_skip (x id : Nat) (hx : x ≠ id) (S : PS) (h : S.Ok) (i : GI) (h0 : 1 ≤ S.n) (h1 : S.n ≤ 12) : Stp x id 137 [.vptr i.cs] S (if !(S.top != 0) then { S.pop with k := i.n } else S.pop) := by
  have hH := h.H
  refine callF_of' Tryz.func137 rfl Tryz.ntmps137 (by simp) ?_
  intro f0 B ns Q hB hns hQ
  have hxB : x < B := hB x (by simp [hasKey, lk, pfoot])
  have hiB : id < B := hB id (by simp [hasKey, lk, pfoot, hx])
  obtain rfl : ns = [] := List.eq_nil_of_length_eq_zero hns
  refine n_ ?_
  refine wpM_regionK [0,1,6] rfl fun Q1 hQ1 => ?_
  refine S_ ?_
  refine call_fn (l := pfoot x id S) (first := []) (cap := []) (ps := [.ptr x 0]) (pop_ok x id hx S h h0 h1) Tryz.call131 rfl rfl rfl G_ T_ ?_
  rintro out rfl
  refine S_ ?_
  refine cp_ (ion_ok S.top) Tryz.call136 ?_
  refine hQ1 _ _ (S_ ?_);clear hQ1 Q1
  refine c_ (fun hc0 => ?_) fun hc0 => ?_
  ·
    rw [if_pos hc0] at hQ
    refine wpM_regionK [] rfl fun Q1 hQ1 => ?_
    simp -implicitDefEqProofs (disch := omega) only [go_sem, pcs_len id S.pop hH, pcs_setk id S.pop hH]
    refine hQ1 _ _ (S_ ?_);clear hQ1 Q1
    refine hQ _ _ (ret0n (pu x id { S.pop with k := i.n }) rfl rfl rfl (by rw [Tryz.results137] <;> simp (maxSteps := 1000000) -implicitDefEqProofs (disch := omega) only [go_sem] <;> rfl) rfl ?_ ?_ ?_ ?_)
    all_goals simp -implicitDefEqProofs (disch := omega) only [go_sem, true_or, or_true]
  rw [if_neg (by rw [hc0]; simp)] at hQ
  refine n_ ?_
  refine hQ _ _ (ret0n (pu x id S.pop) rfl rfl rfl (by rw [Tryz.results137] <;> simp (maxSteps := 1000000) -implicitDefEqProofs (disch := omega) only [go_sem] <;> rfl) rfl ?_ ?_ ?_ ?_)
  all_goals simp -implicitDefEqProofs (disch := omega) only [go_sem, true_or, or_true]
theorem stp_jump (x id : Nat) (hx : x ≠ id) (S : PS) (h : S.Ok) (i : GI)  : Stp x id 138 [.vptr i.cs] S { S with k := i.n } := by
  have hH := h.H
  refine callF_of' Tryz.func138 rfl Tryz.ntmps138 (by simp) ?_
  intro f0 B ns Q hB hns hQ
  have hxB : x < B := hB x (by simp [hasKey, lk, pfoot])
  have hiB : id < B := hB id (by simp [hasKey, lk, pfoot, hx])
  obtain rfl : ns = [] := List.eq_nil_of_length_eq_zero hns
  refine n_ ?_
  refine wpM_regionK [] rfl fun Q1 hQ1 => ?_
  simp -implicitDefEqProofs (disch := omega) only [go_sem, pcs_len id S hH, pcs_setk id S hH]
  refine hQ1 _ _ (S_ ?_);clear hQ1 Q1
  refine hQ _ _ (ret0n (pu x id ({ S with k := i.n })) rfl rfl rfl (by rw [Tryz.results138] <;> simp (maxSteps := 1000000) -implicitDefEqProofs (disch := omega) only [go_sem] <;> rfl) rfl ?_ ?_ ?_ ?_)
  all_goals simp -implicitDefEqProofs (disch := omega) only [go_sem, true_or, or_true]
theorem act11_ok (x id : Nat) (hx : x ≠ id) (S S' : PS) (f : FuncId) (c : List PV) (hc : Stp x id f c S S') (henter : ∀ args w, (callFunc f args).run Tryz.prog w = .ok (.enter f args) w) : CallF Tryz.prog 124 ([.ptr x 0] ++ [.vptr [.fn (.func f) [] c]]) (pfoot x id S) 0 (fun _ o => o = { rs := [.bool true], u := pu x id S' }) := by
  refine callF_of' Tryz.func124 rfl Tryz.ntmps124 (by simp) ?_
  intro f0 B ns Q hB hns hQ
  have hxB : x < B := hB x (by simp [hasKey, lk, pfoot])
  have hiB : id < B := hB id (by simp [hasKey, lk, pfoot, hx])
  obtain rfl : ns = [] := List.eq_nil_of_length_eq_zero hns
  refine g_ [0,1] ?_
  refine n_ ?_
  refine wpM_regionK [] rfl fun Q1 hQ1 => ?_
  refine S_ ?_
  refine call_fn (l := pfoot x id S) (first := []) (cap := c) (ps := [.ptr x 0]) hc henter rfl rfl T_ T_ T_ ?_
  rintro out rfl
  refine S_ ?_
  refine hQ1 _ _ (S_ ?_);clear hQ1 Q1
  refine g_ [3] ?_
  refine wpM_ret ?_
  try refine S_ ?_
  refine hQ _ _ (ret0 (pu x id S') rfl rfl rfl (by rw [Tryz.results124] <;> simp (maxSteps := 1000000) -implicitDefEqProofs (disch := omega) only [go_sem] <;> rfl) rfl ?_ ?_ ?_ ?_)
  all_goals simp -implicitDefEqProofs (disch := omega) only [go_sem, true_or, or_true]
theorem back_ok (x id : Nat) (hx : x ≠ id) (S : PS) (h : S.Ok) (i : GI) (hF0 : 0 ≤ S.F) (hF1 : S.F ≤ 100) : CallF Tryz.prog 139 ([.ptr x 0] ++ [.vptr i.cs]) (pfoot x id S) 0 (fun _ o => o = { rs := [.bool (S.F != 0)], u := pu x id (if S.F == 0 then S else { S with F := S.F - 1, k := i.n }) }) := by
  have hH := h.H
  refine callF_of' Tryz.func139 rfl Tryz.ntmps139 (by simp) ?_
  intro f0 B ns Q hB hns hQ
  have hxB : x < B := hB x (by simp [hasKey, lk, pfoot])
  have hiB : id < B := hB id (by simp [hasKey, lk, pfoot, hx])
  obtain rfl : ns = [] := List.eq_nil_of_length_eq_zero hns
  refine g_ [0,1] ?_
  refine n_ ?_
  refine wpM_regionK [0,1,8] rfl fun Q1 hQ1 => ?_
  simp -implicitDefEqProofs (disch := omega) only [go_sem, pcs_len id S hH, pcs_F id S hH]
  refine hQ1 _ _ (S_ ?_);clear hQ1 Q1
  refine c_ (fun hc0 => ?_) fun hc0 => ?_
  ·
    rw [if_pos hc0, show (S.F != 0) = false from by simpa using hc0] at hQ
    refine g_ [3] ?_
    refine wpM_ret ?_
    try refine S_ ?_
    refine hQ _ _ (ret0 (pu x id S) rfl rfl rfl (by rw [Tryz.results139] <;> simp (maxSteps := 1000000) -implicitDefEqProofs (disch := omega) only [go_sem] <;> rfl) rfl ?_ ?_ ?_ ?_)
    all_goals simp -implicitDefEqProofs (disch := omega) only [go_sem, true_or, or_true]
  rw [if_neg (by rw [hc0]; simp), show (S.F != 0) = true from by simpa using hc0] at hQ
  refine n_ ?_
  refine wpM_regionK [0,1] rfl fun Q1 hQ1 => ?_
  simp -implicitDefEqProofs (disch := omega) only [go_sem, pcs_len id S hH, pcs_F id S hH, pcs_setF id S hH, show IntKind.i64.wrap (S.F - 1) = S.F - 1 from wrap64 ⟨by omega, by omega⟩]
  refine hQ1 _ _ (S_ ?_);clear hQ1 Q1
  refine n_ ?_
  refine wpM_regionK [] rfl fun Q1 hQ1 => ?_
  simp -implicitDefEqProofs (disch := omega) only [go_sem, pcs_len id { S with F := S.F - 1 } hH, pcs_setk id { S with F := S.F - 1 } hH]
  refine hQ1 _ _ (S_ ?_);clear hQ1 Q1
  refine g_ [3] ?_
  refine wpM_ret ?_
  try refine S_ ?_
  refine hQ _ _ (ret0 (pu x id { S with F := S.F - 1, k := i.n }) rfl rfl rfl (by rw [Tryz.results139] <;> simp (maxSteps := 1000000) -implicitDefEqProofs (disch := omega) only [go_sem] <;> rfl) rfl ?_ ?_ ?_ ?_)
  all_goals simp -implicitDefEqProofs (disch := omega) only [go_sem, true_or, or_true]
end Go.Proofs.YtmicbfojofcigaaGreatDoor
namespace Go.Proofs.YtmicbfojofcigaaGreatDoor
open Go Sg
set_option maxRecDepth 100000
set_option linter.unusedSimpArgs false
set_option linter.unusedVariables false
set_option linter.unusedSectionVars false
set_option maxHeartbeats 4000000
variable [ErrL]
def KeepD (L L' : List Int) : Prop := ∀ j, L.getD j 0 ≠ -1 → L'.getD j 0 = L.getD j 0
theorem KeepD.trans {L L' L'' : List Int} (h : KeepD L L') (h' : KeepD L' L'') : KeepD L L'' := fun j hj => by
  have e := h j hj
  rw [h' j (by rw [e]; exact hj), e]
theorem keepD_tell (L : List Int) (k : Nat) (v : Int) : KeepD L (tellL L k v) := by
  intro j hj
  unfold tellL
  split
  · rename_i hk
    have hk' := eq_of_beq hk
    have hjk : j ≠ k := by rintro rfl; exact hj hk'
    simp only [List.getD, List.getElem?_set]
    rw [if_neg (Ne.symm hjk)]
  · rfl
structure DAt (p : List GI) (D : List Int) (k : Nat) : Prop where
  ok : (p.getD k default).ok k p.length = true
  tk : (p.getD k default).takes ≤ D.getD k 0
  hi : tD (p.getD k default) D k ≤ 12
  go : (p.getD k default).goes = true → D.getD (p.getD k default).n.toNat 0 = tD (p.getD k default) D k
  fo : (p.getD k default).follows = true → D.getD (k + 1) 0 = tD (p.getD k default) D k
theorem DAt.keep {p : List GI} {D D' : List Int} {k : Nat} (h : DAt p D k) (hk : KeepD D D') : DAt p D' k := by
  have ht := takes_in (p.getD k default)
  have hg := gives_in (p.getD k default)
  have h1 := h.tk
  have e : D'.getD k 0 = D.getD k 0 := hk k (by omega)
  have et : tD (p.getD k default) D' k = tD (p.getD k default) D k := by unfold tD; rw [e]
  have t0 : 0 ≤ tD (p.getD k default) D k := by unfold tD; omega
  refine ⟨h.ok, by rw [e]; exact h1, by rw [et]; exact h.hi, fun hgo => ?_, fun hfo => ?_⟩
  · have := h.go hgo
    rw [hk _ (by rw [this]; omega), this, et]
  · have := h.fo hfo
    rw [hk _ (by rw [this]; omega), this, et]
theorem stepD_at {p : List GI} {L L' : List Int} {k : Nat} (h : stepD p L k = some L') : KeepD L L' ∧ DAt p L' k := by
  unfold stepD stepI at h
  generalize hI : p.getD k default = i at *
  split at h
  · cases h
  · rename_i hb0
    split at h
    · cases h
    · rename_i hb2
      injection h with h
      subst h
      simp only [bad0D, Bool.or_eq_true, Bool.not_eq_true', beq_iff_eq, decide_eq_true_eq, not_or, Bool.not_eq_false] at hb0
      obtain ⟨⟨hok, hne⟩, htk⟩ := hb0
      have hb2' : bad2D i L k (tD i L k) = false := by simpa using hb2
      simp only [bad2D, Bool.or_eq_false_iff] at hb2'
      obtain ⟨hb1, hf⟩ := hb2'
      have hb1' := hb1
      simp only [bad1D, Bool.or_eq_false_iff, decide_eq_false_iff_not] at hb1
      obtain ⟨h12, hg⟩ := hb1
      have k1 : KeepD L (L1D i L (tD i L k)) := by
        unfold L1D; split
        · exact keepD_tell _ _ _
        · exact fun _ _ => rfl
      have k2 : KeepD (L1D i L (tD i L k)) (L2D i L k (tD i L k)) := by
        unfold L2D; split
        · exact keepD_tell _ _ _
        · exact fun _ _ => rfl
      have kk := k1.trans k2
      have e := kk k hne
      have htk0 := takes_in i
      have hgv := gives_in i
      have t0 : 0 ≤ tD i L k := by unfold tD; omega
      have et : tD i (L2D i L k (tD i L k)) k = tD i L k := by
        show (L2D i L k (tD i L k)).getD k 0 - i.takes + i.gives = _
        rw [e]; rfl
      refine ⟨kk, ?_, ?_, ?_, ?_, ?_⟩
      · rw [hI]; exact hok
      · rw [hI, e]; omega
      · rw [hI, et]; omega
      · rw [hI, et]
        intro hgo
        rw [hgo] at hg
        have hg' : tellB L i.n.toNat (tD i L k) = true := by simpa using hg
        have h1 : L1D i L (tD i L k) = tellL L i.n.toNat (tD i L k) := by
          rw [L1D, if_pos]; simp [hgo]; omega
        have h2 : (L1D i L (tD i L k)).getD i.n.toNat 0 = tD i L k := by rw [h1]; exact eq_of_beq hg'
        rw [k2 _ (by rw [h2]; omega), h2]
      · rw [hI, et]
        intro hfo
        rw [hfo] at hf
        have hf' : tellB (L1D i L (tD i L k)) (k + 1) (tD i L k) = true := by simpa using hf
        have h1 : L2D i L k (tD i L k) = tellL (L1D i L (tD i L k)) (k + 1) (tD i L k) := by
          rw [L2D, if_pos]; rw [hb1', hfo]; rfl
        rw [h1]; exact eq_of_beq hf'
theorem runD_at {p : List GI} : ∀ (k : Nat) (L : List Int), runD' p k = some L → L.length = p.length + 1 ∧ L.getD 0 0 = 0 ∧ ∀ j < k, DAt p L j
  | 0, L, h => by
    injection h with h
    subst h
    refine ⟨by simp, by simp [List.getD], fun j hj => absurd hj (by omega)⟩
  | k + 1, L, h => by
    unfold runD' at h
    split at h
    · rename_i L0 h0
      obtain ⟨a, b, c⟩ := runD_at k L0 h0
      obtain ⟨kk, d⟩ := stepD_at h
      refine ⟨by rw [stepD_len h, a], by rw [kk 0 (by rw [b]; omega), b], fun j hj => ?_⟩
      by_cases hjk : j = k
      · subst hjk; exact d
      · exact (c j (by omega)).keep kk
    · cases h
structure DOk (p : List GI) (D : List Int) : Prop where
  z : D.getD 0 0 = 0
  e : D.getD p.length 0 = 0
  len : p.length ≤ 400
  at' : ∀ k < p.length, DAt p D k
theorem okC_D {p : List GI} (h : okC p = true) : ∃ D, DOk p D := by
  unfold okC depV at h
  split at h
  · rename_i L hL
    unfold depthsF at hL
    split at hL
    · cases hL
    · rename_i hn
      obtain ⟨a, b, c⟩ := runD_at _ _ hL
      exact ⟨L, b, eq_of_beq h, by omega, c⟩
  · cases h
def PS.act (S : PS) (i : GI) : PS × Bool :=
  if i.op == 1 then (S.push i.n, true)
  else if i.op == 2 then (S.push (S.m.get i.a), true)
  else if i.op == 3 then ({ S.pop with m := S.m.put i.a S.top }, true)
  else if i.op == 4 then (S.pop.pop.push (two i.n S.pop.top S.top), true)
  else if i.op == 5 then (S.pop.push (numIs (!(S.top != 0))), true)
  else if i.op == 6 then (if !(S.top != 0) then { S.pop with k := i.n } else S.pop, true)
  else if i.op == 7 then ({ S with k := i.n }, true)
  else (if S.F == 0 then S else { S with F := S.F - 1, k := i.n }, S.F != 0)
def PS.nx (S : PS) : PS := { S with k := S.k + 1 }
def mex (p : List GI) : Nat → PS → PS × Bool
  | 0, S => (S, false)
  | g + 1, S => if S.k < p.length then (if (S.nx.act (p.getD S.k.toNat default)).2 then mex p g (S.nx.act (p.getD S.k.toNat default)).1 else ((S.nx.act (p.getD S.k.toNat default)).1, true)) else (S, false)
structure PS.In (p : List GI) (D : List Int) (S : PS) : Prop where
  ok : S.Ok
  k0 : 0 ≤ S.k
  k1 : S.k ≤ p.length
  n : D.getD S.k.toNat 0 = S.n
  n0 : 0 ≤ S.n
  n1 : S.n ≤ 12
  F0 : 0 ≤ S.F
  F1 : S.F ≤ 100
def PS.meas (p : List GI) (S : PS) : Nat := S.F.toNat * (p.length + 1) + (p.length - S.k.toNat)
theorem act_in {p : List GI} {D : List Int} {S : PS} (hD : DOk p D) (h : S.In p D) (hk : S.k < p.length) :
    ((S.nx.act (p.getD S.k.toNat default)).2 = true → (S.nx.act (p.getD S.k.toNat default)).1.In p D ∧ (S.nx.act (p.getD S.k.toNat default)).1.meas p < S.meas p) ∧
    ((S.nx.act (p.getD S.k.toNat default)).2 = false → (S.nx.act (p.getD S.k.toNat default)).1 = S.nx) := by
  obtain ⟨hok, hk0, hk1, hn, hn0, hn1, hF0, hF1⟩ := h
  have hH := hok.H
  have hm := hok.m
  obtain ⟨h1, h2, h3, h4, h5⟩ := hD.at' S.k.toNat (by omega)
  generalize hI : p.getD S.k.toNat default = i at *
  have hkk : ((S.k.toNat : Nat) : Int) = S.k := by omega
  have hk1' : (S.k + 1).toNat = S.k.toNat + 1 := by omega
  have htk0 := takes_in i
  have hgv := gives_in i
  rw [hkk] at h1
  have t0 : 0 ≤ tD i D S.k.toNat := by unfold tD; omega
  generalize hT : tD i D S.k.toNat = t at *
  unfold tD at hT
  rw [hn] at hT h2
  have gi := fun hg => goes_in (i := i) (k := S.k.toNat) (n := p.length) (by omega) (by rw [hkk]; exact h1) hg
  have hmul : S.F ≠ 0 → S.F.toNat * (p.length + 1) = (S.F - 1).toNat * (p.length + 1) + (p.length + 1) := by
    intro hne
    obtain ⟨f, hf⟩ : ∃ f, S.F.toNat = f + 1 := ⟨S.F.toNat - 1, by omega⟩
    have hf1 : (S.F - 1).toNat = f := by omega
    rw [hf, hf1, Nat.add_mul, Nat.one_mul]
  have hput : ∀ v, (S.m.put i.a v).Six := fun v => MM.put_six hm _ _
  have hpl : ∀ v, (S.H.set S.n.toNat v).length = 12 := fun v => by simp [hH]
  unfold PS.act
  split
  · rename_i hop
    have hop := eq_of_beq hop
    simp [GI.takes, GI.gives, GI.goes, GI.follows, hop] at hT h2 h4 h5
    refine ⟨fun _ => ⟨⟨⟨by simp [PS.push, PS.nx, hH], hm⟩, ?_, ?_, ?_, ?_, ?_, hF0, hF1⟩, ?_⟩, by simp⟩
    all_goals simp only [List.getD_eq_getElem?_getD, PS.push, PS.nx, PS.meas, hk1']
    all_goals omega
  split
  · rename_i hop
    have hop := eq_of_beq hop
    simp [GI.takes, GI.gives, GI.goes, GI.follows, hop] at hT h2 h4 h5
    refine ⟨fun _ => ⟨⟨⟨by simp [PS.push, PS.nx, hH], hm⟩, ?_, ?_, ?_, ?_, ?_, hF0, hF1⟩, ?_⟩, by simp⟩
    all_goals simp only [List.getD_eq_getElem?_getD, PS.push, PS.nx, PS.meas, hk1']
    all_goals omega
  split
  · rename_i hop
    have hop := eq_of_beq hop
    simp [GI.takes, GI.gives, GI.goes, GI.follows, hop] at hT h2 h4 h5
    refine ⟨fun _ => ⟨⟨⟨hH, hput _⟩, ?_, ?_, ?_, ?_, ?_, hF0, hF1⟩, ?_⟩, by simp⟩
    all_goals simp only [List.getD_eq_getElem?_getD, PS.pop, PS.nx, PS.meas, hk1']
    all_goals omega
  split
  · rename_i hop
    have hop := eq_of_beq hop
    simp [GI.takes, GI.gives, GI.goes, GI.follows, hop] at hT h2 h4 h5
    refine ⟨fun _ => ⟨⟨⟨by simp [PS.push, PS.pop, PS.nx, hH], hm⟩, ?_, ?_, ?_, ?_, ?_, hF0, hF1⟩, ?_⟩, by simp⟩
    all_goals simp only [List.getD_eq_getElem?_getD, PS.push, PS.pop, PS.nx, PS.meas, hk1']
    all_goals omega
  split
  · rename_i hop
    have hop := eq_of_beq hop
    simp [GI.takes, GI.gives, GI.goes, GI.follows, hop] at hT h2 h4 h5
    refine ⟨fun _ => ⟨⟨⟨by simp [PS.push, PS.pop, PS.nx, hH], hm⟩, ?_, ?_, ?_, ?_, ?_, hF0, hF1⟩, ?_⟩, by simp⟩
    all_goals simp only [List.getD_eq_getElem?_getD, PS.push, PS.pop, PS.nx, PS.meas, hk1']
    all_goals omega
  split
  · rename_i hop
    have hop := eq_of_beq hop
    have hok6 := h1
    unfold GI.ok at hok6
    simp [hop] at hok6
    have gi := gi (by simp [GI.goes, hop])
    simp [GI.takes, GI.gives, GI.goes, GI.follows, hop] at hT h2 h4 h5
    refine ⟨fun _ => ?_, by simp⟩
    split
    · refine ⟨⟨⟨hH, hm⟩, ?_, ?_, ?_, ?_, ?_, hF0, hF1⟩, ?_⟩
      all_goals simp only [List.getD_eq_getElem?_getD, PS.pop, PS.nx, PS.meas]
      all_goals omega
    · refine ⟨⟨⟨hH, hm⟩, ?_, ?_, ?_, ?_, ?_, hF0, hF1⟩, ?_⟩
      all_goals simp only [List.getD_eq_getElem?_getD, PS.pop, PS.nx, PS.meas, hk1']
      all_goals omega
  split
  · rename_i hop
    have hop := eq_of_beq hop
    have hok6 := h1
    unfold GI.ok at hok6
    simp [hop] at hok6
    have gi := gi (by simp [GI.goes, hop])
    simp [GI.takes, GI.gives, GI.goes, GI.follows, hop] at hT h2 h4 h5
    refine ⟨fun _ => ⟨⟨⟨hH, hm⟩, ?_, ?_, ?_, ?_, ?_, hF0, hF1⟩, ?_⟩, by simp⟩
    all_goals simp only [List.getD_eq_getElem?_getD, PS.pop, PS.nx, PS.meas]
    all_goals omega
  · rename_i q1 q2 q3 q4 q5 q6 q7
    have hop : i.op = 8 := by
      have hok6 := h1
      unfold GI.ok at hok6
      simp only [q1, q2, q3, q4, q5, q6, q7, Bool.or_false, Bool.false_eq_true, if_false] at hok6
      split at hok6
      · rename_i hh; exact eq_of_beq hh
      · cases hok6
    have gi := gi (by simp [GI.goes, hop])
    simp [GI.takes, GI.gives, GI.goes, GI.follows, hop] at hT h2 h4 h5
    refine ⟨fun hF => ?_, fun hF => ?_⟩
    · have hF' : S.F ≠ 0 := by simpa [PS.nx] using hF
      rw [if_neg (by simpa [PS.nx] using hF')]
      have := hmul hF'
      refine ⟨⟨⟨hH, hm⟩, ?_, ?_, ?_, ?_, ?_, ?_, ?_⟩, ?_⟩
      all_goals simp only [List.getD_eq_getElem?_getD, PS.pop, PS.nx, PS.meas]
      all_goals omega
    · rw [if_pos (by simpa [PS.nx] using hF)]
theorem doK (x id : Nat) (hx : x ≠ id) (S : PS) (h : S.Ok) (i : GI) (k n : Nat) (hk : i.ok k n = true) (h0 : i.takes ≤ S.n) (h1 : S.n ≤ 12) (h2 : S.n - i.takes + i.gives ≤ 12) (h3 : 0 ≤ S.n) (hF0 : 0 ≤ S.F) (hF1 : S.F ≤ 100) :
    CallF Tryz.prog (actF i) ([.ptr x 0] ++ actCap i) (pfoot x id S) 0 (fun _ o => o = { rs := [.bool (S.act i).2], u := pu x id (S.act i).1 }) := by
  unfold actF actCap actV PS.act
  unfold GI.ok at hk
  cases q1 : i.op == 1
  case true =>
    have hop := eq_of_beq q1
    simp [GI.takes, GI.gives, hop] at h0 h2
    simp only [Bool.true_or, if_true, actW]
    exact act11_ok x id hx S _ _ _ (stp_push x id hx S h i (by omega) (by omega)) Tryz.call125
  cases q2 : i.op == 2
  case true =>
    have hop := eq_of_beq q2
    simp [GI.takes, GI.gives, hop] at h0 h2 hk
    simp only [Bool.true_or, Bool.or_true, Bool.false_eq_true, if_true, if_false, actW]
    exact act11_ok x id hx S _ _ _ (stp_load x id hx S h i (by omega) (by omega) hk.2) Tryz.call127
  cases q3 : i.op == 3
  case true =>
    have hop := eq_of_beq q3
    simp [GI.takes, GI.gives, hop] at h0 h2 hk
    simp only [Bool.true_or, Bool.or_true, Bool.false_eq_true, if_true, if_false, actW]
    exact act11_ok x id hx S _ _ _ (stp_store x id hx S h i (by omega) (by omega) hk.2.1 hk.2.2) Tryz.call129
  cases q4 : i.op == 4
  case true =>
    have hop := eq_of_beq q4
    simp [GI.takes, GI.gives, hop] at h0 h2 hk
    simp only [Bool.true_or, Bool.or_true, Bool.false_eq_true, if_true, if_false, actW]
    exact act11_ok x id hx S _ _ _ (stp_two x id hx S h i (by omega) (by omega)) Tryz.call132
  cases q5 : i.op == 5
  case true =>
    have hop := eq_of_beq q5
    simp [GI.takes, GI.gives, hop] at h0 h2 hk
    simp only [Bool.true_or, Bool.or_true, Bool.false_eq_true, if_true, if_false, actW]
    exact act11_ok x id hx S _ _ _ (stp_not x id hx S h i (by omega) (by omega)) Tryz.call134
  cases q6 : i.op == 6
  case true =>
    have hop := eq_of_beq q6
    simp [GI.takes, GI.gives, hop] at h0 h2 hk
    simp only [Bool.true_or, Bool.or_true, Bool.false_eq_true, if_true, if_false, actW]
    exact act11_ok x id hx S _ _ _ (stp_skip x id hx S h i (by omega) (by omega)) Tryz.call137
  cases q7 : i.op == 7
  case true =>
    have hop := eq_of_beq q7
    simp only [Bool.true_or, Bool.or_true, Bool.false_eq_true, if_true, if_false, actW]
    exact act11_ok x id hx S _ _ _ (stp_jump x id hx S h i) Tryz.call138
  simp only [Bool.or_false, Bool.false_eq_true, if_false]
  exact back_ok x id hx S h i hF0 hF1
end Go.Proofs.YtmicbfojofcigaaGreatDoor
