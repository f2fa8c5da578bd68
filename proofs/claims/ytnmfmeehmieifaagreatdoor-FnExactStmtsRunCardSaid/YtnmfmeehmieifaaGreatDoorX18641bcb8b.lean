/- A part of a proof: lemmas and contracts of functions; the last text of the claim says what is proved. -/
import Derived.Test.YtnmfmeehmieifaaGreatDoorX6b095e08ef
set_option linter.unusedSectionVars false
set_option linter.unusedSimpArgs false
set_option linter.unusedVariables false
namespace Go.Proofs.YtnmfmeehmieifaaGreatDoor
open Go Sg
set_option maxRecDepth 100000
set_option linter.unusedSimpArgs false
set_option linter.unusedVariables false
set_option linter.unusedSectionVars false
set_option maxHeartbeats 4000000
variable [ErrL]
theorem badS_eq (n d : Int) (s : Sm) : badS n d s = (decide (n > 16) || decide (d ≥ 4) || !(s.plain && s.e.ok)) := by
  unfold badS
  rw [vis_ok]
  cases hp : s.plain
  · simp
  · have : doNil s = false := by
      unfold Sm.plain at hp
      unfold doNil
      cases h1 : s.kind == 1 <;> cases h2 : s.kind == 2 <;> cases h3 : s.kind == 3 <;> simp_all
    rw [this]
    cases s.e.ok <;> simp
theorem manyS_cons (k : Nat) (s : Sm) (l : List Sm) : manyS (k + 1) (s :: l) = 1 + manyS k s.th + manyS k s.el + manyS (k + 1) l := by
  simp only [manyS, List.length_cons, List.map_cons, List.sum_cons]; omega
theorem formS_cons (k : Nat) (s : Sm) (l : List Sm) : formS (k + 1) (s :: l) = (s.plain && s.e.ok && formS k s.th && formS k s.el && formS (k + 1) l) := by
  simp only [formS, List.all_cons]
theorem manyS_nil (k : Nat) : manyS k [] = 0 := by cases k <;> rfl
theorem formS_nil (k : Nat) : formS k [] = true := by cases k <;> rfl
theorem visL_eq (k : Nat) : ∀ (l : List Sm) (d c : Nat), d + k = 4 → c ≤ 16 → Sm.visL l d c = if formS k l = true ∧ c + manyS k l ≤ 16 then some (c + manyS k l) else none := by
  induction k with
  | zero =>
    intro l d c hd hc
    cases l with
    | nil => simp [Sm.visL, formS, manyS, hc]
    | cons s l =>
      simp only [Sm.visL, Sm.vis_eq, badS_eq]
      have : decide ((d : Int) ≥ 4) = true := by simp; omega
      simp [this, formS]
  | succ k ih =>
    intro l
    induction l with
    | nil => intro d c hd hc; simp [Sm.visL, formS_nil, manyS_nil, hc]
    | cons s l ihl =>
      intro d c hd hc
      simp only [Sm.visL, Sm.vis_eq, badS_eq]
      have hd4 : decide ((d : Int) ≥ 4) = false := by simp; omega
      rw [manyS_cons, formS_cons, hd4, Bool.or_false]
      by_cases h16 : c + 1 > 16
      · have : decide (((c : Int) + 1) > 16) = true := by simp; omega
        rw [this, Bool.true_or, if_pos rfl, if_neg (by omega)]
      · have : decide (((c : Int) + 1) > 16) = false := by simp; omega
        rw [this, Bool.false_or]
        cases hp : (s.plain && s.e.ok)
        · simp
        · simp only [Bool.not_true, Bool.false_eq_true, if_false, Bool.true_and]
          rw [ih s.th (d + 1) (c + 1) (by omega) (by omega)]
          by_cases h1 : formS k s.th = true ∧ c + 1 + manyS k s.th ≤ 16
          · rw [if_pos h1]
            dsimp only
            rw [ih s.el (d + 1) _ (by omega) h1.2]
            by_cases h2 : formS k s.el = true ∧ c + 1 + manyS k s.th + manyS k s.el ≤ 16
            · rw [if_pos h2]
              dsimp only
              rw [ihl d _ hd h2.2]
              rw [h1.1, h2.1]
              simp only [Bool.true_and]
              have e : c + 1 + manyS k s.th + manyS k s.el + manyS (k + 1) l = c + (1 + manyS k s.th + manyS k s.el + manyS (k + 1) l) := by omega
              rw [e]
            · rw [if_neg h2, if_neg]
              rintro ⟨g1, g2⟩
              simp only [Bool.and_eq_true] at g1
              exact h2 ⟨g1.1.2, by omega⟩
          · rw [if_neg h1, if_neg]
            rintro ⟨g1, g2⟩
            simp only [Bool.and_eq_true] at g1
            exact h1 ⟨g1.1.1, by omega⟩
theorem visL_ok (l : List Sm) : Sm.visL l 0 0 = if okS l = true then some (manyS 4 l) else none := by
  rw [visL_eq 4 l 0 0 rfl (by omega)]
  simp only [Nat.zero_add, okS, Bool.and_eq_true, decide_eq_true_eq, and_comm]
theorem visL_is (l : List Sm) : (Sm.visL l 0 0).isSome = okS l := by
  rw [visL_ok]; cases okS l <;> rfl
theorem okS_form {l : List Sm} (h : okS l = true) : formS 4 l = true ∧ manyS 4 l ≤ 16 := by
  simpa [okS, and_comm] using h
theorem istmtsOk_ok (l : List Sm) (hs : Sm.szL l ≤ 1099511627776) : PureF Tryz.prog 30 [.rows 70 (Sm.csL l)] [.bool (okS l)] := by
  refine pureF_of Tryz.func30 rfl Tryz.ntmps30 (by simp) T_ ?_
  intro f0 B Q hQ
  have hv := visL_is l
  refine g_ [0] ?_
  refine g_ [0,3] ?_
  refine n_ ?_
  refine wpM_regionK [2] rfl fun Q1 hQ1 => ?_
  refine S_ ?_
  refine call_fn (l := [(B, .cells 3 [.int .i64 ((0 : Nat) : Int)])]) (first := []) (cap := []) (ps := [.rows 70 (Sm.csL l), .int .i64 ((0 : Nat) : Int), .ptr B 0]) (count_ok B _ l (Nat.le_refl _) hs 0 0 (by omega) (by omega)) Tryz.call70 rfl rfl rfl G_ (by simp -implicitDefEqProofs (disch := omega) only [go_sem, Int.natCast_zero]) ?_
  rintro out ⟨r1, c1, hr1, hc1, hk1, rfl⟩
  refine S_ ?_
  refine hQ1 _ _ (S_ ?_);clear hQ1 Q1
  refine e_ Tryz.results30 ?_
  first
  | exact True.intro
  | rw [← hr1, hv]
theorem ended_ok (id : Nat) (m : MM) (hm : m.Six) (F : Int) (b : Bool) : CallF Tryz.prog 32 [.ptr id 0, .int .i64 F, errV b] (mobj id m) 3 (fun ns o => ∃ x y z, ns = [x, y, z] ∧ o = { rs := [.agg (ocs x y z), .int .i64 (if b then 1 else 0), .int .i64 (if b then 0 else F)], nw := m.ol x y z }) := by
  refine callF_of' Tryz.func32 rfl Tryz.ntmps32 (by simp) ?_
  intro f0 B ns Q hB hns hQ
  have hid : id < B := hB id (by simp [hasKey, lk, mobj])
  obtain ⟨x, y, z, rfl⟩ : ∃ x y z, ns = [x, y, z] := by
    match ns, hns with
    | [x, y, z], _ => exact ⟨x, y, z, rfl⟩
  refine g_ [0,1,2,6] ?_
  refine n_ ?_
  refine wpM_regionK [0,1,6,11] rfl fun Q1 hQ1 => ?_
  refine S_ ?_
  refine cp_ (errIs_ok b) Tryz.call72 ?_
  refine hQ1 _ _ (S_ ?_);clear hQ1 Q1
  refine c_ (fun hc0 => ?_) fun hc0 => ?_
  ·
    refine n_ ?_
    refine wpM_regionK [6,7,8] rfl fun Q1 hQ1 => ?_
    refine S_ ?_
    refine call_fn (l := mobj id m) (first := []) (cap := []) (ps := [.ptr id 0]) (mem_ok m hm id) Tryz.call73 rfl rfl rfl G_ T_ ?_
    rintro out ⟨x2, y2, z2, ⟨⟩, rfl⟩
    refine S_ ?_
    refine hQ1 _ _ (S_ ?_);clear hQ1 Q1
    refine wpM_ret ?_
    try refine S_ ?_
    subst hc0
    refine hQ _ _ (retK [B + 1, B + 2, B + 3] [] (m.ol x y z) rfl rfl rfl (by rw [Tryz.results32] <;> simp (maxSteps := 1000000) -implicitDefEqProofs (disch := omega) only [go_sem] <;> rfl) ?_ ⟨x, y, z, rfl, rfl⟩ ?_ ?_ ?_ ?_ ?_ ?_)
    all_goals (first | (simp -implicitDefEqProofs (disch := omega) only [go_sem, List.nodup_cons, List.nodup_nil, true_or, or_true, List.mem_cons, List.not_mem_nil, if_true]; done) | (simp -implicitDefEqProofs (disch := omega) only [go_sem, List.nodup_cons, List.nodup_nil, true_or, or_true, List.mem_cons, List.not_mem_nil]; omega))
  refine n_ ?_
  refine wpM_regionK [6,7,8] rfl fun Q1 hQ1 => ?_
  refine S_ ?_
  refine call_fn (l := mobj id m) (first := []) (cap := []) (ps := [.ptr id 0]) (mem_ok m hm id) Tryz.call73 rfl rfl rfl G_ T_ ?_
  rintro out ⟨x2, y2, z2, ⟨⟩, rfl⟩
  refine S_ ?_
  refine hQ1 _ _ (S_ ?_);clear hQ1 Q1
  refine wpM_ret ?_
  try refine S_ ?_
  subst hc0
  refine hQ _ _ (retK [B + 1, B + 2, B + 3] [] (m.ol x y z) rfl rfl rfl (by rw [Tryz.results32] <;> simp (maxSteps := 1000000) -implicitDefEqProofs (disch := omega) only [go_sem] <;> rfl) ?_ ⟨x, y, z, rfl, rfl⟩ ?_ ?_ ?_ ?_ ?_ ?_)
  all_goals (first | (simp -implicitDefEqProofs (disch := omega) only [go_sem, List.nodup_cons, List.nodup_nil, true_or, or_true, List.mem_cons, List.not_mem_nil, if_true]; done) | (simp -implicitDefEqProofs (disch := omega) only [go_sem, List.nodup_cons, List.nodup_nil, true_or, or_true, List.mem_cons, List.not_mem_nil]; omega))
end Go.Proofs.YtnmfmeehmieifaaGreatDoor
namespace Go.Proofs.YtnmfmeehmieifaaGreatDoor
open Go Sg
set_option maxRecDepth 100000
set_option linter.unusedSimpArgs false
set_option linter.unusedVariables false
set_option linter.unusedSectionVars false
set_option maxHeartbeats 4000000
variable [ErrL]
def endO (x : MM × Nat × Bool) : MM × Int × Int := (x.1, if x.2.2 then 1 else 0, if x.2.2 then 0 else (x.2.1 : Int))
def noM : MM := ⟨[], [], []⟩
def runOk (m : MM) (l : List Sm) (F : Int) : Bool := m.ok && okS l && decide (0 ≤ F) && decide (F ≤ 100)
def runS (m : MM) (l : List Sm) (F : Int) : MM × Int × Int := if runOk m l F then endO (Sm.exL l m F.toNat) else (noM, 2, 0)
theorem isrun_ok (m : MM) (l : List Sm) (F : Int) (hm : m.Sm) (hs : Sm.szL l ≤ 1099511627776) : PureF Tryz.prog 10 [.agg m.cs, .rows 70 (Sm.csL l), .int .i64 F] [.agg (runS m l F).1.cs, .int .i64 (runS m l F).2.1, .int .i64 (runS m l F).2.2] := by
  refine pureF_of Tryz.func10 rfl Tryz.ntmps10 (by simp) T_ ?_
  intro f0 B Q hQ
  refine g_ [1,2,3,6] ?_
  refine n_ ?_
  refine wpM_regionK [1,2,6,9,10] rfl fun Q1 hQ1 => ?_
  refine S_ ?_
  refine call_fn (l := []) (first := []) (cap := []) (ps := [.agg m.cs]) (readMem_ok' m hm) Tryz.call29 rfl rfl rfl G_ T_ ?_
  rintro out ⟨x', p, l2, ⟨⟩, hp, rfl⟩
  refine S_ ?_
  refine hQ1 _ _ (S_ ?_);clear hQ1 Q1
  refine n_ ?_
  refine wpM_regionK [1,2,6,9,32] rfl fun Q1 hQ1 => ?_
  refine SD_ ?_
  first | refine cg_ (fun hb => istmtsOk_ok l hs) Tryz.call30 ?_ | refine cpD_ (istmtsOk_ok l hs) Tryz.call30 ?_
  refine hQ1 _ _ (S_ ?_);clear hQ1 Q1
  refine c_ (fun hc0 => ?_) fun hc0 => ?_
  ·
    refine g_ [6,7,8] ?_
    have hcs : runS m l F = (noM, 2, 0) := by
      rw [runS, if_neg]
      intro hh
      simp only [runOk, Bool.and_eq_true, decide_eq_true_eq] at hh
      obtain ⟨⟨⟨h1, h2⟩, h3⟩, h4⟩ := hh
      rw [h1, h2, decide_eq_false (by omega : ¬ F < 0), decide_eq_false (by omega : ¬ F > 100)] at hc0
      cases hc0
    refine wpM_le [(6, .ptr (B + 1) 0), (7, .int .i64 2), (8, .int .i64 0)] [(B + 1, .cells 28 [.rows 3 [], .rows 3 [], .rows 3 []])] T_ T_ T_ ?_
    refine e_ Tryz.results10 ?_
    first
    | exact True.intro
    | rw [hcs]
      repeat' apply And.intro
      all_goals rfl
  simp only [Bool.or_eq_false_iff, Bool.not_eq_false', decide_eq_false_iff_not] at hc0
  obtain ⟨⟨⟨h1, h2⟩, h3⟩, h4⟩ := hc0
  have hok : runOk m l F = true := by
    simp only [runOk, Bool.and_eq_true, decide_eq_true_eq]
    exact ⟨⟨⟨h1, h2⟩, by omega⟩, by omega⟩
  have hcs : runS m l F = endO (Sm.exL l m F.toNat) := by rw [runS, if_pos hok]
  have hsix := MM.ok_six h1
  have hsx := Sm.exL_six l m F.toNat hsix
  have hpp : p = .ptr (B + 2) 0 ∧ l2 = m.flat := by
    rcases hp with ⟨_, h2, h3⟩ | ⟨h5, _⟩
    · exact ⟨h2, h3⟩
    · rw [h1] at h5; cases h5
  obtain ⟨rfl, rfl⟩ := hpp
  have hFn : ((F.toNat : Nat) : Int) = F := by omega
  refine g_ [1,6,9,11] ?_
  refine n_ ?_
  refine wpM_regionK [6,9,11,12] rfl fun Q1 hQ1 => ?_
  refine S_ ?_
  refine call_fn (l := rfoot (B + 3) (B + 2) F.toNat m) (first := []) (cap := []) (ps := [.ptr (B + 3) 0, .rows 70 (Sm.csL l)]) (all_ok (B + 3) (B + 2) (by omega) _ l (Nat.le_refl _) hs ⟨4, (okS_form h2).1⟩ m F.toNat hsix (by omega)) Tryz.call31 rfl rfl rfl T_ (by simp -implicitDefEqProofs (disch := omega) only [go_sem, hFn]) ?_
  rintro out rfl
  refine S_ ?_
  refine hQ1 _ _ (S_ ?_);clear hQ1 Q1
  generalize hx : Sm.exL l m F.toNat = X at *
  refine n_ ?_
  refine wpM_regionK [6,7,8] rfl fun Q1 hQ1 => ?_
  refine S_ ?_
  refine call_fn (l := mobj (B + 2) X.1) (first := []) (cap := []) (ps := [.ptr (B + 2) 0, .int .i64 (X.2.1 : Int), errV X.2.2]) (ended_ok (B + 2) X.1 hsx (X.2.1 : Int) X.2.2) Tryz.call32 rfl rfl rfl G_ T_ ?_
  rintro out ⟨x2, y2, z2, ⟨⟩, rfl⟩
  refine S_ ?_
  refine hQ1 _ _ (S_ ?_);clear hQ1 Q1
  refine wpM_frz [B + 4, B + 5, B + 6] (X.1.tb (B + 4) (B + 5) (B + 6)) (by intro q hq; simp at hq; rcases hq with rfl | rfl | rfl <;> simp -implicitDefEqProofs (disch := omega) only [go_sem]) (X.1.frz hsx T_ T_ T_) ?_
  simp -implicitDefEqProofs (disch := omega) only [go_sem, MM.tb]
  refine e_ Tryz.results10 ?_
  first
  | exact True.intro
  | rw [hcs]
    repeat' apply And.intro
    all_goals rfl
end Go.Proofs.YtnmfmeehmieifaaGreatDoor
namespace Go.Proofs.YtnmfmeehmieifaaGreatDoor
open Go Sg
set_option linter.unusedSectionVars false
variable [Glob]
set_option maxRecDepth 100000
set_option linter.unusedSimpArgs false
set_option linter.unusedVariables false
set_option maxHeartbeats 4000000
end Go.Proofs.YtnmfmeehmieifaaGreatDoor
namespace Go.Proofs.YtnmfmeehmieifaaGreatDoor
open Go Sg
set_option linter.unusedSectionVars false
variable [Glob]
set_option maxRecDepth 100000
set_option linter.unusedSimpArgs false
set_option linter.unusedVariables false
set_option maxHeartbeats 4000000
@[go_sem] theorem Ex.mk_kind (k n : Int) (a : AD) (l : List Ex) : (Ex.mk k n a l).kind = k := rfl
@[go_sem] theorem Ex.mk_n (k n : Int) (a : AD) (l : List Ex) : (Ex.mk k n a l).n = n := rfl
@[go_sem] theorem Ex.mk_a (k n : Int) (a : AD) (l : List Ex) : (Ex.mk k n a l).a = a := rfl
@[go_sem] theorem Ex.mk_kids (k n : Int) (a : AD) (l : List Ex) : (Ex.mk k n a l).kids = l := rfl
@[go_sem] theorem Ex.csL_nil : Ex.csL [] = [] := rfl
def eb : Nat → Int
  | 0 => 4
  | d + 1 => 4 + 2 * eb d
end Go.Proofs.YtnmfmeehmieifaaGreatDoor
namespace Go.Proofs.YtnmfmeehmieifaaGreatDoor
open Go Sg
set_option linter.unusedSectionVars false
variable [Glob]
set_option maxRecDepth 100000
set_option linter.unusedSimpArgs false
set_option linter.unusedVariables false
set_option maxHeartbeats 4000000
end Go.Proofs.YtnmfmeehmieifaaGreatDoor
namespace Go.Proofs.YtnmfmeehmieifaaGreatDoor
open Go Sg
set_option linter.unusedSectionVars false
variable [Glob]
set_option maxRecDepth 100000
set_option linter.unusedSimpArgs false
set_option linter.unusedVariables false
set_option maxHeartbeats 4000000
structure Trn where
  fr : List Int
  to' : List Int
  w : Ex
  deriving Inhabited
structure GAct where
  kind : Int
  step : Int
  to' : AD
  deriving DecidableEq, Inhabited
structure Cht where
  steps : Int
  ts : List Trn
  as' : List GAct
  deriving Inhabited
structure Mrk where
  on : List Bool
  kept : List Bool
  deriving DecidableEq, Inhabited
def Trn.cs (t : Trn) : List PV := [.rows 3 (rowsI t.fr), .rows 3 (rowsI t.to'), .int .i64 t.w.kind, .int .i64 t.w.n, .int .i64 t.w.a.kind, .int .i64 t.w.a.at', .rows 68 (Ex.csL t.w.kids)]
@[go_sem] theorem Trn.cs_eq (t : Trn) : t.cs = [.rows 3 (rowsI t.fr), .rows 3 (rowsI t.to'), .int .i64 t.w.kind, .int .i64 t.w.n, .int .i64 t.w.a.kind, .int .i64 t.w.a.at', .rows 68 (Ex.csL t.w.kids)] := rfl
def GAct.cs (a : GAct) : List PV := [.int .i64 a.kind, .int .i64 a.step, .int .i64 a.to'.kind, .int .i64 a.to'.at']
@[go_sem] theorem GAct.cs_eq (a : GAct) : a.cs = [.int .i64 a.kind, .int .i64 a.step, .int .i64 a.to'.kind, .int .i64 a.to'.at'] := rfl
def rowsT (l : List Trn) : List (List PV) := l.map Trn.cs
def rowsA (l : List GAct) : List (List PV) := l.map GAct.cs
def Cht.cs (c : Cht) : List PV := [.int .i64 c.steps, .rows 90 (rowsT c.ts), .rows 94 (rowsA c.as')]
@[go_sem] theorem Cht.cs_eq (c : Cht) : c.cs = [.int .i64 c.steps, .rows 90 (rowsT c.ts), .rows 94 (rowsA c.as')] := rfl
def Mrk.cs (k : Mrk) : List PV := [.rows 4 (rowsB k.on), .rows 4 (rowsB k.kept)]
@[go_sem] theorem Mrk.cs_eq (k : Mrk) : k.cs = [.rows 4 (rowsB k.on), .rows 4 (rowsB k.kept)] := rfl
def plBad (l : List Int) (b : Int) (i : Nat) : Bool := decide (l.getD i 0 < 0) || decide (l.getD i 0 ≥ b) || (decide ((i : Int) > 0) && decide (l.getD i 0 ≤ l.getD ((i : Int) - 1).toNat 0))
def plOk (l : List Int) (b : Int) : Bool := (List.range l.length).all (fun i => !plBad l b i) && decide ((l.length : Int) > 0)
structure Trn.Sm (t : Trn) : Prop where
  fr : t.fr.length ≤ 1099511627776
  to' : t.to'.length ≤ 1099511627776
  w : t.w.sz ≤ 1099511627776
structure Cht.Sm (c : Cht) : Prop where
  ts : c.ts.length ≤ 1099511627776
  as' : c.as'.length ≤ 1099511627776
  t : ∀ i, i < c.ts.length → (c.ts.getD i default).Sm
def Trn.bad (s : Int) (t : Trn) : Bool := !plOk t.fr s || !plOk t.to' s || !t.w.ok
def GAct.bad (s : Int) (a : GAct) : Bool := decide (a.kind < 1) || decide (a.kind > 4) || decide (a.step < 0) || decide (a.step ≥ s) || !a.to'.ok || a.to'.kind != 2
def Cht.ok (c : Cht) : Bool := if decide (c.steps < 1) || decide (c.steps > 6) || decide ((c.ts.length : Int) > 6) || decide ((c.as'.length : Int) > 6) then false
  else c.ts.all (fun t => !t.bad c.steps) && c.as'.all (fun a => !a.bad c.steps)
def allOn (on : List Bool) (l : List Int) : Bool := l.all fun x => on.getD x.toNat false
end Go.Proofs.YtnmfmeehmieifaaGreatDoor
namespace Go.Proofs.YtnmfmeehmieifaaGreatDoor
open Go Sg
set_option linter.unusedSectionVars false
variable [Glob]
set_option maxRecDepth 100000
set_option linter.unusedSimpArgs false
set_option linter.unusedVariables false
set_option maxHeartbeats 4000000
def clr (b : Bool) (f : List Bool) (l : List Int) : List Bool := l.foldl (fun f x => f.set x.toNat b) f
@[go_sem] theorem clr_nil (b : Bool) (f : List Bool) : clr b f [] = f := rfl
def fstep (m : MM) (st : List Bool × List Int) (i : Nat) (t : Trn) : List Bool × List Int :=
  if !allOn st.1 t.fr || !(t.w.of m != 0) then st else (clr false st.1 t.fr, st.2 ++ [(i : Int)])
def fpre (m : MM) (c : Cht) (on : List Bool) (n : Nat) : List Bool × List Int := (List.range n).foldl (fun st i => fstep m st i (c.ts.getD i default)) (on, [])
@[go_sem] theorem fpre_zero (m : MM) (c : Cht) (on : List Bool) : fpre m c on 0 = (on, []) := rfl
structure Trn.Go (n : Nat) (t : Trn) : Prop where
  fr : ∀ i, i < t.fr.length → 0 ≤ t.fr.getD i 0 ∧ t.fr.getD i 0 < (n : Int)
  to' : ∀ i, i < t.to'.length → 0 ≤ t.to'.getD i 0 ∧ t.to'.getD i 0 < (n : Int)
  w : formD 6 t.w = true
end Go.Proofs.YtnmfmeehmieifaaGreatDoor
namespace Go.Proofs.YtnmfmeehmieifaaGreatDoor
open Go Sg
set_option linter.unusedSectionVars false
variable [Glob]
set_option maxRecDepth 100000
set_option linter.unusedSimpArgs false
set_option linter.unusedVariables false
set_option maxHeartbeats 4000000
attribute [go_sem] List.length_replicate
def spread (b : Bool) (pl : Trn → List Int) (c : Cht) (f : List Bool) (fs : List Int) : List Bool := fs.foldl (fun f i => clr b f (pl (c.ts.getD i.toNat default))) f
@[go_sem] theorem spread_nil (b : Bool) (pl : Trn → List Int) (c : Cht) (f : List Bool) : spread b pl c f [] = f := rfl
end Go.Proofs.YtnmfmeehmieifaaGreatDoor
namespace Go.Proofs.YtnmfmeehmieifaaGreatDoor
open Go Sg
set_option linter.unusedSectionVars false
variable [Glob]
set_option maxRecDepth 100000
set_option linter.unusedSimpArgs false
set_option linter.unusedVariables false
set_option maxHeartbeats 4000000
def kset (v : Bool) (kk : Int) (on : List Bool) (f : List Bool) (l : List GAct) : List Bool := l.foldl (fun f a => if a.kind == kk && on.getD a.step.toNat false then f.set a.to'.at'.toNat v else f) f
@[go_sem] theorem kset_nil (v : Bool) (kk : Int) (on : List Bool) (f : List Bool) : kset v kk on f [] = f := rfl
def GAct.In (n : Nat) (a : GAct) : Prop := 0 ≤ a.step ∧ a.step < (n : Int) ∧ 0 ≤ a.to'.at' ∧ a.to'.at' < 6
def litA (at' : Int) (on bg : List Bool) (a : GAct) : Bool := a.to'.at' == at' && ((a.kind == 1 && on.getD a.step.toNat false) || (a.kind == 4 && bg.getD a.step.toNat false))
def lit (c : Cht) (at' : Int) (on bg : List Bool) : Bool := c.as'.any (litA at' on bg)
end Go.Proofs.YtnmfmeehmieifaaGreatDoor
namespace Go.Proofs.YtnmfmeehmieifaaGreatDoor
open Go Sg
set_option linter.unusedSectionVars false
variable [Glob]
set_option maxRecDepth 100000
set_option linter.unusedSimpArgs false
set_option linter.unusedVariables false
set_option maxHeartbeats 4000000
end Go.Proofs.YtnmfmeehmieifaaGreatDoor
namespace Go.Proofs.YtnmfmeehmieifaaGreatDoor
open Go Sg
set_option linter.unusedSectionVars false
variable [Glob]
set_option maxRecDepth 100000
set_option linter.unusedSimpArgs false
set_option linter.unusedVariables false
set_option maxHeartbeats 4000000
def mstep (c : Cht) (kp on bg : List Bool) (m : MM) (a : GAct) : MM := m.put a.to' (numIs (kp.getD a.to'.at'.toNat false || lit c a.to'.at' on bg))
def mfold (c : Cht) (kp on bg : List Bool) (m : MM) (l : List GAct) : MM := l.foldl (mstep c kp on bg) m
@[go_sem] theorem mfold_nil (c : Cht) (kp on bg : List Bool) (m : MM) : mfold c kp on bg m [] = m := rfl
structure Cht.Go (c : Cht) (n : Nat) : Prop where
  steps : c.steps.toNat = n
  st : 0 ≤ c.steps
  n6 : n ≤ 6
  t : ∀ i, i < c.ts.length → (c.ts.getD i default).Go n
  a : ∀ i, i < c.as'.length → (c.as'.getD i default).In n
end Go.Proofs.YtnmfmeehmieifaaGreatDoor
namespace Go.Proofs.YtnmfmeehmieifaaGreatDoor
open Go Sg
set_option linter.unusedSectionVars false
variable [Glob]
set_option maxRecDepth 100000
set_option linter.unusedSimpArgs false
set_option linter.unusedVariables false
set_option maxHeartbeats 4000000
end Go.Proofs.YtnmfmeehmieifaaGreatDoor
namespace Go.Proofs.YtnmfmeehmieifaaGreatDoor
open Go Sg
set_option linter.unusedSectionVars false
variable [Glob]
set_option maxRecDepth 100000
set_option linter.unusedSimpArgs false
set_option linter.unusedVariables false
set_option maxHeartbeats 4000000
def trc (l : List Trn) : List PV := (rowsT l).flatten
def acc (l : List GAct) : List PV := (rowsA l).flatten
@[go_sem] theorem trc_nil : trc [] = [] := rfl
@[go_sem] theorem acc_nil : acc [] = [] := rfl
def TSm (l : List Trn) : Prop := l.length ≤ 10 ∧ ∀ t ∈ l, t.Sm
theorem TSm.app {l : List Trn} {t : Trn} (h : TSm l) (hl : l.length < 10) (ht : t.Sm) : TSm (l ++ [t]) := ⟨by simp; omega, fun x hx => by
  rcases List.mem_append.1 hx with h1 | h1
  · exact h.2 x h1
  · rw [List.mem_singleton.1 h1]; exact ht⟩
theorem TSm.nil : TSm [] := ⟨by simp, fun x hx => by simp at hx⟩
end Go.Proofs.YtnmfmeehmieifaaGreatDoor
namespace Go.Proofs.YtnmfmeehmieifaaGreatDoor
open Go Sg
set_option maxRecDepth 100000
set_option linter.unusedSimpArgs false
set_option linter.unusedVariables false
set_option linter.unusedSectionVars false
set_option maxHeartbeats 4000000
variable [Glob]
theorem Ex.ext' {a b : Ex} (h1 : a.kind = b.kind) (h2 : a.n = b.n) (h3 : a.a = b.a) (h4 : a.kids = b.kids) : a = b := by
  cases a; cases b
  simp only [Ex.kind, Ex.n, Ex.a, Ex.kids] at h1 h2 h3 h4
  subst h1; subst h2; subst h3; subst h4; rfl
open Classical in
noncomputable def same {α : Type} (a b : α) : Bool := decide (a = b)
theorem same_iff {α : Type} {a b : α} : same a b = true ↔ a = b := by simp [same]
theorem same_no {α : Type} {a b : α} (h : a ≠ b) : same a b = false := by simp [same, h]
theorem same_self {α : Type} (a : α) : same a a = true := by simp [same]
theorem range_ext {α : Type} [Inhabited α] {a b : List α} (h : a.length = b.length) (p : α → α → Bool) (hp : ∀ i, i < a.length → p (a.getD i default) (b.getD i default) = same (a.getD i default) (b.getD i default)) : (List.range a.length).all (fun i => p (a.getD i default) (b.getD i default)) = same a b := by
  by_cases hab : a = b
  · subst hab
    rw [same_self, List.all_eq_true]
    intro i hi
    rw [hp i (List.mem_range.1 hi), same_self]
  · rw [same_no hab, Bool.eq_false_iff]
    intro hall
    rw [List.all_eq_true] at hall
    refine hab (List.ext_getElem h fun i h1 h2 => ?_)
    have := hall i (List.mem_range.2 h1)
    rw [hp i h1, same_iff] at this
    simpa [List.getD, h1, h2] using this
theorem same_ex (a b : Ex) : (a.kind == b.kind && a.n == b.n && (a.a.kind == b.a.kind && a.a.at' == b.a.at') && (a.kids.length == b.kids.length && (List.range a.kids.length).all fun i => same (a.kids.getD i default) (b.kids.getD i default))) = same a b := by
  by_cases hl : a.kids.length = b.kids.length
  · rw [range_ext hl same fun _ _ => rfl, Bool.eq_iff_iff]
    simp only [Bool.and_eq_true, beq_iff_eq, same_iff]
    constructor
    · rintro ⟨⟨⟨h1, h2⟩, h3, h4⟩, _, h5⟩
      refine Ex.ext' h1 h2 ?_ h5
      cases hx : a.a; cases hy : b.a
      rw [hx, hy] at h3 h4
      simp only at h3 h4
      rw [h3, h4]
    · rintro rfl
      simp
  · rw [same_no (fun h => hl (by rw [h]))]
    have : (a.kids.length == b.kids.length) = false := by simpa using hl
    rw [this]; simp
end Go.Proofs.YtnmfmeehmieifaaGreatDoor
namespace Go.Proofs.YtnmfmeehmieifaaGreatDoor
open Go Sg
set_option maxRecDepth 100000
set_option linter.unusedSimpArgs false
set_option linter.unusedVariables false
set_option linter.unusedSectionVars false
set_option maxHeartbeats 4000000
variable [Glob]
end Go.Proofs.YtnmfmeehmieifaaGreatDoor
namespace Go.Proofs.YtnmfmeehmieifaaGreatDoor
open Go Sg
set_option linter.unusedSectionVars false
variable [Glob]
set_option maxRecDepth 100000
set_option linter.unusedSimpArgs false
set_option linter.unusedVariables false
set_option maxHeartbeats 4000000
end Go.Proofs.YtnmfmeehmieifaaGreatDoor
namespace Go.Proofs.YtnmfmeehmieifaaGreatDoor
open Go Sg
set_option maxRecDepth 100000
set_option linter.unusedSimpArgs false
set_option linter.unusedVariables false
set_option linter.unusedSectionVars false
set_option maxHeartbeats 4000000
variable [Glob]
theorem eqI_same (a b : List Int) : eqI a b = same a b := by
  unfold eqI
  by_cases h : a.length = b.length
  · rw [if_neg (by simp [h])]
    refine range_ext h (fun x y => !(x != y)) fun i hi => ?_
    by_cases hx : a.getD i 0 = b.getD i 0
    · show (!(a.getD i 0 != b.getD i 0)) = same (a.getD i 0) (b.getD i 0)
      rw [hx, same_self]; simp
    · show (!(a.getD i 0 != b.getD i 0)) = same (a.getD i 0) (b.getD i 0)
      rw [same_no hx]; simpa using hx
  · rw [if_pos (by simpa using (by omega : ¬ (a.length : Int) = b.length)), same_no (fun e => h (by rw [e]))]
theorem len_same {α : Type} [Inhabited α] (a b : List α) : (a.length == b.length && (List.range a.length).all fun i => same (a.getD i default) (b.getD i default)) = same a b := by
  by_cases h : a.length = b.length
  · rw [range_ext h same fun _ _ => rfl]; simp [h]
  · rw [same_no (fun e => h (by rw [e]))]
    have : (a.length == b.length) = false := by simpa using h
    rw [this]; rfl
end Go.Proofs.YtnmfmeehmieifaaGreatDoor
namespace Go.Proofs.YtnmfmeehmieifaaGreatDoor
open Go Sg
set_option maxRecDepth 100000
set_option linter.unusedSimpArgs false
set_option linter.unusedVariables false
set_option linter.unusedSectionVars false
set_option maxHeartbeats 4000000
variable [ErrL]
theorem wh_gas {c : MM → Bool} {b : MM → Nat → MM × Nat × Bool} (h : ∀ m F, (b m F).2.1 ≤ F) : ∀ (F g : Nat) (m : MM), F < g → wh c b g m F = wh c b (F + 1) m F := by
  intro F
  induction F using Nat.strongRecOn with
  | _ F ih =>
    intro g m hg
    obtain ⟨g, rfl⟩ : ∃ g', g = g' + 1 := ⟨g - 1, by omega⟩
    have hb := h m F
    simp only [wh]
    split
    · split
      · rfl
      · split
        · rfl
        · rename_i h3
          rw [ih ((b m F).2.1 - 1) (by omega) g _ (by omega), ih ((b m F).2.1 - 1) (by omega) F _ (by omega)]
    · rfl
@[go_sem] theorem codeB (b : Bool) : ((if b = true then (1 : Int) else 0) != 0) = b := by cases b <;> rfl
theorem endO_1 (X : MM × Nat × Bool) : (endO X).1 = X.1 := rfl
def RunT (l : List Sm) : Prop := ∀ (m : MM) (F x y z : Nat), m.Six → x ≠ y → x ≠ z → y ≠ z → F ≤ 100 → CallF Tryz.prog 25 [.agg (ocs x y z), .rows 70 (Sm.csL l), .int .i64 (F : Nat)] (m.ol x y z) 0 (fun _ o => o = { rs := [.agg (ocs x y z), .int .i64 (if (Sm.exL l m F).2.2 = true then 1 else 0), .int .i64 (if (Sm.exL l m F).2.2 = true then 0 else ((Sm.exL l m F).2.1 : Nat))], u := (Sm.exL l m F).1.ou x y z })
theorem while_ok (s : Sm) (he : s.e.ok = true) (ih : RunT s.th) (m : MM) (F x y z : Nat) (hm : m.Six) (h1 : x ≠ y) (h2 : x ≠ z) (h3 : y ≠ z) (hF : F ≤ 100) (W : MM × Nat × Bool) (hW : W = wh (fun m => s.e.of m != 0) (fun m F => Sm.exL s.th m F) (F + 1) m F) :
    CallF Tryz.prog 63 [.agg (ocs x y z), .agg s.cs, .int .i64 (F : Nat)] (m.ol x y z) 0 (fun _ o => o = { rs := [.agg (ocs x y z), .int .i64 (if W.2.2 = true then 1 else 0), .int .i64 (if W.2.2 = true then 0 else (W.2.1 : Nat))], u := W.1.ou x y z }) := by
  have hle := fun m F => Sm.exL_le s.th m F
  have hf := ok_form he
  refine callF_of' Tryz.func63 rfl Tryz.ntmps63 (by simp) ?_
  intro f0 B ns Q hB hns hQ
  have hx : x < B := hB x (by simp [hasKey, lk, MM.ol])
  have hy : y < B := hB y (by simp [hasKey, lk, MM.ol, h1])
  have hz : z < B := hB z (by simp [hasKey, lk, MM.ol, h2, h3])
  obtain rfl : ns = [] := List.eq_nil_of_length_eq_zero hns
  refine g_ [2,3,4,6] ?_
  refine n_ ?_
  refine wpM_loopS (fun q r s' => ∃ (F0 M0 : Nat) (m0 : MM), r = F0 + 1 ∧ F0 ≤ F ∧ m0.Six ∧ W = wh (fun m => s.e.of m != 0) (fun m F => Sm.exL s.th m F) (F0 + 1) m0 F0 ∧ q.M ≤ M0 ∧ s' = { q with env := setE 2 (.int .i64 (F0 : Nat)) q.env, l := setl x (.cells 3 (ints m0.i)) (setl y (.cells 3 (ints m0.o)) (setl z (.cells 3 (ints m0.v)) q.l)), M := M0 }) (F + 1) ?_ ?_
  ·
    refine .of' _ _ ⟨F, B + 3, m, rfl, Nat.le_refl _, hm, hW, Nat.le_refl _, rfl⟩ ?_ ?_ ?_ <;> exact L_
  rintro r s' ⟨F0, M0, m0, hr, hF0, hm0, hW0, hM0, rfl⟩
  dsimp only at hM0
  try refine S_ ?_
  refine n_ ?_
  refine wpM_regionK [2,3,4,6,16] rfl fun Q1 hQ1 => ?_
  refine S_ ?_
  refine call_rs (of_okO m0 hm0 h1 h2 h3 s.e hf) (by simp -implicitDefEqProofs (disch := omega) only [go_sem, h1, h2, h3]) Tryz.call62 rfl rfl rfl F_ ?_
  refine S_ ?_
  refine cp_ (on_ok (s.e.of m0)) Tryz.call64 ?_
  refine hQ1 _ _ (S_ ?_);clear hQ1 Q1
  refine c_ (fun hc0 => ?_) fun hc0 => ?_
  ·
    have hl := hle m0 F0
    have hsx := Sm.exL_six s.th m0 F0 hm0
    have hih := ih m0 F0 x y z hm0 h1 h2 h3 (by omega)
    have hW1 : W = if (Sm.exL s.th m0 F0).2.2 then Sm.exL s.th m0 F0 else if (Sm.exL s.th m0 F0).2.1 = 0 then ((Sm.exL s.th m0 F0).1, 0, true) else wh (fun m => s.e.of m != 0) (fun m F => Sm.exL s.th m F) F0 (Sm.exL s.th m0 F0).1 ((Sm.exL s.th m0 F0).2.1 - 1) := by
      rw [hW0, wh, if_pos hc0]
    generalize hX : Sm.exL s.th m0 F0 = X at *
    refine n_ ?_
    refine wpM_regionK [3,4,6,9,10,11] rfl fun Q1 hQ1 => ?_
    refine S_ ?_
    refine call_fn (l := m0.ol x y z) (first := []) (cap := []) (ps := [.agg (ocs x y z), .rows 70 (Sm.csL s.th), .int .i64 (F0 : Nat)]) hih Tryz.call25 rfl rfl rfl T_ T_ ?_
    rintro out rfl
    refine S_ ?_
    refine hQ1 _ _ (S_ ?_);clear hQ1 Q1
    refine g_ [3,4,6,10,11] ?_
    refine g_ [2,3,4,6,10] ?_
    refine g_ [2,3,4,6,10,29] ?_
    refine c_ (fun hc1 => ?_) fun hc1 => ?_
    ·
      rw [if_pos hc1] at hW1
      refine g_ [6,7,8] ?_
      refine wpM_ret ?_
      try refine S_ ?_
      subst hW1
      refine hQ _ _ (ret0 (W.1.ou x y z) rfl rfl rfl (by rw [Tryz.results63] <;> simp (maxSteps := 1000000) -implicitDefEqProofs (disch := omega) only [go_sem] <;> rfl) rfl ?_ ?_ ?_ ?_)
      all_goals simp -implicitDefEqProofs (disch := omega) only [go_sem, true_or, or_true]
    rw [if_neg (by rw [hc1]; simp)] at hW1
    rw [show (if X.2.2 = true then (0 : Int) else ((X.2.1 : Nat) : Int)) = ((X.2.1 : Nat) : Int) from by rw [hc1]; rfl]
    refine g_ [2,3,4,6,34] ?_
    refine c_ (fun hc2 => ?_) fun hc2 => ?_
    ·
      have h0 : X.2.1 = 0 := by omega
      rw [if_pos h0] at hW1
      refine g_ [6,7,8] ?_
      refine wpM_ret ?_
      try refine S_ ?_
      subst hW1
      refine hQ _ _ (ret0 (X.1.ou x y z) rfl rfl rfl (by rw [Tryz.results63] <;> simp (maxSteps := 1000000) -implicitDefEqProofs (disch := omega) only [go_sem] <;> rfl) rfl ?_ ?_ ?_ ?_)
      all_goals simp -implicitDefEqProofs (disch := omega) only [go_sem, true_or, or_true]
    have h0 : X.2.1 ≠ 0 := by omega
    rw [if_neg h0, wh_gas hle (X.2.1 - 1) F0 X.1 (by omega)] at hW1
    refine g_ [2,3,4,6] ?_
    rw [show ((X.2.1 : Nat) : Int) - 1 = ((X.2.1 - 1 : Nat) : Int) from by omega]
    refine .of' _ _ ⟨X.2.1 - 1 + 1, by omega, X.2.1 - 1, M0 + 1, X.1, rfl, by omega, hsx, hW1, by (first | omega | (dsimp only at hM0 ⊢; omega)), rfl⟩ ?_ ?_ ?_ <;> exact L_
  have hW1 : W = (m0, F0, false) := by
    rw [hW0, wh, if_neg (by rw [hc0]; simp)]
  refine g_ [6,7,8] ?_
  refine wpM_ret ?_
  try refine S_ ?_
  subst hW1
  refine hQ _ _ (ret0 (m0.ou x y z) rfl rfl rfl (by rw [Tryz.results63] <;> simp (maxSteps := 1000000) -implicitDefEqProofs (disch := omega) only [go_sem] <;> rfl) rfl ?_ ?_ ?_ ?_)
  all_goals simp -implicitDefEqProofs (disch := omega) only [go_sem, true_or, or_true]
theorem l4Run_ok : ∀ (N : Nat) (l : List Sm) (d : Nat), Sm.szL l ≤ N → Sm.szL l ≤ 1099511627776 → formS d l = true → RunT l := by
  intro N
  induction N using Nat.strongRecOn with
  | _ N ihN =>
    intro l d hN hs hform m F x y z hm h1 h2 h3 hF
    have hlen := Sm.len_szL l
    refine callF_of' Tryz.func25 rfl Tryz.ntmps25 (by simp) ?_
    intro f0 B ns Q hB hns hQ
    have hx : x < B := hB x (by simp [hasKey, lk, MM.ol])
    have hy : y < B := hB y (by simp [hasKey, lk, MM.ol, h1])
    have hz : z < B := hB z (by simp [hasKey, lk, MM.ol, h2, h3])
    obtain rfl : ns = [] := List.eq_nil_of_length_eq_zero hns
    refine g_ [1,2,3,6] ?_
    refine g_ [1,2,3,6,9] ?_
    refine n_ ?_
    refine wpM_loopS (fun q r s' => ∃ (i0 M0 : Nat), i0 + r = l.length ∧ (Sm.exL (l.take i0) m F).2.2 = false ∧ q.M ≤ M0 ∧ s' = { q with env := setE 9 (.int .i64 (i0 : Nat)) (setE 2 (.int .i64 ((Sm.exL (l.take i0) m F).2.1 : Nat)) q.env), l := setl x (.cells 3 (ints (Sm.exL (l.take i0) m F).1.i)) (setl y (.cells 3 (ints (Sm.exL (l.take i0) m F).1.o)) (setl z (.cells 3 (ints (Sm.exL (l.take i0) m F).1.v)) q.l)), M := M0 }) (l.length) ?_ ?_
    ·
      refine .of' _ _ ⟨0, B + 2, by omega, rfl, Nat.le_refl _, rfl⟩ ?_ ?_ ?_
      all_goals simp only [List.take_zero, Sm.exL_nil]
      all_goals exact L_
    rintro r s' ⟨i0, M0, hir, hnl, hM0, rfl⟩
    dsimp only at hM0
    try refine S_ ?_
    refine g_ [1,2,3,6,9,15] ?_
    refine c_ (fun hc0 => ?_) fun hc0 => ?_
    ·
      have hl0 : i0 < l.length := by omega
      obtain ⟨hpl, heo, d', hf1, hf2⟩ := formS_at hform hl0
      have hle := Sm.exL_le (l.take i0) m F
      have hsx := Sm.exL_six (l.take i0) m F hm
      have hst := Sm.exL_take l m F i0 hl0
      rw [hnl, if_neg (by simp)] at hst
      rw [Sm.ex_eq] at hst
      have hsz := Sm.get_in hl0
      have hff := ok_form heo
      have hlong : (Sm.exL (l.take (i0 + 1)) m F).2.2 = true → Sm.exL l m F = Sm.exL (l.take (i0 + 1)) m F := Sm.exL_long
      generalize hX : Sm.exL (l.take i0) m F = X at *
      refine g_ [1,2,3,6,9,10] ?_
      generalize ht : l.getD i0 default = t at *
      refine g_ [1,2,3,6,9,10,11] ?_
      refine g_ [1,2,3,6,9,10,11,31] ?_
      refine c_ (fun hc1 => ?_) fun hc1 => ?_
      ·
        have hto : t.to'.ok = true := by
          unfold Sm.plain at hpl
          rw [if_pos hc1] at hpl
          simp only [Bool.and_eq_true] at hpl
          exact hpl.1.1.1
        have hta := AD.ok_at hto
        rw [if_pos hc1] at hst
        refine dr_ mixed [1,2,3,6,9,11] 0 5 [B, M0, x, y, z] [⟨[3],[0],[],[],false⟩,⟨[10],[],[],[],false⟩,⟨[36],[1],[],[],false⟩,⟨[10],[],[],[],false⟩,⟨[38],[1],[],[],false⟩,⟨[3],[0],[],[],false⟩,⟨[39,40],[2,3,4],[],[],true⟩,⟨[35,37,41],[2,3,4],[2,3,4],[],true⟩,⟨[3,42],[0],[0],[],false⟩] [0,1,2,3,4,5,6,7,8] [[],[],[1],[],[3],[],[3,4,5],[0,1,2,3,4,5,6],[0,1,2,3,4,5,6,7]] 5 (htbl := by simp [h1, h2, h3]; omega) (hnm := by simp) ?_
        intro O A K hO hA hK;simp only [atL_cons,atL_nil,Nat.reduceAdd,Nat.zero_add] at hO hA
        refine SO_ ?_
        refine loud_r (of_okO X.1 hsx h1 h2 h3 t.e hff) (subG_spec (by simp -implicitDefEqProofs (disch := omega) only [go_sem, h1, h2, h3])) Tryz.call62 rfl rfl F_ rfl ?_
        refine SO_ ?_
        refine loud_fn (first := []) (cap := []) (l := X.1.ol x y z) (put_ok X.1 t.to' (t.e.of X.1) x y z hsx h1 h2 h3 hta) Tryz.call61 rfl rfl F_ (subG_spec (by simp -implicitDefEqProofs (disch := omega) only [go_sem, h1, h2, h3])) rfl ?_
        rintro out rfl
        refine ⟨rfl, ?_⟩
        refine SO_ ?_
        refine hK _ (S_ ?_);clear hK K hO hA O A
        refine g_ [1,2,3,6,9,11,71] ?_
        refine c_ (fun hc2 => ?_) fun hc2 => ?_
        · exfalso; simp at hc2
        refine g_ [1,2,3,6,9] ?_
        refine .of' _ _ ⟨r - 1, by omega, i0 + 1, M0 + 1, by omega, by first | exact hnl2 | (rw [hst]), by (first | omega | (dsimp only; omega)), rfl⟩ ?_ ?_ ?_
        all_goals (try rw [hst])
        all_goals exact L_
      rw [if_neg (by rw [hc1]; simp)] at hst
      refine g_ [1,2,3,6,9,10,43] ?_
      refine c_ (fun hc3 => ?_) fun hc3 => ?_
      ·
        rw [if_pos hc3] at hst
        have hwh := while_ok t heo (ihN (Sm.szL t.th) (by omega) t.th d' (Nat.le_refl _) (by omega) hf1) X.1 X.2.1 x y z hsx h1 h2 h3 (by omega) _ rfl
        generalize hY : wh (fun m => t.e.of m != 0) (fun m F => Sm.exL t.th m F) (X.2.1 + 1) X.1 X.2.1 = Y at hst hwh
        refine wpM_regionK [1,2,3,6,9,11] rfl fun Q1 hQ1 => ?_
        refine S_ ?_
        refine call_fn (l := X.1.ol x y z) (first := []) (cap := []) (ps := [.agg (ocs x y z), .agg t.cs, .int .i64 (X.2.1 : Nat)]) hwh Tryz.call63 rfl rfl rfl T_ T_ ?_
        rintro out rfl
        refine S_ ?_
        refine hQ1 _ _ (S_ ?_);clear hQ1 Q1
        refine g_ [1,2,3,6,9,11,71] ?_
        refine c_ (fun hc4 => ?_) fun hc4 => ?_
        ·
          refine g_ [6,7,8] ?_
          refine wpM_ret ?_
          try refine S_ ?_
          have hh := hlong (by rw [hst]; exact hc4)
          rw [hst] at hh
          rw [hh] at hQ
          refine hQ _ _ (ret0 (Y.1.ou x y z) rfl rfl rfl (by rw [Tryz.results25] <;> simp (maxSteps := 1000000) -implicitDefEqProofs (disch := omega) only [go_sem] <;> rfl) rfl ?_ ?_ ?_ ?_)
          all_goals simp -implicitDefEqProofs (disch := omega) only [go_sem, true_or, or_true]
        rw [show (if Y.2.2 = true then (0 : Int) else ((Y.2.1 : Nat) : Int)) = ((Y.2.1 : Nat) : Int) from by rw [hc4]; rfl]
        have hnl2 : (Sm.exL (l.take (i0 + 1)) m F).2.2 = false := by rw [hst]; exact hc4
        refine g_ [1,2,3,6,9] ?_
        refine .of' _ _ ⟨r - 1, by omega, i0 + 1, M0 + 1, by omega, by first | exact hnl2 | (rw [hst]), by (first | omega | (dsimp only; omega)), rfl⟩ ?_ ?_ ?_
        all_goals (try rw [hst])
        all_goals exact L_
      rw [if_neg (by rw [hc3]; simp)] at hst
      refine n_ ?_
      refine wpM_regionK [1,2,3,6,9,10,55] rfl fun Q1 hQ1 => ?_
      refine S_ ?_
      refine call_rs (of_okO X.1 hsx h1 h2 h3 t.e hff) T_ Tryz.call62 rfl rfl rfl F_ ?_
      refine S_ ?_
      refine cp_ (on_ok (t.e.of X.1)) Tryz.call64 ?_
      refine hQ1 _ _ (S_ ?_);clear hQ1 Q1
      refine c_ (fun hc5 => ?_) fun hc5 => ?_
      ·
        rw [if_pos hc5] at hst
        have hwh := ihN (Sm.szL t.th) (by omega) t.th d' (Nat.le_refl _) (by omega) hf1 X.1 X.2.1 x y z hsx h1 h2 h3 (by omega)
        generalize hY : Sm.exL t.th X.1 X.2.1 = Y at hst hwh
        refine wpM_regionK [1,2,3,6,9,11] rfl fun Q1 hQ1 => ?_
        refine S_ ?_
        refine call_fn (l := X.1.ol x y z) (first := []) (cap := []) (ps := [.agg (ocs x y z), .rows 70 (Sm.csL t.th), .int .i64 (X.2.1 : Nat)]) hwh Tryz.call25 rfl rfl rfl T_ T_ ?_
        rintro out rfl
        refine S_ ?_
        refine hQ1 _ _ (S_ ?_);clear hQ1 Q1
        refine g_ [1,2,3,6,9,11,71] ?_
        refine c_ (fun hc6 => ?_) fun hc6 => ?_
        ·
          refine g_ [6,7,8] ?_
          refine wpM_ret ?_
          try refine S_ ?_
          have hh := hlong (by rw [hst]; exact hc6)
          rw [hst] at hh
          rw [hh] at hQ
          refine hQ _ _ (ret0 (Y.1.ou x y z) rfl rfl rfl (by rw [Tryz.results25] <;> simp (maxSteps := 1000000) -implicitDefEqProofs (disch := omega) only [go_sem] <;> rfl) rfl ?_ ?_ ?_ ?_)
          all_goals simp -implicitDefEqProofs (disch := omega) only [go_sem, true_or, or_true]
        rw [show (if Y.2.2 = true then (0 : Int) else ((Y.2.1 : Nat) : Int)) = ((Y.2.1 : Nat) : Int) from by rw [hc6]; rfl]
        have hnl2 : (Sm.exL (l.take (i0 + 1)) m F).2.2 = false := by rw [hst]; exact hc6
        refine g_ [1,2,3,6,9] ?_
        refine .of' _ _ ⟨r - 1, by omega, i0 + 1, M0 + 1, by omega, by first | exact hnl2 | (rw [hst]), by (first | omega | (dsimp only; omega)), rfl⟩ ?_ ?_ ?_
        all_goals (try rw [hst])
        all_goals exact L_
      rw [if_neg (by rw [hc5]; simp)] at hst
      have hwh := ihN (Sm.szL t.el) (by omega) t.el d' (Nat.le_refl _) (by omega) hf2 X.1 X.2.1 x y z hsx h1 h2 h3 (by omega)
      generalize hY : Sm.exL t.el X.1 X.2.1 = Y at hst hwh
      refine wpM_regionK [1,2,3,6,9,11] rfl fun Q1 hQ1 => ?_
      refine S_ ?_
      refine call_fn (l := X.1.ol x y z) (first := []) (cap := []) (ps := [.agg (ocs x y z), .rows 70 (Sm.csL t.el), .int .i64 (X.2.1 : Nat)]) hwh Tryz.call25 rfl rfl rfl T_ T_ ?_
      rintro out rfl
      refine S_ ?_
      refine hQ1 _ _ (S_ ?_);clear hQ1 Q1
      refine g_ [1,2,3,6,9,11,71] ?_
      refine c_ (fun hc7 => ?_) fun hc7 => ?_
      ·
        refine g_ [6,7,8] ?_
        refine wpM_ret ?_
        try refine S_ ?_
        have hh := hlong (by rw [hst]; exact hc7)
        rw [hst] at hh
        rw [hh] at hQ
        refine hQ _ _ (ret0 (Y.1.ou x y z) rfl rfl rfl (by rw [Tryz.results25] <;> simp (maxSteps := 1000000) -implicitDefEqProofs (disch := omega) only [go_sem] <;> rfl) rfl ?_ ?_ ?_ ?_)
        all_goals simp -implicitDefEqProofs (disch := omega) only [go_sem, true_or, or_true]
      rw [show (if Y.2.2 = true then (0 : Int) else ((Y.2.1 : Nat) : Int)) = ((Y.2.1 : Nat) : Int) from by rw [hc7]; rfl]
      have hnl2 : (Sm.exL (l.take (i0 + 1)) m F).2.2 = false := by rw [hst]; exact hc7
      refine g_ [1,2,3,6,9] ?_
      refine .of' _ _ ⟨r - 1, by omega, i0 + 1, M0 + 1, by omega, by first | exact hnl2 | (rw [hst]), by (first | omega | (dsimp only; omega)), rfl⟩ ?_ ?_ ?_
      all_goals (try rw [hst])
      all_goals exact L_
    refine g_ [6,7,8] ?_
    refine wpM_ret ?_
    try refine S_ ?_
    obtain rfl : i0 = l.length := by omega
    rw [List.take_of_length_le (Nat.le_refl _)] at hnl ⊢
    generalize hX : Sm.exL l m F = X at *
    refine hQ _ _ (ret0 (X.1.ou x y z) rfl rfl rfl (by rw [hnl]; exact (by rw [Tryz.results25] <;> simp (maxSteps := 1000000) -implicitDefEqProofs (disch := omega) only [go_sem] <;> rfl)) rfl ?_ ?_ ?_ ?_)
    all_goals simp -implicitDefEqProofs (disch := omega) only [go_sem, true_or, or_true]
theorem srun_ok (m : MM) (l : List Sm) (F : Int) (hm : m.Sm) (hs : Sm.szL l ≤ 1099511627776) : PureF Tryz.prog 7 [.agg m.cs, .rows 70 (Sm.csL l), .int .i64 F] [.agg (runS m l F).1.cs, .int .i64 (runS m l F).2.1, .int .i64 (runS m l F).2.2] := by
  refine pureF_of Tryz.func7 rfl Tryz.ntmps7 (by simp) T_ ?_
  intro f0 B Q hQ
  refine g_ [1,2,3,6] ?_
  refine n_ ?_
  refine wpM_regionK [1,2,3,6,24] rfl fun Q1 hQ1 => ?_
  refine SD_ ?_
  refine cpD_ (memOk_ok m hm) Tryz.call23 ?_
  first | refine cg_ (fun hb => stmtsOk_ok l hs) Tryz.call24 ?_ | refine cpD_ (stmtsOk_ok l hs) Tryz.call24 ?_
  refine hQ1 _ _ (S_ ?_);clear hQ1 Q1
  refine c_ (fun hc0 => ?_) fun hc0 => ?_
  ·
    refine g_ [6,7,8] ?_
    have hcs : runS m l F = (noM, 2, 0) := by
      rw [runS, if_neg]
      intro hh
      simp only [runOk, Bool.and_eq_true, decide_eq_true_eq] at hh
      obtain ⟨⟨⟨h1, h2⟩, h3⟩, h4⟩ := hh
      rw [h1, h2, decide_eq_false (by omega : ¬ F < 0), decide_eq_false (by omega : ¬ F > 100)] at hc0
      cases hc0
    refine wpM_le [(6, .ptr (B + 1) 0), (7, .int .i64 2), (8, .int .i64 0)] [(B + 1, .cells 28 [.rows 3 [], .rows 3 [], .rows 3 []])] T_ T_ T_ ?_
    refine e_ Tryz.results7 ?_
    first
    | exact True.intro
    | rw [hcs]
      repeat' apply And.intro
      all_goals rfl
  simp only [Bool.or_eq_false_iff, Bool.not_eq_false', decide_eq_false_iff_not] at hc0
  obtain ⟨⟨⟨h1, h2⟩, h3⟩, h4⟩ := hc0
  have hok : runOk m l F = true := by
    simp only [runOk, Bool.and_eq_true, decide_eq_true_eq]
    exact ⟨⟨⟨h1, h2⟩, by omega⟩, by omega⟩
  have hcs : runS m l F = endO (Sm.exL l m F.toNat) := by rw [runS, if_pos hok]
  have hsix := MM.ok_six h1
  have hsx := Sm.exL_six l m F.toNat hsix
  have hFn : ((F.toNat : Nat) : Int) = F := by omega
  have hrun := l4Run_ok _ l 4 (Nat.le_refl _) hs (okS_form h2).1 m F.toNat (B + 2) (B + 3) (B + 4) hsix (by omega) (by omega) (by omega) (by omega)
  rw [hFn] at hrun
  generalize hx : Sm.exL l m F.toNat = X at *
  refine n_ ?_
  refine wpM_regionK [6,7,8] rfl fun Q1 hQ1 => ?_
  refine S_ ?_
  refine call_fn (l := []) (first := []) (cap := []) (ps := [.agg m.cs]) (l2copy_ok m hsix) Tryz.call26 rfl rfl rfl T_ T_ ?_
  rintro out ⟨x2, y2, z2, hns', rfl⟩
  injection hns' with hn1 hns'
  injection hns' with hn2 hns'
  injection hns' with hn3 hns'
  subst hn1 hn2 hn3
  refine S_ ?_
  refine call_fn (l := m.ol (B + 2) (B + 3) (B + 4)) (first := []) (cap := []) (ps := [.agg (ocs (B + 2) (B + 3) (B + 4)), .rows 70 (Sm.csL l), .int .i64 F]) hrun Tryz.call25 rfl rfl rfl T_ T_ ?_
  rintro out rfl
  refine S_ ?_
  refine hQ1 _ _ (S_ ?_);clear hQ1 Q1
  refine wpM_frz [B + 2, B + 3, B + 4] (X.1.tb (B + 2) (B + 3) (B + 4)) (by intro q hq; simp at hq; rcases hq with rfl | rfl | rfl <;> simp -implicitDefEqProofs (disch := omega) only [go_sem]) (X.1.frz hsx T_ T_ T_) ?_
  simp -implicitDefEqProofs (disch := omega) only [go_sem, MM.tb]
  refine e_ Tryz.results7 ?_
  first
  | exact True.intro
  | rw [hcs]
    repeat' apply And.intro
    all_goals rfl
end Go.Proofs.YtnmfmeehmieifaaGreatDoor
namespace Go.Proofs.YtnmfmeehmieifaaGreatDoor
open Go Sg
set_option maxRecDepth 100000
set_option linter.unusedSimpArgs false
set_option linter.unusedVariables false
set_option linter.unusedSectionVars false
variable [Glob]
theorem aggs2 {θ : TypeId → Nat → Nat → Nat → Option PV} {a a' : List PV} {b b' p : PV} (h : PV.subL θ (a ++ [b]) = a' ++ [b']) (h1 : a.length = a'.length) (hp : p.sub θ = p) : PV.subL θ [.agg a, b, p] = [.agg a', b', p] := by
  simp only [subL_map, List.map_append] at h
  have e1 := List.append_inj h (by simpa using h1)
  have e2 := e1.2
  simp only [List.map_cons, List.map_nil, List.cons.injEq, and_true] at e2
  simp only [PV.subL, PV.sub, subL_map, e1.1, e2, hp]
theorem aggs1 {θ : TypeId → Nat → Nat → Nat → Option PV} {a a' : List PV} {p : PV} (h : PV.subL θ a = a') (hp : p.sub θ = p) : PV.subL θ [.agg a, p] = [.agg a', p] := by
  simp only [PV.subL, PV.sub, h, hp]
theorem own1 {f : FuncId} {ca qa : List PV} {p : PV} {Ta : List (Nat × AObj)} {rs : List PV} (ha : Owns Tryz.prog ca qa Ta) (hnd : (ksL Ta).Nodup) (hp : ∀ θ, p.sub θ = p) (hf : PV.flatL rs = true) (h : PureF Tryz.prog f [.agg qa, p] rs) : CallF Tryz.prog f [.agg ca, p] Ta 0 (fun _ o => o = { rs := rs }) :=
  CallF.own ha hnd (fun θ h => aggs1 h (hp θ)) (flatOut_rs hf) h
theorem own1s {f : FuncId} {a p q : PV} {Ta : List (Nat × AObj)} {rs : List PV} (ha : Owns Tryz.prog [a] [q] Ta) (hnd : (ksL Ta).Nodup) (hp : ∀ θ, p.sub θ = p) (hf : PV.flatL rs = true) (h : PureF Tryz.prog f [q, p] rs) : CallF Tryz.prog f [a, p] Ta 0 (fun _ o => o = { rs := rs }) :=
  CallF.own ha hnd (fun θ h => by simp only [PV.subL, List.cons.injEq, and_true] at h ⊢; exact ⟨h, hp θ⟩) (flatOut_rs hf) h
theorem own_f {s : MS} {B M : Nat} {T : List (Nat × AObj)} (h : InR B M s.l) (hT : ∀ p ∈ T, p ∈ s.l) : ∀ i o, lk i T = some o → s.f i = some o := fun i o e => h.f (hT _ (lk_in e))
end Go.Proofs.YtnmfmeehmieifaaGreatDoor
