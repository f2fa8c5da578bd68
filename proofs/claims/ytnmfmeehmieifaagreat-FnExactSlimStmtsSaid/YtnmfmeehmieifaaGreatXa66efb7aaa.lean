/- A part of a proof: lemmas and contracts of functions; the last text of the claim says what is proved. -/
import Derived.Test.YtnmfmeehmieifaaGreatX3b07f16ee3
set_option linter.unusedSectionVars false
set_option linter.unusedSimpArgs false
set_option linter.unusedVariables false
namespace Go.Proofs.YtnmfmeehmieifaaGreat
open Go Sg
set_option linter.unusedSectionVars false
variable [Glob]
set_option maxRecDepth 100000
set_option linter.unusedSimpArgs false
set_option linter.unusedVariables false
set_option maxHeartbeats 4000000
structure Trn where
  fr : List Int
  to' : List Int
  w : Ex
  deriving Inhabited
structure GAct where
  kind : Int
  step : Int
  to' : AD
  deriving DecidableEq, Inhabited
structure Cht where
  steps : Int
  ts : List Trn
  as' : List GAct
  deriving Inhabited
structure Mrk where
  on : List Bool
  kept : List Bool
  deriving DecidableEq, Inhabited
def Trn.cs (t : Trn) : List PV := [.rows 3 (rowsI t.fr), .rows 3 (rowsI t.to'), .int .i64 t.w.kind, .int .i64 t.w.n, .int .i64 t.w.a.kind, .int .i64 t.w.a.at', .rows 77 (Ex.csL t.w.kids)]
@[go_sem] theorem Trn.cs_eq (t : Trn) : t.cs = [.rows 3 (rowsI t.fr), .rows 3 (rowsI t.to'), .int .i64 t.w.kind, .int .i64 t.w.n, .int .i64 t.w.a.kind, .int .i64 t.w.a.at', .rows 77 (Ex.csL t.w.kids)] := rfl
def GAct.cs (a : GAct) : List PV := [.int .i64 a.kind, .int .i64 a.step, .int .i64 a.to'.kind, .int .i64 a.to'.at']
@[go_sem] theorem GAct.cs_eq (a : GAct) : a.cs = [.int .i64 a.kind, .int .i64 a.step, .int .i64 a.to'.kind, .int .i64 a.to'.at'] := rfl
def rowsT (l : List Trn) : List (List PV) := l.map Trn.cs
def rowsA (l : List GAct) : List (List PV) := l.map GAct.cs
def Cht.cs (c : Cht) : List PV := [.int .i64 c.steps, .rows 154 (rowsT c.ts), .rows 158 (rowsA c.as')]
@[go_sem] theorem Cht.cs_eq (c : Cht) : c.cs = [.int .i64 c.steps, .rows 154 (rowsT c.ts), .rows 158 (rowsA c.as')] := rfl
def Mrk.cs (k : Mrk) : List PV := [.rows 4 (rowsB k.on), .rows 4 (rowsB k.kept)]
@[go_sem] theorem Mrk.cs_eq (k : Mrk) : k.cs = [.rows 4 (rowsB k.on), .rows 4 (rowsB k.kept)] := rfl
def plBad (l : List Int) (b : Int) (i : Nat) : Bool := decide (l.getD i 0 < 0) || decide (l.getD i 0 ≥ b) || (decide ((i : Int) > 0) && decide (l.getD i 0 ≤ l.getD ((i : Int) - 1).toNat 0))
def plOk (l : List Int) (b : Int) : Bool := (List.range l.length).all (fun i => !plBad l b i) && decide ((l.length : Int) > 0)
structure Trn.Sm (t : Trn) : Prop where
  fr : t.fr.length ≤ 1099511627776
  to' : t.to'.length ≤ 1099511627776
  w : t.w.sz ≤ 1099511627776
structure Cht.Sm (c : Cht) : Prop where
  ts : c.ts.length ≤ 1099511627776
  as' : c.as'.length ≤ 1099511627776
  t : ∀ i, i < c.ts.length → (c.ts.getD i default).Sm
def Trn.bad (s : Int) (t : Trn) : Bool := !plOk t.fr s || !plOk t.to' s || !t.w.ok
def GAct.bad (s : Int) (a : GAct) : Bool := decide (a.kind < 1) || decide (a.kind > 4) || decide (a.step < 0) || decide (a.step ≥ s) || !a.to'.ok || a.to'.kind != 2
def Cht.ok (c : Cht) : Bool := if decide (c.steps < 1) || decide (c.steps > 6) || decide ((c.ts.length : Int) > 6) || decide ((c.as'.length : Int) > 6) then false
  else c.ts.all (fun t => !t.bad c.steps) && c.as'.all (fun a => !a.bad c.steps)
def allOn (on : List Bool) (l : List Int) : Bool := l.all fun x => on.getD x.toNat false
end Go.Proofs.YtnmfmeehmieifaaGreat
namespace Go.Proofs.YtnmfmeehmieifaaGreat
open Go Sg
set_option linter.unusedSectionVars false
variable [Glob]
set_option maxRecDepth 100000
set_option linter.unusedSimpArgs false
set_option linter.unusedVariables false
set_option maxHeartbeats 4000000
def clr (b : Bool) (f : List Bool) (l : List Int) : List Bool := l.foldl (fun f x => f.set x.toNat b) f
@[go_sem] theorem clr_nil (b : Bool) (f : List Bool) : clr b f [] = f := rfl
def fstep (m : MM) (st : List Bool × List Int) (i : Nat) (t : Trn) : List Bool × List Int :=
  if !allOn st.1 t.fr || !(t.w.of m != 0) then st else (clr false st.1 t.fr, st.2 ++ [(i : Int)])
def fpre (m : MM) (c : Cht) (on : List Bool) (n : Nat) : List Bool × List Int := (List.range n).foldl (fun st i => fstep m st i (c.ts.getD i default)) (on, [])
@[go_sem] theorem fpre_zero (m : MM) (c : Cht) (on : List Bool) : fpre m c on 0 = (on, []) := rfl
structure Trn.Go (n : Nat) (t : Trn) : Prop where
  fr : ∀ i, i < t.fr.length → 0 ≤ t.fr.getD i 0 ∧ t.fr.getD i 0 < (n : Int)
  to' : ∀ i, i < t.to'.length → 0 ≤ t.to'.getD i 0 ∧ t.to'.getD i 0 < (n : Int)
  w : formD 6 t.w = true
end Go.Proofs.YtnmfmeehmieifaaGreat
namespace Go.Proofs.YtnmfmeehmieifaaGreat
open Go Sg
set_option linter.unusedSectionVars false
variable [Glob]
set_option maxRecDepth 100000
set_option linter.unusedSimpArgs false
set_option linter.unusedVariables false
set_option maxHeartbeats 4000000
attribute [go_sem] List.length_replicate
def spread (b : Bool) (pl : Trn → List Int) (c : Cht) (f : List Bool) (fs : List Int) : List Bool := fs.foldl (fun f i => clr b f (pl (c.ts.getD i.toNat default))) f
@[go_sem] theorem spread_nil (b : Bool) (pl : Trn → List Int) (c : Cht) (f : List Bool) : spread b pl c f [] = f := rfl
end Go.Proofs.YtnmfmeehmieifaaGreat
namespace Go.Proofs.YtnmfmeehmieifaaGreat
open Go Sg
set_option linter.unusedSectionVars false
variable [Glob]
set_option maxRecDepth 100000
set_option linter.unusedSimpArgs false
set_option linter.unusedVariables false
set_option maxHeartbeats 4000000
def kset (v : Bool) (kk : Int) (on : List Bool) (f : List Bool) (l : List GAct) : List Bool := l.foldl (fun f a => if a.kind == kk && on.getD a.step.toNat false then f.set a.to'.at'.toNat v else f) f
@[go_sem] theorem kset_nil (v : Bool) (kk : Int) (on : List Bool) (f : List Bool) : kset v kk on f [] = f := rfl
def GAct.In (n : Nat) (a : GAct) : Prop := 0 ≤ a.step ∧ a.step < (n : Int) ∧ 0 ≤ a.to'.at' ∧ a.to'.at' < 6
def litA (at' : Int) (on bg : List Bool) (a : GAct) : Bool := a.to'.at' == at' && ((a.kind == 1 && on.getD a.step.toNat false) || (a.kind == 4 && bg.getD a.step.toNat false))
def lit (c : Cht) (at' : Int) (on bg : List Bool) : Bool := c.as'.any (litA at' on bg)
end Go.Proofs.YtnmfmeehmieifaaGreat
namespace Go.Proofs.YtnmfmeehmieifaaGreat
open Go Sg
set_option linter.unusedSectionVars false
variable [Glob]
set_option maxRecDepth 100000
set_option linter.unusedSimpArgs false
set_option linter.unusedVariables false
set_option maxHeartbeats 4000000
end Go.Proofs.YtnmfmeehmieifaaGreat
namespace Go.Proofs.YtnmfmeehmieifaaGreat
open Go Sg
set_option linter.unusedSectionVars false
variable [Glob]
set_option maxRecDepth 100000
set_option linter.unusedSimpArgs false
set_option linter.unusedVariables false
set_option maxHeartbeats 4000000
def mstep (c : Cht) (kp on bg : List Bool) (m : MM) (a : GAct) : MM := m.put a.to' (numIs (kp.getD a.to'.at'.toNat false || lit c a.to'.at' on bg))
def mfold (c : Cht) (kp on bg : List Bool) (m : MM) (l : List GAct) : MM := l.foldl (mstep c kp on bg) m
@[go_sem] theorem mfold_nil (c : Cht) (kp on bg : List Bool) (m : MM) : mfold c kp on bg m [] = m := rfl
structure Cht.Go (c : Cht) (n : Nat) : Prop where
  steps : c.steps.toNat = n
  st : 0 ≤ c.steps
  n6 : n ≤ 6
  t : ∀ i, i < c.ts.length → (c.ts.getD i default).Go n
  a : ∀ i, i < c.as'.length → (c.as'.getD i default).In n
end Go.Proofs.YtnmfmeehmieifaaGreat
namespace Go.Proofs.YtnmfmeehmieifaaGreat
open Go Sg
set_option linter.unusedSectionVars false
variable [Glob]
set_option maxRecDepth 100000
set_option linter.unusedSimpArgs false
set_option linter.unusedVariables false
set_option maxHeartbeats 4000000
end Go.Proofs.YtnmfmeehmieifaaGreat
namespace Go.Proofs.YtnmfmeehmieifaaGreat
open Go Sg
set_option linter.unusedSectionVars false
variable [Glob]
set_option maxRecDepth 100000
set_option linter.unusedSimpArgs false
set_option linter.unusedVariables false
set_option maxHeartbeats 4000000
def trc (l : List Trn) : List PV := (rowsT l).flatten
def acc (l : List GAct) : List PV := (rowsA l).flatten
@[go_sem] theorem trc_nil : trc [] = [] := rfl
@[go_sem] theorem acc_nil : acc [] = [] := rfl
def TSm (l : List Trn) : Prop := l.length ≤ 10 ∧ ∀ t ∈ l, t.Sm
theorem TSm.app {l : List Trn} {t : Trn} (h : TSm l) (hl : l.length < 10) (ht : t.Sm) : TSm (l ++ [t]) := ⟨by simp; omega, fun x hx => by
  rcases List.mem_append.1 hx with h1 | h1
  · exact h.2 x h1
  · rw [List.mem_singleton.1 h1]; exact ht⟩
theorem TSm.nil : TSm [] := ⟨by simp, fun x hx => by simp at hx⟩
end Go.Proofs.YtnmfmeehmieifaaGreat
namespace Go.Proofs.YtnmfmeehmieifaaGreat
open Go Sg
set_option maxRecDepth 100000
set_option linter.unusedSimpArgs false
set_option linter.unusedVariables false
set_option linter.unusedSectionVars false
set_option maxHeartbeats 4000000
variable [Glob]
theorem salike_ok : ∀ (N : Nat) (a b : Ex), a.sz ≤ N → a.sz ≤ 1099511627776 → PureF Tryz.prog 159 [.agg a.cs, .agg b.cs] [.bool (same a b)] := by
  intro N
  induction N with
  | zero => intro e b h; have := e.sz_pos; omega
  | succ N ih =>
    intro a b hN hs
    have hlen := a.kids_len
    refine pureF_of Tryz.func159 rfl Tryz.ntmps159 (by simp) T_ ?_
    intro f0 B Q hQ
    refine g_ [2,3] ?_
    refine gD_ [2,3,33] ?_
    refine c_ (fun hc0 => ?_) fun hc0 => ?_
    ·
      refine g_ [4] ?_
      refine e_ Tryz.results159 ?_
      first
      | exact True.intro
      | rw [← same_ex]
        have h := hc0
        cases h1 : a.kind == b.kind
        · simp
        · cases h2 : a.n == b.n
          · simp
          · cases h3 : (a.a.kind == b.a.kind && a.a.at' == b.a.at')
            · simp
            · have : (a.kids.length == b.kids.length) = false := by
                simp [bne, h1, h2, h3] at h
                have h4 : ¬ a.kids.length = b.kids.length := by omega
                simpa using h4
              rw [this]; simp
    simp only [Bool.or_eq_false_iff, bne_eq_false_iff_eq, Bool.not_eq_false', Bool.and_eq_true, beq_iff_eq] at hc0
    have hkl : a.kids.length = b.kids.length := by omega
    refine g_ [2,3,5] ?_
    refine n_ ?_
    refine wpM_loopS (fun s n s' => ∃ (i0 M0 : Nat) , i0 + n = a.kids.length ∧ s.M ≤ M0 ∧ ((List.range i0).all (fun i => same (a.kids.getD i default) (b.kids.getD i default)) = true) ∧ s' = { s with env := setE 5 (.int .i64 (i0 : Nat)) s.env, M := M0 }) (a.kids.length) ?_ ?_
    ·
      refine .of' _ _ ⟨0, _, by omega, Nat.le_refl _, by simp, rfl⟩ ?_ ?_ ?_ <;> exact L_
    rintro n0 s' ⟨i0, M0, hi0, hM0, hv0, rfl⟩
    try dsimp only at hM0
    try refine S_ ?_
    refine g_ [2,3,5,38] ?_
    refine c_ (fun hc1 => ?_) fun hc1 => ?_
    ·
      have hks := Ex.kid_sz (e := a) (k := i0) (by omega)
      refine n_ ?_
      refine dr_ mixed [2,3,5,52] 0 2 [B,B + 1] [⟨[2],[],[],[],false⟩,⟨[41],[0],[],[],false⟩,⟨[5],[],[],[],false⟩,⟨[42,43],[],[],[],false⟩,⟨[44],[],[],[],false⟩,⟨[3],[],[],[],false⟩,⟨[46],[1],[],[],false⟩,⟨[5],[],[],[],false⟩,⟨[47,48],[],[],[],false⟩,⟨[49],[],[],[],false⟩,⟨[45,50],[],[],[],true⟩,⟨[51],[],[],[],false⟩] [0,1,2,3,4,5,6,7,8,9,10,11] [[],[0],[],[0,1,2],[0,1,2,3],[],[5],[],[5,6,7],[5,6,7,8],[0,1,2,3,4,5,6,7,8,9],[0,1,2,3,4,5,6,7,8,9,10]] 2 ?_
      intro O A K hO hA hK;simp only [atL_cons,atL_nil,Nat.reduceAdd,Nat.zero_add] at hO hA
      refine SO_ ?_
      refine lp_ (ih (a.kids.getD i0 default) (b.kids.getD i0 default) (by omega) (by omega)) Tryz.call159 ?_
      refine hK _ (S_ ?_);clear hK K hO hA O A
      refine c_ (fun hc2 => ?_) fun hc2 => ?_
      ·
        refine g_ [4] ?_
        refine e_ Tryz.results159 ?_
        first
        | exact True.intro
        | rw [← same_ex]
          have h2 : (!same (a.kids.getD i0 default) (b.kids.getD i0 default)) = true := hc2
          rw [range_no (i := i0) (p := fun i => same (a.kids.getD i default) (b.kids.getD i default)) (by omega) (by simpa using h2)]
          simp
      refine g_ [2,3,5] ?_
      refine .of' _ _ ⟨n0 - 1, by omega, i0 + 1, _, by omega, M_, ?_, rfl⟩ L_ L_ L_
      have h2 : (!same (a.kids.getD i0 default) (b.kids.getD i0 default)) = false := hc2
      rw [range_all, hv0]; simpa using h2
    refine g_ [4] ?_
    refine e_ Tryz.results159 ?_
    first
    | exact True.intro
    | rw [← same_ex]
      have h1 : i0 = a.kids.length := by omega
      rw [← h1, hv0]
      simp [hc0, h1, hkl]
end Go.Proofs.YtnmfmeehmieifaaGreat
namespace Go.Proofs.YtnmfmeehmieifaaGreat
open Go Sg
set_option linter.unusedSectionVars false
variable [Glob]
set_option maxRecDepth 100000
set_option linter.unusedSimpArgs false
set_option linter.unusedVariables false
set_option maxHeartbeats 4000000
end Go.Proofs.YtnmfmeehmieifaaGreat
namespace Go.Proofs.YtnmfmeehmieifaaGreat
open Go Sg
set_option maxRecDepth 100000
set_option linter.unusedSimpArgs false
set_option linter.unusedVariables false
set_option linter.unusedSectionVars false
set_option maxHeartbeats 4000000
variable [Glob]
theorem len_same {α : Type} [Inhabited α] (a b : List α) : (a.length == b.length && (List.range a.length).all fun i => same (a.getD i default) (b.getD i default)) = same a b := by
  by_cases h : a.length = b.length
  · rw [range_ext h same fun _ _ => rfl]; simp [h]
  · rw [same_no (fun e => h (by rw [e]))]
    have : (a.length == b.length) = false := by simpa using h
    rw [this]; rfl
end Go.Proofs.YtnmfmeehmieifaaGreat
namespace Go.Proofs.YtnmfmeehmieifaaGreat
open Go Sg
set_option maxRecDepth 100000
set_option linter.unusedSimpArgs false
set_option linter.unusedVariables false
set_option linter.unusedSectionVars false
variable [Glob]
theorem own1s {f : FuncId} {a p q : PV} {Ta : List (Nat × AObj)} {rs : List PV} (ha : Owns Tryz.prog [a] [q] Ta) (hnd : (ksL Ta).Nodup) (hp : ∀ θ, p.sub θ = p) (hf : PV.flatL rs = true) (h : PureF Tryz.prog f [q, p] rs) : CallF Tryz.prog f [a, p] Ta 0 (fun _ o => o = { rs := rs }) :=
  CallF.own ha hnd (fun θ h => by simp only [PV.subL, List.cons.injEq, and_true] at h ⊢; exact ⟨h, hp θ⟩) (flatOut_rs hf) h
theorem own_f {s : MS} {B M : Nat} {T : List (Nat × AObj)} (h : InR B M s.l) (hT : ∀ p ∈ T, p ∈ s.l) : ∀ i o, lk i T = some o → s.f i = some o := fun i o e => h.f (hT _ (lk_in e))
end Go.Proofs.YtnmfmeehmieifaaGreat
namespace Go.Proofs.YtnmfmeehmieifaaGreat
open Go Sg
set_option maxRecDepth 100000
set_option linter.unusedSimpArgs false
set_option linter.unusedVariables false
set_option linter.unusedSectionVars false
set_option maxHeartbeats 4000000
variable [Glob]
def rulF (j : Nat) : Nat := [161, 162, 163, 164, 165].getD j 0
noncomputable def rulR : Nat → Ex → Ex × Bool
  | 0, e => (if (e.kids.length : Int) == 0 || e.kids.any (fun x => x.kind != 1) then noX else numX (e.of zM), !((e.kids.length : Int) == 0 || e.kids.any (fun x => x.kind != 1)))
  | 1, e => (if !isTwo e.kind then noX else e.kids.getD 0 default, if !isTwo e.kind then false else ((e.kind == 3 || e.kind == 4) && (e.kids.getD 1 default).isN 0 || e.kind == 5 && (e.kids.getD 1 default).isN 1))
  | 2, e => (if !isTwo e.kind then noX else e.kids.getD 1 default, if !isTwo e.kind then false else (e.kind == 3 && (e.kids.getD 0 default).isN 0 || e.kind == 5 && (e.kids.getD 0 default).isN 1))
  | 3, e => (numX 0, (e.kind == 5 || e.kind == 8) && ((e.kids.getD 0 default).isN 0 || (e.kids.getD 1 default).isN 0))
  | _, e => (if !isTwo e.kind || !same (e.kids.getD 0 default) (e.kids.getD 1 default) then noX else if e.kind == 7 then numX 1 else if e.kind == 6 || e.kind == 4 then numX 0 else noX, if !isTwo e.kind || !same (e.kids.getD 0 default) (e.kids.getD 1 default) then false else (e.kind == 7 || (e.kind == 6 || e.kind == 4)))
def rulL : List PV := [.fn (.func 161) [] [], .fn (.func 162) [] [], .fn (.func 163) [] [], .fn (.func 164) [] [], .fn (.func 165) [] []]
@[go_sem] theorem rules_build : buildA Tryz.prog 199 [(0, .fn (.func 161) [] []), (1, .fn (.func 162) [] []), (2, .fn (.func 163) [] []), (3, .fn (.func 164) [] []), (4, .fn (.func 165) [] [])] = some (.agg [.fn (.func 161) [] [], .fn (.func 162) [] [], .fn (.func 163) [] [], .fn (.func 164) [] [], .fn (.func 165) [] []]) := by
  unfold buildA placesA
  simp -implicitDefEqProofs (disch := omega) only [go_sem, PV.cellsOf, splice] <;> rfl
theorem rules_ok : PureF Tryz.prog 135 [] [.agg rulL] := by
  refine pureF_of Tryz.func135 rfl Tryz.ntmps135 (by simp) (by rfl) ?_
  intro f0 B Q hQ
  refine g_ [0] ?_
  refine g_ [0] ?_
  refine e_ Tryz.results135 ?_
  first
  | exact True.intro
  | rfl
@[go_sem] theorem rulL_at (j : Nat) (h : j < 5) : rulL[j]? = some (.fn (.func (rulF j)) [] []) := by
  match j, h with
  | 0, _ => rfl
  | 1, _ => rfl
  | 2, _ => rfl
  | 3, _ => rfl
  | 4, _ => rfl
theorem rul_ok (j : Nat) (hj : j < 5) (e : Ex) (d : Nat) (h : formD (d + 1) e = true) (hs : e.sz ≤ 1099511627776) : PureF Tryz.prog (rulF j) [.agg e.cs] [.agg (rulR j e).1.cs, .bool (rulR j e).2] := by
  match j, hj with
  | 0, _ => exact known_ok e d h
  | 1, _ => exact second_ok e d h
  | 2, _ => exact first_ok e d h
  | 3, _ => exact zeroR_ok e d h
  | 4, _ => exact alike_ok e d h hs
theorem enter_rul (j : Nat) (hj : j < 5) args w : (callFunc (rulF j) args).run Tryz.prog w = .ok (.enter (rulF j) args) w := by
  match j, hj with
  | 0, _ => exact Tryz.call161 args w
  | 1, _ => exact Tryz.call162 args w
  | 2, _ => exact Tryz.call163 args w
  | 3, _ => exact Tryz.call164 args w
  | 4, _ => exact Tryz.call165 args w
theorem slimN_rul {d : Nat} {e : Ex} (h : formD (d + 1) e = true) : slimN e = if (rulR 0 e).2 then (rulR 0 e).1 else if (rulR 1 e).2 then (rulR 1 e).1 else if (rulR 2 e).2 then (rulR 2 e).1 else if (rulR 3 e).2 then (rulR 3 e).1 else if (rulR 4 e).2 then (rulR 4 e).1 else e := by
  rcases form_len h with ⟨hl, hk⟩ | ⟨hl, hk⟩ | ⟨hl, hk⟩
  · have h2 : isTwo e.kind = false := by simp only [isTwo]; rcases hk with hk | hk <;> rw [hk] <;> rfl
    have h5 : (e.kind == 5 || e.kind == 8) = false := by rcases hk with hk | hk <;> rw [hk] <;> rfl
    have h10 : (e.kind == 10) = false := by rcases hk with hk | hk <;> rw [hk] <;> rfl
    simp [rulR, hl, h2, h5, slimN, h10]
  · have h2 : isTwo e.kind = false := by rw [hk]; rfl
    have h5 : (e.kind == 5 || e.kind == 8) = false := by rw [hk]; rfl
    obtain ⟨x, hx⟩ : ∃ x, e.kids = [x] := by
      match e.kids, hl with
      | [x], _ => exact ⟨x, rfl⟩
    have hof : e.of zM = numIs (!(x.of zM != 0)) := by
      rw [Ex.of_eq, hk, hx]; rfl
    cases h1 : x.kind == 1
    · have h1' : (x.kind != 1) = true := by simpa using h1
      simp [rulR, h2, h5, slimN, hk, hx, h1, h1']
    · have h1' : (x.kind != 1) = false := by simpa using h1
      have hxn : x.of zM = x.n := by rw [Ex.of_eq, if_pos h1]
      simp [rulR, h2, h5, slimN, hk, hx, h1, h1', hof, hxn]
  · have h2 : isTwo e.kind = true := by simp only [isTwo, Bool.and_eq_true, decide_eq_true_eq]; exact hk
    have h10 : (e.kind == 10) = false := by simp; omega
    obtain ⟨a, b, hx⟩ : ∃ a b, e.kids = [a, b] := by
      match e.kids, hl with
      | [a, b], _ => exact ⟨a, b, rfl⟩
    have hof : e.of zM = two e.kind (a.of zM) (b.of zM) := by
      rw [Ex.of_eq, if_neg (by simp; omega), if_neg (by simp; omega), if_neg (by simp; omega), hx]; rfl
    have c0 : (!((e.kids.length : Int) == 0 || e.kids.any (fun x => x.kind != 1))) = (a.kind == 1 && b.kind == 1) := by
      rw [hx]
      simp only [List.any_cons, List.any_nil, bne]
      cases a.kind == 1 <;> cases b.kind == 1 <;> rfl
    have c1 : ((e.kind == 3 || e.kind == 4) && b.isN 0 || e.kind == 5 && b.isN 1) = (e.kind == 3 && b.isN 0 || e.kind == 4 && b.isN 0 || e.kind == 5 && b.isN 1) := by
      cases e.kind == 3 <;> cases e.kind == 4 <;> cases b.isN 0 <;> rfl
    have c3 : ((e.kind == 5 || e.kind == 8) && (a.isN 0 || b.isN 0)) = (e.kind == 5 && (a.isN 0 || b.isN 0) || e.kind == 8 && (a.isN 0 || b.isN 0)) := by
      cases e.kind == 5 <;> cases e.kind == 8 <;> simp
    have ga : e.kids.getD 0 default = a := by rw [hx]; rfl
    have gb : e.kids.getD 1 default = b := by rw [hx]; rfl
    have hs : slimN e = slim2 e a b := by
      unfold slimN
      rw [h10, Bool.false_and, if_neg (by simp), if_pos (by rw [hl]; rfl), ga, gb]
    rw [hs]
    unfold slim2
    simp only [rulR, c0, ga, gb, h2, Bool.not_true, Bool.false_eq_true, if_false, c1, c3, Bool.false_or]
    split
    · rename_i hh
      simp only [Bool.and_eq_true] at hh
      have hn : ((e.kids.length : Int) == 0 || e.kids.any (fun x => x.kind != 1)) = false := by
        have := c0
        rw [hh.1, hh.2] at this
        simpa using this
      rw [hn, if_neg (by simp), hof, Ex.of_eq, if_pos hh.1, Ex.of_eq, if_pos hh.2]
    · split
      · rfl
      · split
        · rfl
        · split
          · rfl
          · cases same a b
            · simp
            · cases e.kind == 7
              · cases e.kind == 6 || e.kind == 4 <;> simp
              · simp
theorem rul_hit {d : Nat} {e : Ex} (h : formD (d + 1) e = true) {j : Nat} (hj : j < 5) (hn : (List.range j).all (fun k => !(rulR k e).2) = true) (ht : (rulR j e).2 = true) : slimN e = (rulR j e).1 := by
  rw [slimN_rul h]
  simp only [List.all_eq_true, List.mem_range] at hn
  have hf : ∀ k, k < j → (rulR k e).2 = false := fun k hk => by simpa using hn k hk
  match j, hj with
  | 0, _ => rw [if_pos ht]
  | 1, _ => rw [hf 0 (by omega), if_neg (by simp), if_pos ht]
  | 2, _ => rw [hf 0 (by omega), if_neg (by simp), hf 1 (by omega), if_neg (by simp), if_pos ht]
  | 3, _ => rw [hf 0 (by omega), if_neg (by simp), hf 1 (by omega), if_neg (by simp), hf 2 (by omega), if_neg (by simp), if_pos ht]
  | 4, _ => rw [hf 0 (by omega), if_neg (by simp), hf 1 (by omega), if_neg (by simp), hf 2 (by omega), if_neg (by simp), hf 3 (by omega), if_neg (by simp), if_pos ht]
theorem rul_miss {d : Nat} {e : Ex} (h : formD (d + 1) e = true) (hn : (List.range 5).all (fun k => !(rulR k e).2) = true) : slimN e = e := by
  rw [slimN_rul h]
  simp only [List.all_eq_true, List.mem_range] at hn
  have hf : ∀ k, k < 5 → (rulR k e).2 = false := fun k hk => by simpa using hn k hk
  rw [hf 0 (by omega), if_neg (by simp), hf 1 (by omega), if_neg (by simp), hf 2 (by omega), if_neg (by simp), hf 3 (by omega), if_neg (by simp), hf 4 (by omega), if_neg (by simp)]
end Go.Proofs.YtnmfmeehmieifaaGreat
namespace Go.Proofs.YtnmfmeehmieifaaGreat
open Go Sg
set_option maxRecDepth 100000
set_option linter.unusedSimpArgs false
set_option linter.unusedVariables false
set_option linter.unusedSectionVars false
set_option maxHeartbeats 4000000
variable [Glob]
@[go_sem high] theorem Ex.node_cs (e : Ex) : e.node.cs = [.int .i64 e.kind, .int .i64 e.n, .int .i64 e.a.kind, .int .i64 e.a.at', .rows 77 (Ex.csL (Ex.slimL e.kids))] := by simp only [Ex.node, Ex.cs]
theorem Ex.slimL_len (l : List Ex) : (Ex.slimL l).length = l.length := by rw [Ex.slimL_map, List.length_map]
theorem Ex.slimL_take (l : List Ex) (i : Nat) (h : i < l.length) : Ex.slimL (l.take (i + 1)) = Ex.slimL (l.take i) ++ [(l.getD i default).slim] := by
  rw [Ex.slimL_map, Ex.slimL_map, List.take_succ_eq_append_getElem h, List.map_append]
  simp [List.getD, h]
theorem islimE_ok : ∀ (N : Nat) (e : Ex), e.sz ≤ N → e.sz ≤ 1099511627776 → (∃ d, formD d e = true) → PureF Tryz.prog 90 [.agg e.cs] [.agg e.slim.cs] := by
  intro N
  induction N with
  | zero => intro e h; have := e.sz_pos; omega
  | succ N ih =>
    intro e hN hs hf
    obtain ⟨d, hf⟩ := hf
    obtain ⟨d, rfl⟩ : ∃ d', d = d' + 1 := by
      cases d with
      | zero => cases hf
      | succ d => exact ⟨d, rfl⟩
    have hkf := (form_inv hf).2.2
    have hnf := node_form hf
    have hnz : e.node.sz ≤ 1099511627776 := by
      have h1 := Ex.slimL_sz e.kids
      have h2 := e.sz_eq
      have h3 : e.node.sz = 1 + Ex.szL (Ex.slimL e.kids) := by rw [Ex.node, Ex.sz]
      omega
    have hlen := e.kids_len
    refine pureF_of Tryz.func90 rfl Tryz.ntmps90 (by simp) T_ ?_
    intro f0 B Q hQ
    refine g_ [1,2] ?_
    refine g_ [1,2,3] ?_
    refine g_ [1,2,3] ?_
    refine g_ [2,3,13,14,15] ?_
    refine n_ ?_
    refine wpM_loopS (fun s r s' => (r = e.kids.length ∧ s' = s) ∨ ∃ (i0 M0 y : Nat), 0 < i0 ∧ i0 + r = e.kids.length ∧ s.M ≤ y ∧ y < M0 ∧ s' = { s with env := setE 15 (.int .i64 (i0 : Nat)) s.env, l := (y, .cells 77 (exc (Ex.slimL (e.kids.take i0)))) :: setl (B + 2) (.cells 77 [.int .i64 e.kind, .int .i64 e.n, .int .i64 e.a.kind, .int .i64 e.a.at', .sl 77 y 0 i0]) s.l, M := M0 }) (e.kids.length) ?_ ?_
    ·
      refine .of' _ _ (.inl ⟨rfl, rfl⟩) ?_ ?_ ?_ <;> exact L_
    rintro r s' (⟨rfl, rfl⟩ | ⟨i0, M0, y, hi0, hir, hy, hyM, rfl⟩)
    ·
      try refine S_ ?_
      refine g_ [2,3,13,14,15,16] ?_
      refine c_ (fun hc0 => ?_) fun hc0 => ?_
      ·
        have hks := Ex.kid_sz (e := e) (k := 0) (by omega)
        refine g_ [2,3,5,13,14,15] ?_
        refine dr_ mixed [2,3,13,14,15] 2 2 [B + 2,B + 3, B + 4, B + 5] [⟨[3],[],[],[],false⟩,⟨[19],[0],[],[],false⟩,⟨[5],[1],[],[],false⟩,⟨[21],[],[],[],true⟩,⟨[22],[],[],[2],false⟩,⟨[20,23],[2],[],[3],false⟩,⟨[3],[],[],[],false⟩,⟨[24,25],[0],[0],[],false⟩] [0,1,2,3,4,5,6,7] [[],[0],[],[2],[2,3],[0,1,2,3,4],[0,1,2,3,4,5],[0,1,2,3,4,5,6]] 4 ?_
        intro O A K hO hA hK;simp only [atL_cons,atL_nil,Nat.reduceAdd,Nat.zero_add] at hO hA
        simp -implicitDefEqProofs (disch := omega) only [go_sem, exc_len, hO, hA]
        refine loud_p (ih (e.kids.getD 0 default) (by omega) (by omega) ⟨d, hkf 0 (by omega)⟩) Tryz.call90 rfl rfl (by first | rfl | (simp -implicitDefEqProofs (disch := omega) only [go_sem] <;> rfl)) rfl ?_
        simp -implicitDefEqProofs (disch := omega) only [go_sem, exc_len, hO, hA]
        refine hK _ (S_ ?_);clear hK K hO hA O A
        refine g_ [2,3,13,14,15] ?_
        have e1 : [PV.int .i64 (e.kids.getD 0 default).slim.kind, .int .i64 (e.kids.getD 0 default).slim.n, .int .i64 (e.kids.getD 0 default).slim.a.kind, .int .i64 (e.kids.getD 0 default).slim.a.at', .rows 77 (Ex.csL (e.kids.getD 0 default).slim.kids)] = exc (Ex.slimL (e.kids.take 1)) := by
          rw [Ex.slimL_take _ _ (by omega), List.take_zero, Ex.slimL, List.nil_append, ← exc_one, Ex.cs_eq]
        rw [e1]
        refine .of' _ _ ⟨e.kids.length - 1, by omega, .inr ⟨1, _, B + 5, by omega, by omega, ?_, ?_, rfl⟩⟩ ?_ ?_ ?_
        · first | omega | (simp -implicitDefEqProofs (disch := omega) only [go_sem]; done) | (simp -implicitDefEqProofs (disch := omega) only [go_sem]; omega)
        · first | omega | (simp -implicitDefEqProofs (disch := omega) only [go_sem]; done) | (simp -implicitDefEqProofs (disch := omega) only [go_sem]; omega)
        all_goals exact L_
      refine n_ ?_
      have hk0 : e.kids = [] := List.eq_nil_of_length_eq_zero (by omega)
      refine wpM_le [(2, .ptr (B + 1) 0), (3, .ptr (B + 2) 0)] [(B + 2, .cells 77 e.node.cs), (B + 1, .cells 77 [.int .i64 0, .int .i64 0, .int .i64 0, .int .i64 0, .emp])] (by simp -implicitDefEqProofs (disch := omega) only [go_sem, hk0]) (by simp -implicitDefEqProofs (disch := omega) only [go_sem, hk0, Ex.slimL, Ex.csL]) T_ ?_
      refine S_ ?_
      refine wpM_regionK [2,3,27,28] rfl fun Q1 hQ1 => ?_
      refine S_ ?_
      refine cp_ (rules_ok) Tryz.call135 ?_
      refine hQ1 _ _ (S_ ?_);clear hQ1 Q1
      refine n_ ?_
      refine wpM_loopS (fun s n s' => ∃ (i1 M1 : Nat) , i1 + n = 5 ∧ s.M ≤ M1 ∧ ((List.range i1).all (fun k => !(rulR k e.node).2) = true) ∧ s' = { s with env := setE 28 (.int .i64 (i1 : Nat)) s.env, M := M1 }) (5) ?_ ?_
      ·
        refine .of' _ _ ⟨0, _, by omega, Nat.le_refl _, by simp, rfl⟩ ?_ ?_ ?_ <;> exact L_
      rintro n1 s' ⟨i1, M1, hi1, hM1, hv1, rfl⟩
      try dsimp only at hM1
      try refine S_ ?_
      refine g_ [2,3,27,28,29] ?_
      refine c_ (fun hc1 => ?_) fun hc1 => ?_
      ·
        have hl1 : i1 < 5 := by omega
        refine g_ [2,3,7,27,28] ?_
        refine n_ ?_
        refine wpM_regionK [2,3,8,9,27,28] rfl fun Q1 hQ1 => ?_
        refine S_ ?_
        refine call_cap (l := []) (cap := []) (args := [.agg e.node.cs]) (rul_ok i1 (by omega) e.node d hnf hnz) (fun i o h => by simp [lk] at h) (enter_rul i1 (by omega)) rfl rfl T_ T_ ?_
        refine S_ ?_
        refine hQ1 _ _ (S_ ?_);clear hQ1 Q1
        refine g_ [2,3,8,27,28,37] ?_
        refine c_ (fun hc2 => ?_) fun hc2 => ?_
        ·
          refine g_ [2] ?_
          refine e_ Tryz.results90 ?_
          first
          | exact True.intro
          | first
            | (have h : e.slim = (rulR i1 e.node).1 := by rw [Ex.slim_node]; exact rul_hit hnf (by omega) hv1 ‹(rulR i1 e.node).2 = true›
               rw [h]; exact ⟨rfl, rfl, rfl, rfl, rfl⟩)
            | (have hi : i1 = 5 := by omega
               have h : e.slim = e.node := by rw [Ex.slim_node]; exact rul_miss hnf (by rw [← hi]; exact hv1)
               rw [h]; exact ⟨rfl, rfl, rfl, rfl, rfl⟩)
        refine g_ [2,3,27,28] ?_
        refine .of' _ _ ⟨n1 - 1, by omega, i1 + 1, _, by omega, M_, ?_, rfl⟩ L_ L_ L_
        rw [range_all, hv1]
        simp [*]
      refine g_ [2] ?_
      refine e_ Tryz.results90 ?_
      first
      | exact True.intro
      | first
        | (have h : e.slim = (rulR i1 e.node).1 := by rw [Ex.slim_node]; exact rul_hit hnf (by omega) hv1 ‹(rulR i1 e.node).2 = true›
           rw [h]; exact ⟨rfl, rfl, rfl, rfl, rfl⟩)
        | (have hi : i1 = 5 := by omega
           have h : e.slim = e.node := by rw [Ex.slim_node]; exact rul_miss hnf (by rw [← hi]; exact hv1)
           rw [h]; exact ⟨rfl, rfl, rfl, rfl, rfl⟩)
    dsimp only at hy
    try refine S_ ?_
    refine g_ [2,3,13,14,15,16] ?_
    refine c_ (fun hc0 => ?_) fun hc0 => ?_
    ·
      have hks := Ex.kid_sz (e := e) (k := i0) (by omega)
      have htl : (Ex.slimL (e.kids.take i0)).length = i0 := by rw [Ex.slimL_len]; simp; omega
      refine g_ [2,3,5,13,14,15] ?_
      refine dr_ mixed [2,3,13,14,15] 2 3 [B + 2, M0, y, M0 + 1, M0 + 2] [⟨[3],[],[],[],false⟩,⟨[19],[0],[],[],false⟩,⟨[5],[1],[],[],false⟩,⟨[21],[],[],[],true⟩,⟨[22],[],[],[3],false⟩,⟨[20,23],[2,3],[2],[4],false⟩,⟨[3],[],[],[],false⟩,⟨[24,25],[0],[0],[],false⟩] [0,1,2,3,4,5,6,7] [[],[0],[],[2],[2,3],[0,1,2,3,4],[0,1,2,3,4,5],[0,1,2,3,4,5,6]] 5 (htbl := by simp; omega) (hnm := by simp) ?_
      intro O A K hO hA hK;simp only [atL_cons,atL_nil,Nat.reduceAdd,Nat.zero_add] at hO hA
      simp -implicitDefEqProofs (disch := omega) only [go_sem, htl, hO, hA]
      refine loud_p (ih (e.kids.getD i0 default) (by omega) (by omega) ⟨d, hkf i0 (by omega)⟩) Tryz.call90 rfl rfl (by first | rfl | (simp -implicitDefEqProofs (disch := omega) only [go_sem] <;> rfl)) rfl ?_
      simp -implicitDefEqProofs (disch := omega) only [go_sem, htl, hO, hA]
      refine hK _ (S_ ?_);clear hK K hO hA O A
      refine g_ [2,3,13,14,15] ?_
      have e1 : exc (Ex.slimL (e.kids.take i0)) ++ [.int .i64 (e.kids.getD i0 default).slim.kind, .int .i64 (e.kids.getD i0 default).slim.n, .int .i64 (e.kids.getD i0 default).slim.a.kind, .int .i64 (e.kids.getD i0 default).slim.a.at', .rows 77 (Ex.csL (e.kids.getD i0 default).slim.kids)] = exc (Ex.slimL (e.kids.take (i0 + 1))) := by
        rw [Ex.slimL_take _ _ (by omega), ← exc_app, Ex.cs_eq]
      rw [e1]
      refine .of' _ _ ⟨r - 1, by omega, .inr ⟨i0 + 1, _, M0 + 2, by omega, by omega, ?_, ?_, rfl⟩⟩ ?_ ?_ ?_
      · first | omega | (simp -implicitDefEqProofs (disch := omega) only [go_sem]; done) | (simp -implicitDefEqProofs (disch := omega) only [go_sem]; omega)
      · first | omega | (simp -implicitDefEqProofs (disch := omega) only [go_sem]; done) | (simp -implicitDefEqProofs (disch := omega) only [go_sem]; omega)
      all_goals exact L_
    refine n_ ?_
    have hie : i0 = e.kids.length := by omega
    have htl : e.kids.take i0 = e.kids := by rw [hie, List.take_of_length_le (Nat.le_refl _)]
    rw [htl]
    refine wpM_frz [y] [(77, y, 0, i0, Ex.csL (Ex.slimL e.kids))] (by intro q hq; simp at hq; subst hq; simp -implicitDefEqProofs (disch := omega) only [go_sem]) (by intro q hq; simp only [List.mem_cons, List.not_mem_nil, or_false] at hq; subst hq; rw [hie, ← Ex.slimL_len]; exact ⟨by simp, rowsOf_exc (T := 77) T_⟩) ?_
    simp -implicitDefEqProofs (disch := omega) only [go_sem]
    refine wpM_regionK [2,3,27,28] rfl fun Q1 hQ1 => ?_
    refine S_ ?_
    refine cp_ (rules_ok) Tryz.call135 ?_
    refine hQ1 _ _ (S_ ?_);clear hQ1 Q1
    refine n_ ?_
    refine wpM_loopS (fun s n s' => ∃ (i1 M1 : Nat) , i1 + n = 5 ∧ s.M ≤ M1 ∧ ((List.range i1).all (fun k => !(rulR k e.node).2) = true) ∧ s' = { s with env := setE 28 (.int .i64 (i1 : Nat)) s.env, M := M1 }) (5) ?_ ?_
    ·
      refine .of' _ _ ⟨0, _, by omega, Nat.le_refl _, by simp, rfl⟩ ?_ ?_ ?_ <;> exact L_
    rintro n1 s' ⟨i1, M1, hi1, hM1, hv1, rfl⟩
    try dsimp only at hM1
    try refine S_ ?_
    refine g_ [2,3,27,28,29] ?_
    refine c_ (fun hc1 => ?_) fun hc1 => ?_
    ·
      have hl1 : i1 < 5 := by omega
      refine g_ [2,3,7,27,28] ?_
      refine n_ ?_
      refine wpM_regionK [2,3,8,9,27,28] rfl fun Q1 hQ1 => ?_
      refine S_ ?_
      refine call_cap (l := []) (cap := []) (args := [.agg e.node.cs]) (rul_ok i1 (by omega) e.node d hnf hnz) (fun i o h => by simp [lk] at h) (enter_rul i1 (by omega)) rfl rfl T_ T_ ?_
      refine S_ ?_
      refine hQ1 _ _ (S_ ?_);clear hQ1 Q1
      refine g_ [2,3,8,27,28,37] ?_
      refine c_ (fun hc2 => ?_) fun hc2 => ?_
      ·
        refine g_ [2] ?_
        refine e_ Tryz.results90 ?_
        first
        | exact True.intro
        | first
          | (have h : e.slim = (rulR i1 e.node).1 := by rw [Ex.slim_node]; exact rul_hit hnf (by omega) hv1 ‹(rulR i1 e.node).2 = true›
             rw [h]; exact ⟨rfl, rfl, rfl, rfl, rfl⟩)
          | (have hi : i1 = 5 := by omega
             have h : e.slim = e.node := by rw [Ex.slim_node]; exact rul_miss hnf (by rw [← hi]; exact hv1)
             rw [h]; exact ⟨rfl, rfl, rfl, rfl, rfl⟩)
      refine g_ [2,3,27,28] ?_
      refine .of' _ _ ⟨n1 - 1, by omega, i1 + 1, _, by omega, M_, ?_, rfl⟩ L_ L_ L_
      rw [range_all, hv1]
      simp [*]
    refine g_ [2] ?_
    refine e_ Tryz.results90 ?_
    first
    | exact True.intro
    | first
      | (have h : e.slim = (rulR i1 e.node).1 := by rw [Ex.slim_node]; exact rul_hit hnf (by omega) hv1 ‹(rulR i1 e.node).2 = true›
         rw [h]; exact ⟨rfl, rfl, rfl, rfl, rfl⟩)
      | (have hi : i1 = 5 := by omega
         have h : e.slim = e.node := by rw [Ex.slim_node]; exact rul_miss hnf (by rw [← hi]; exact hv1)
         rw [h]; exact ⟨rfl, rfl, rfl, rfl, rfl⟩)
end Go.Proofs.YtnmfmeehmieifaaGreat
namespace Go.Proofs.YtnmfmeehmieifaaGreat
open Go Sg
set_option maxRecDepth 100000
set_option linter.unusedSimpArgs false
set_option linter.unusedVariables false
set_option linter.unusedSectionVars false
set_option maxHeartbeats 4000000
variable [Glob]
theorem smc_take (l : List Sm) (i : Nat) (h : i < l.length) : smc (l.take i) ++ (l.getD i default).cs = smc (l.take (i + 1)) := by
  rw [List.take_succ_eq_append_getElem h, smc_app]
  simp [List.getD, h]
theorem icopyS_ok : ∀ (N : Nat) (l : List Sm), Sm.szL l = N → Sm.szL l ≤ 1099511627776 → PureF Tryz.prog 43 [.rows 79 (Sm.csL l)] [.rows 79 (Sm.csL l)] := by
  intro N
  induction N using Nat.strongRecOn with
  | _ N ih =>
    intro l hN hs
    have hlen := Sm.len_szL l
    refine pureF_of Tryz.func43 rfl Tryz.ntmps43 (by simp) T_ ?_
    intro f0 B Q hQ
    refine g_ [0] ?_
    refine g_ [0,3] ?_
    refine g_ [3,6,7,8] ?_
    refine wpM_nil 79 [(3, .sl 79 B 0 0), (6, .rows 79 (Sm.csL l)), (7, .int .i64 (l.length : Nat)), (8, .int .i64 0)] [] T_ T_ T_ ?_
    refine S_ ?_
    refine n_ ?_
    refine wpM_loopS (fun q r s' => ∃ (i M Y : Nat), i + r = l.length ∧ B ≤ Y ∧ Y < M ∧ s' = { q with env := setE 8 (.int .i64 (i : Nat)) (setE 3 (.sl 79 Y 0 i) q.env), l := [(Y, .cells 79 (smc (l.take i)))], M := M }) (l.length) ?_ ?_
    ·
      refine .of' _ _ ⟨0, _, B, by omega, Nat.le_refl _, ?_, rfl⟩ ?_ ?_ ?_
      · exact Nat.lt_succ_self _
      all_goals exact L_
    rintro r s' ⟨i, M, Y, hir, hBY, hYM, rfl⟩
    try refine S_ ?_
    refine g_ [3,6,7,8,9] ?_
    refine c_ (fun hc0 => ?_) fun hc0 => ?_
    ·
      have hil : i < l.length := by simpa using hc0
      have hin := Sm.get_in hil
      have htl : (l.take i).length = i := by simp; omega
      refine g_ [3,5,6,7,8] ?_
      refine n_ ?_
      refine dr_ mixed [3,5,6,7,8] 0 1 [ M] [⟨[5],[],[],[],false⟩,⟨[12],[0],[],[],false⟩,⟨[13],[],[],[],true⟩,⟨[5],[],[],[],false⟩,⟨[15],[0],[],[],false⟩,⟨[16],[],[],[],true⟩,⟨[5],[],[],[],false⟩,⟨[18],[0],[],[],false⟩,⟨[19],[],[],[],true⟩,⟨[5],[],[],[],false⟩,⟨[14,21],[0],[0],[],false⟩,⟨[5],[],[],[],false⟩,⟨[17,22],[0],[0],[],false⟩,⟨[5],[],[],[],false⟩,⟨[20,23],[0],[0],[],false⟩] [0,1,3,4,6,7,2,9,5,8,10,11,12,13,14] [[],[0],[0,1],[],[3],[0,1,2,3,4],[],[6],[0,1,2,3,4,5,6,7],[0,1,2,3,4,6,7],[0,1,2,3,4,5,6,7,8,9],[0,1,2,3,4,5,6,7,8,9,10],[0,1,2,3,4,5,6,7,8,9,10,11],[0,1,2,3,4,5,6,7,8,9,10,11,12],[0,1,2,3,4,5,6,7,8,9,10,11,12,13]] 1 ?_
      intro O A K hO hA hK;simp only [atL_cons,atL_nil,Nat.reduceAdd,Nat.zero_add] at hO hA
      refine SO_ ?_
      refine lp_ (icopyE_ok (l.getD i default).e.sz (l.getD i default).e (Nat.le_refl _) (by omega)) Tryz.call89 ?_
      refine lp_ (ih _ (by omega) (l.getD i default).th rfl (by omega)) Tryz.call43 ?_
      refine lp_ (ih _ (by omega) (l.getD i default).el rfl (by omega)) Tryz.call43 ?_
      refine hK _ (S_ ?_);clear hK K hO hA O A
      refine wpM_regionK [3,6,7,8] rfl fun Q1 hQ1 => ?_
      simp -implicitDefEqProofs (disch := omega) only [go_sem, htl]
      refine hQ1 _ _ (S_ ?_);clear hQ1 Q1
      refine g_ [3,6,7,8] ?_
      have e1 : smc (l.take i) ++ [.int .i64 (l.getD i default).kind, .int .i64 (l.getD i default).to'.kind, .int .i64 (l.getD i default).to'.at', .int .i64 (l.getD i default).e.kind, .int .i64 (l.getD i default).e.n, .int .i64 (l.getD i default).e.a.kind, .int .i64 (l.getD i default).e.a.at', .rows 77 (Ex.csL (l.getD i default).e.kids), .rows 79 (Sm.csL (l.getD i default).th), .rows 79 (Sm.csL (l.getD i default).el)] = smc (l.take (i + 1)) := by
        rw [← smc_take _ _ hil, Sm.cs_eq]
      rw [e1]
      refine .of' _ _ ⟨r - 1, by omega, i + 1, _, M + 2, by omega, by omega, ?_, rfl⟩ ?_ ?_ ?_
      · first | omega | (simp -implicitDefEqProofs (disch := omega) only [go_sem]; done) | (simp -implicitDefEqProofs (disch := omega) only [go_sem]; omega)
      all_goals exact L_
    refine n_ ?_
    have hie : i = l.length := by simp at hc0; omega
    have htl : l.take i = l := by rw [hie, List.take_of_length_le (Nat.le_refl _)]
    rw [htl]
    refine wpM_frz [Y] [(79, Y, 0, i, Sm.csL l)] (by intro q hq; simp at hq; subst hq; simp -implicitDefEqProofs (disch := omega) only [go_sem]) (by intro q hq; simp only [List.mem_cons, List.not_mem_nil, or_false] at hq; subst hq; rw [hie]; exact ⟨by simp, rowsOf_smc (T := 79) T_ rfl⟩) ?_
    simp -implicitDefEqProofs (disch := omega) only [go_sem]
    refine g_ [2] ?_
    refine e_ Tryz.results43 ?_
    first
    | exact True.intro
    | rfl
end Go.Proofs.YtnmfmeehmieifaaGreat
namespace Go.Proofs.YtnmfmeehmieifaaGreat
open Go Sg
set_option maxRecDepth 100000
set_option linter.unusedSimpArgs false
set_option linter.unusedVariables false
set_option linter.unusedSectionVars false
set_option maxHeartbeats 4000000
variable [Glob]
theorem rb1 {s : Sm} (h : s.kind = 1) : rb s = if s.e.kind == 2 && (s.e.a.kind == s.to'.kind && s.e.a.at' == s.to'.at') then [] else [s] := by
  simp [rb, Sm.no, h]
theorem rb3 {s : Sm} (h : s.kind = 3) : rb s = if s.e.isN 0 then [] else [s] := by
  simp [rb, Sm.no, h]
theorem rb2 {s : Sm} (h : s.kind = 2) : rb s = if (s.th.length : Int) == 0 && (s.el.length : Int) == 0 then [] else if s.e.kind != 1 then [s] else if s.e.n != 0 then s.th else s.el := by
  have hn : s.no = ((s.th.length : Int) == 0 && (s.el.length : Int) == 0) := by simp [Sm.no, h]
  rw [rb, hn]
  cases (s.th.length : Int) == 0 && (s.el.length : Int) == 0
  · cases h2 : s.e.kind == 1
    · have : (s.e.kind != 1) = true := by simpa using h2
      simp [h, this]
    · have : (s.e.kind != 1) = false := by simpa using h2
      cases h3 : s.e.n != 0 <;> simp [h, this]
  · simp
theorem asserts {u t : TypeId} {i : TypeInfo} {want : Array (String × TypeId)} {v : PV} (hu : Tryz.prog.underlying u = some (.interface want)) (hi : Tryz.prog.info? t = some i) (hm : Instr.missingMethod want i.methods = none) : assertA Tryz.prog u true (.iface t v) = some (.tuple [.iface t v, .bool true]) := by
  unfold assertA
  simp only [hu, hi, hm, if_true]
theorem rbset_ok (s : Sm) (h : s.kind = 1) : PureF Tryz.prog 204 [.agg [.int .i64 s.to'.kind, .int .i64 s.to'.at', .int .i64 s.e.kind, .int .i64 s.e.n, .int .i64 s.e.a.kind, .int .i64 s.e.a.at', .rows 77 (Ex.csL s.e.kids)], .agg s.cs] [.rows 79 (Sm.csL (rb s))] := by
  refine pureF_of Tryz.func204 rfl Tryz.ntmps204 (by simp) T_ ?_
  intro f0 B Q hQ
  refine g_ [2,3] ?_
  refine gD_ [3,16] ?_
  refine c_ (fun hc0 => ?_) fun hc0 => ?_
  ·
    refine g_ [4] ?_
    refine wpM_le [(4, .rows 79 [])] [] T_ T_ T_ ?_
    refine e_ Tryz.results204 ?_
    first
    | exact True.intro
    | rw [rb1 h, if_pos hc0]; rfl
  refine g_ [4] ?_
  refine wpM_frz [B + 2] [(79, B + 2, 0, 1, Sm.csL [s])] (by intro q hq; simp at hq; subst hq; simp -implicitDefEqProofs (disch := omega) only [go_sem]) (by intro q hq; simp only [List.mem_cons, List.not_mem_nil, or_false] at hq; subst hq; exact ⟨by simp, rowsOf_smc (T := 79) (l := [s]) (by rw [← smc_one, Sm.cs_eq]; simp -implicitDefEqProofs (disch := omega) only [go_sem]) rfl⟩) ?_
  refine S_ ?_
  refine e_ Tryz.results204 ?_
  first
  | exact True.intro
  | rw [rb1 h, if_neg (by rw [hc0]; simp)]
theorem rbwhile_ok (s : Sm) (h : s.kind = 3) : PureF Tryz.prog 231 [.agg [.int .i64 s.e.kind, .int .i64 s.e.n, .int .i64 s.e.a.kind, .int .i64 s.e.a.at', .rows 77 (Ex.csL s.e.kids), .rows 79 (Sm.csL s.th)], .agg s.cs] [.rows 79 (Sm.csL (rb s))] := by
  refine pureF_of Tryz.func231 rfl Tryz.ntmps231 (by simp) T_ ?_
  intro f0 B Q hQ
  refine g_ [2,3] ?_
  refine n_ ?_
  refine wpM_regionK [3,7] rfl fun Q1 hQ1 => ?_
  refine S_ ?_
  refine cp_ (isN_ok s.e 0) Tryz.call181 ?_
  refine hQ1 _ _ (S_ ?_);clear hQ1 Q1
  refine c_ (fun hc0 => ?_) fun hc0 => ?_
  ·
    refine g_ [4] ?_
    refine wpM_le [(4, .rows 79 [])] [] T_ T_ T_ ?_
    refine e_ Tryz.results231 ?_
    first
    | exact True.intro
    | rw [rb3 h, if_pos hc0]; rfl
  refine g_ [4] ?_
  refine wpM_frz [B + 2] [(79, B + 2, 0, 1, Sm.csL [s])] (by intro q hq; simp at hq; subst hq; simp -implicitDefEqProofs (disch := omega) only [go_sem]) (by intro q hq; simp only [List.mem_cons, List.not_mem_nil, or_false] at hq; subst hq; exact ⟨by simp, rowsOf_smc (T := 79) (l := [s]) (by rw [← smc_one, Sm.cs_eq]; simp -implicitDefEqProofs (disch := omega) only [go_sem]) rfl⟩) ?_
  refine S_ ?_
  refine e_ Tryz.results231 ?_
  first
  | exact True.intro
  | rw [rb3 h, if_neg (by rw [hc0]; simp)]
theorem rbif_ok (s : Sm) (h : s.kind = 2) : PureF Tryz.prog 226 [.agg [.int .i64 s.e.kind, .int .i64 s.e.n, .int .i64 s.e.a.kind, .int .i64 s.e.a.at', .rows 77 (Ex.csL s.e.kids), .rows 79 (Sm.csL s.th), .rows 79 (Sm.csL s.el)], .agg s.cs] [.rows 79 (Sm.csL (rb s))] := by
  refine pureF_of Tryz.func226 rfl Tryz.ntmps226 (by simp) T_ ?_
  intro f0 B Q hQ
  refine g_ [2,3] ?_
  refine gD_ [2,3,5] ?_
  refine c_ (fun hc0 => ?_) fun hc0 => ?_
  ·
    refine g_ [4] ?_
    refine wpM_le [(4, .rows 79 [])] [] T_ T_ T_ ?_
    refine e_ Tryz.results226 ?_
    first
    | exact True.intro
    | rw [rb2 h, if_pos hc0]; rfl
  refine g_ [2,3,16] ?_
  refine c_ (fun hc1 => ?_) fun hc1 => ?_
  ·
    refine g_ [4] ?_
    refine wpM_frz [B + 2] [(79, B + 2, 0, 1, Sm.csL [s])] (by intro q hq; simp at hq; subst hq; simp -implicitDefEqProofs (disch := omega) only [go_sem]) (by intro q hq; simp only [List.mem_cons, List.not_mem_nil, or_false] at hq; subst hq; exact ⟨by simp, rowsOf_smc (T := 79) (l := [s]) (by rw [← smc_one, Sm.cs_eq]; simp -implicitDefEqProofs (disch := omega) only [go_sem]) rfl⟩) ?_
    refine S_ ?_
    refine e_ Tryz.results226 ?_
    first
    | exact True.intro
    | rw [rb2 h, if_neg (by rw [hc0]; simp), if_pos hc1]
  refine n_ ?_
  refine wpM_regionK [2,23] rfl fun Q1 hQ1 => ?_
  refine S_ ?_
  refine cp_ (ion_ok s.e.n) Tryz.call113 ?_
  refine hQ1 _ _ (S_ ?_);clear hQ1 Q1
  refine c_ (fun hc2 => ?_) fun hc2 => ?_
  ·
    refine g_ [4] ?_
    refine e_ Tryz.results226 ?_
    first
    | exact True.intro
    | rw [rb2 h, if_neg (by rw [hc0]; simp), if_neg (by rw [hc1]; simp), if_pos hc2]
  refine g_ [4] ?_
  refine e_ Tryz.results226 ?_
  first
  | exact True.intro
  | rw [rb2 h, if_neg (by rw [hc0]; simp), if_neg (by rw [hc1]; simp), if_neg (by rw [hc2]; simp)]
theorem do_rb (s : Sm) (hn : doNil s = false) : ∃ t v fp, doOf s = .iface t v ∧ (∀ args w, (callFunc fp args).run Tryz.prog w = .ok (.enter fp args) w) ∧
    (∀ (u : Value) w, (method (Tryz.prog.types.size + Made.depth) t u "loop.example/stopgate/impl.rebuilt").run Tryz.prog w = .ok (fp, u) w) ∧ PureF Tryz.prog fp [v, .agg s.cs] [.rows 79 (Sm.csL (rb s))] ∧ assertA Tryz.prog 129 true (doOf s) = some (.tuple [doOf s, .bool true]) := by
  by_cases h1 : s.kind = 1
  · refine ⟨203, _, 204, by rw [doOf, if_pos (by simp [h1])], Tryz.call204, method_run info203 Tryz.underlying203 (by simp) (by rfl) rfl rfl, rbset_ok s h1, ?_⟩
    rw [doOf, if_pos (by simp [h1])]
    exact asserts Tryz.underlying129 info203 (Option.isNone_iff_eq_none.1 (by decide +kernel))
  by_cases h2 : s.kind = 2
  · refine ⟨205, _, 226, by rw [doOf, if_neg (by simp [h2]), if_pos (by simp [h2])], Tryz.call226, method_run info205 Tryz.underlying205 (by simp) (by rfl) rfl rfl, rbif_ok s h2, ?_⟩
    rw [doOf, if_neg (by simp [h2]), if_pos (by simp [h2])]
    exact asserts Tryz.underlying129 info205 (Option.isNone_iff_eq_none.1 (by decide +kernel))
  have h3 : s.kind = 3 := by simpa [doNil, h1, h2] using hn
  refine ⟨207, _, 231, by rw [doOf, if_neg (by simp [h3]), if_neg (by simp [h3]), if_pos (by simp [h3])], Tryz.call231, method_run info207 Tryz.underlying207 (by simp) (by rfl) rfl rfl, rbwhile_ok s h3, ?_⟩
  rw [doOf, if_neg (by simp [h3]), if_neg (by simp [h3]), if_pos (by simp [h3])]
  exact asserts Tryz.underlying129 info207 (Option.isNone_iff_eq_none.1 (by decide +kernel))
end Go.Proofs.YtnmfmeehmieifaaGreat
namespace Go.Proofs.YtnmfmeehmieifaaGreat
open Go Sg
set_option maxRecDepth 100000
set_option linter.unusedSimpArgs false
set_option linter.unusedVariables false
set_option linter.unusedSectionVars false
set_option maxHeartbeats 4000000
variable [Glob]
@[go_sem high] theorem Sm.inn_cs (s : Sm) : s.inn.cs = [.int .i64 s.kind, .int .i64 s.to'.kind, .int .i64 s.to'.at', .int .i64 s.e.slim.kind, .int .i64 s.e.slim.n, .int .i64 s.e.slim.a.kind, .int .i64 s.e.slim.a.at', .rows 77 (Ex.csL s.e.slim.kids), .rows 79 (Sm.csL (Sm.slL s.th)), .rows 79 (Sm.csL (Sm.slL s.el))] := by rw [Sm.cs_eq]; rfl
@[go_sem] theorem Sm.slL_nil : Sm.slL [] = [] := rfl
theorem Sm.szL_take' (l : List Sm) (i : Nat) : Sm.szL (l.take i) ≤ Sm.szL l := by
  induction l generalizing i with
  | nil => simp
  | cons s l ih =>
    cases i with
    | zero => simp [Sm.szL]
    | succ i => simp only [List.take_succ_cons, Sm.szL]; have := ih i; omega
theorem inn_nil {s : Sm} (h : s.plain = true) : doNil s.inn = false := by
  have : s.inn.kind = s.kind := rfl
  rw [doNil, this]
  unfold Sm.plain at h
  cases h1 : s.kind == 1 <;> cases h2 : s.kind == 2 <;> cases h3 : s.kind == 3 <;> simp_all
theorem smc_join (l r : List Sm) : smc l ++ (Sm.csL r).flatten = smc (l ++ r) := by
  simp [smc, Sm.csL_map]
theorem slimS_ok : ∀ (N : Nat) (l : List Sm), Sm.szL l = N → Sm.szL l ≤ 1099511627776 → (∃ d, formS d l = true) → PureF Tryz.prog 44 [.rows 79 (Sm.csL l)] [.rows 79 (Sm.csL (Sm.slL l))] := by
  intro N
  induction N using Nat.strongRecOn with
  | _ N ih =>
    intro l hN hs hf
    obtain ⟨d, hf⟩ := hf
    have hlen := Sm.len_szL l
    refine pureF_of Tryz.func44 rfl Tryz.ntmps44 (by simp) T_ ?_
    intro f0 B Q hQ
    refine g_ [0] ?_
    refine g_ [0,3] ?_
    refine g_ [3,8,9,10] ?_
    refine wpM_nil 79 [(3, .sl 79 B 0 0), (8, .rows 79 (Sm.csL l)), (9, .int .i64 (l.length : Nat)), (10, .int .i64 0)] [] T_ T_ T_ ?_
    refine S_ ?_
    refine n_ ?_
    refine wpM_loopS (fun q r s' => ∃ (i M Y : Nat), i + r = l.length ∧ B ≤ Y ∧ Y < M ∧ s' = { q with env := setE 10 (.int .i64 (i : Nat)) (setE 3 (.sl 79 Y 0 (Sm.slL (l.take i)).length) q.env), l := [(Y, .cells 79 (smc (Sm.slL (l.take i))))], M := M }) (l.length) ?_ ?_
    ·
      refine .of' _ _ ⟨0, _, B, by omega, Nat.le_refl _, ?_, rfl⟩ ?_ ?_ ?_
      · exact Nat.lt_succ_self _
      all_goals exact L_
    rintro r s' ⟨i, M, Y, hir, hBY, hYM, rfl⟩
    try refine S_ ?_
    refine g_ [3,8,9,10,11] ?_
    refine c_ (fun hc0 => ?_) fun hc0 => ?_
    ·
      have hil : i < l.length := by simpa using hc0
      have hin := Sm.get_in hil
      obtain ⟨hp, heo, d', hf1, hf2⟩ := formS_at hf hil
      have hsl : (Sm.slL (l.take (i + 1))) = Sm.slL (l.take i) ++ rb (l.getD i default).inn := by rw [Sm.slL_take _ _ hil, Sm.sl_eq]
      have hsn : (Sm.slL (l.take i)).length + (rb (l.getD i default).inn).length = (Sm.slL (l.take (i + 1))).length := by rw [hsl, List.length_append]
      have hlz : (Sm.slL (l.take i)).length + (rb (l.getD i default).inn).length ≤ 1099511627776 := by
        have h1 := Sm.len_szL (Sm.slL (l.take (i + 1)))
        have h2 := Sm.slL_sz (l.take (i + 1))
        have h3 := Sm.szL_take' l (i + 1)
        omega
      refine g_ [3,5,8,9,10] ?_
      refine n_ ?_
      refine dr_ mixed [3,5,8,9,10] 0 1 [ M] [⟨[5],[],[],[],false⟩,⟨[14],[0],[],[],false⟩,⟨[15],[],[],[],true⟩,⟨[5],[],[],[],false⟩,⟨[17],[0],[],[],false⟩,⟨[18],[],[],[],true⟩,⟨[5],[],[],[],false⟩,⟨[20],[0],[],[],false⟩,⟨[21],[],[],[],true⟩,⟨[5],[],[],[],false⟩,⟨[16,23],[0],[0],[],false⟩,⟨[5],[],[],[],false⟩,⟨[19,24],[0],[0],[],false⟩,⟨[5],[],[],[],false⟩,⟨[22,25],[0],[0],[],false⟩] [0,1,3,4,6,7,2,9,5,8,10,11,12,13,14] [[],[0],[0,1],[],[3],[0,1,2,3,4],[],[6],[0,1,2,3,4,5,6,7],[0,1,2,3,4,6,7],[0,1,2,3,4,5,6,7,8,9],[0,1,2,3,4,5,6,7,8,9,10],[0,1,2,3,4,5,6,7,8,9,10,11],[0,1,2,3,4,5,6,7,8,9,10,11,12],[0,1,2,3,4,5,6,7,8,9,10,11,12,13]] 1 ?_
      intro O A K hO hA hK;simp only [atL_cons,atL_nil,Nat.reduceAdd,Nat.zero_add] at hO hA
      refine SO_ ?_
      refine lp_ (islimE_ok (l.getD i default).e.sz (l.getD i default).e (Nat.le_refl _) (by omega) ⟨6, ok_form heo⟩) Tryz.call90 ?_
      refine lp_ (ih _ (by omega) (l.getD i default).th rfl (by omega) ⟨d', hf1⟩) Tryz.call44 ?_
      refine lp_ (ih _ (by omega) (l.getD i default).el rfl (by omega) ⟨d', hf2⟩) Tryz.call44 ?_
      refine hK _ (S_ ?_);clear hK K hO hA O A
      refine n_ ?_
      obtain ⟨t, v, fp, q0, q1, q2, q3, q4⟩ := do_rb (l.getD i default).inn (inn_nil hp)
      refine wpM_regionK [3,5,6,7,8,9,10] rfl fun Q1 hQ1 => ?_
      simp -implicitDefEqProofs (disch := omega) only [go_sem, ↓q4]
      refine call_p (doOf_ok (l.getD i default).inn) Tryz.call91 rfl rfl rfl (by first | rfl | (simp -implicitDefEqProofs (disch := omega) only [go_sem] <;> rfl)) ?_
      simp -implicitDefEqProofs (disch := omega) only [go_sem, ↓q4]
      refine hQ1 _ _ (S_ ?_);clear hQ1 Q1
      refine g_ [3,5,6,8,9,10,32] ?_
      refine c1_ ?_
      refine wpM_regionK [3,8,9,10] rfl fun Q1 hQ1 => ?_
      refine S_ ?_
      refine inv_p (args := [.agg (l.getD i default).inn.cs]) q3 q1 q2 rfl rfl (by simp -implicitDefEqProofs (disch := omega) only [go_sem, q0]) T_ ?_
      refine S_ ?_
      refine hQ1 _ _ (S_ ?_);clear hQ1 Q1
      refine g_ [3,8,9,10] ?_
      rw [smc_join, ← hsl, hsn]
      refine .of' _ _ ⟨r - 1, by omega, i + 1, _, M + 1, by omega, by omega, ?_, rfl⟩ ?_ ?_ ?_
      · first | omega | (simp -implicitDefEqProofs (disch := omega) only [go_sem]; done) | (simp -implicitDefEqProofs (disch := omega) only [go_sem]; omega)
      all_goals exact L_
    refine n_ ?_
    have hie : i = l.length := by simp at hc0; omega
    have htl : l.take i = l := by rw [hie, List.take_of_length_le (Nat.le_refl _)]
    rw [htl]
    refine wpM_frz [Y] [(79, Y, 0, (Sm.slL l).length, Sm.csL (Sm.slL l))] (by intro q hq; simp at hq; subst hq; simp -implicitDefEqProofs (disch := omega) only [go_sem]) (by intro q hq; simp only [List.mem_cons, List.not_mem_nil, or_false] at hq; subst hq; exact ⟨by simp, rowsOf_smc (T := 79) T_ rfl⟩) ?_
    simp -implicitDefEqProofs (disch := omega) only [go_sem]
    refine g_ [2] ?_
    refine e_ Tryz.results44 ?_
    first
    | exact True.intro
    | rfl
end Go.Proofs.YtnmfmeehmieifaaGreat
namespace Go.Proofs.YtnmfmeehmieifaaGreat
open Go Sg
set_option maxRecDepth 100000
set_option linter.unusedSimpArgs false
set_option linter.unusedVariables false
set_option linter.unusedSectionVars false
set_option maxHeartbeats 4000000
variable [Glob]
theorem listOk_set' {l : List Int} (h : listOk l = true) (i : Nat) (n : Int) : listOk (l.set i (cut n)) = true := by
  simp only [listOk, Bool.and_eq_true, List.all_eq_true] at h ⊢
  refine ⟨fun x hx => ?_, by rw [List.length_set]; exact h.2⟩
  rcases List.mem_or_eq_of_mem_set hx with h1 | h1
  · exact h.1 x h1
  · rw [h1, cut_cut']; simp
theorem put_okm {m : MM} (h : m.ok = true) (a : AD) (n : Int) : (m.put a n).ok = true := by
  simp only [MM.ok, Bool.and_eq_true] at h
  unfold MM.put
  split
  · simp only [MM.ok, Bool.and_eq_true]; exact ⟨⟨h.1.1, listOk_set' h.1.2 _ _⟩, h.2⟩
  · split
    · simp only [MM.ok, Bool.and_eq_true]; exact ⟨h.1, listOk_set' h.2 _ _⟩
    · simp only [MM.ok, Bool.and_eq_true]; exact h
theorem wh_okm {c : MM → Bool} {b : MM → Nat → MM × Nat × Bool} (h : ∀ m F, m.ok = true → (b m F).1.ok = true) : ∀ g m F, m.ok = true → (wh c b g m F).1.ok = true
  | 0, m, F => fun hm => hm
  | g + 1, m, F => fun hm => by
    simp only [wh]
    split
    · split
      · exact h m F hm
      · split
        · exact h m F hm
        · exact wh_okm h g _ _ (h m F hm)
    · exact hm
mutual
theorem Sm.ex_okm : (s : Sm) → (m : MM) → (F : Nat) → m.ok = true → (s.ex m F).1.ok = true
  | .mk k a e th el, m, F => fun hm => by
    simp only [Sm.ex]
    split
    · exact put_okm hm _ _
    · split
      · exact wh_okm (fun m F hm => Sm.exL_okm th m F hm) _ _ _ hm
      · split
        · exact Sm.exL_okm th m F hm
        · exact Sm.exL_okm el m F hm
theorem Sm.exL_okm : (l : List Sm) → (m : MM) → (F : Nat) → m.ok = true → (Sm.exL l m F).1.ok = true
  | [], m, F => fun hm => hm
  | s :: l, m, F => fun hm => by
    simp only [Sm.exL]
    split
    · exact Sm.ex_okm s m F hm
    · exact Sm.exL_okm l _ _ (Sm.ex_okm s m F hm)
end
mutual
def Sm.wr (a : AD) : Sm → Bool
  | .mk k t _ th el => (k == 1 && (t.kind == a.kind && t.at' == a.at')) || Sm.wrL a th || Sm.wrL a el
def Sm.wrL (a : AD) : List Sm → Bool
  | [] => false
  | s :: l => s.wr a || Sm.wrL a l
end
theorem Sm.wr_eq (a : AD) (s : Sm) : s.wr a = ((s.kind == 1 && (s.to'.kind == a.kind && s.to'.at' == a.at')) || Sm.wrL a s.th || Sm.wrL a s.el) := by cases s; simp only [Sm.wr, Sm.kind, Sm.to', Sm.th, Sm.el]
theorem Sm.wrL_any (a : AD) (l : List Sm) : Sm.wrL a l = l.any (Sm.wr a) := by
  induction l with
  | nil => rfl
  | cons s l ih => simp only [Sm.wrL, List.any_cons, ih]
theorem rb_wr (a : AD) (s : Sm) : Sm.wrL a (rb s) = true → s.wr a = true := by
  rw [Sm.wr_eq]
  unfold rb
  repeat' split
  · intro h; cases h
  · intro h; simp [h]
  · intro h; simp [h]
  · intro h; simpa [Sm.wrL, Sm.wr_eq] using h
mutual
theorem Sm.sl_wr (a : AD) : (s : Sm) → Sm.wrL a s.sl = true → s.wr a = true
  | .mk k t e th el => by
    rw [Sm.sl]
    intro h
    have := rb_wr a _ h
    simp only [Sm.wr, Bool.or_eq_true] at this ⊢
    rcases this with (h1 | h1) | h1
    · exact .inl (.inl h1)
    · exact .inl (.inr (Sm.slL_wr a th h1))
    · exact .inr (Sm.slL_wr a el h1)
theorem Sm.slL_wr (a : AD) : (l : List Sm) → Sm.wrL a (Sm.slL l) = true → Sm.wrL a l = true
  | [] => id
  | s :: l => by
    rw [Sm.slL, Sm.wrL_any, List.any_append, ← Sm.wrL_any, ← Sm.wrL_any]
    simp only [Sm.wrL, Bool.or_eq_true]
    rintro (h | h)
    · exact .inl (Sm.sl_wr a s h)
    · exact .inr (Sm.slL_wr a l h)
end
end Go.Proofs.YtnmfmeehmieifaaGreat
namespace Go.Proofs.YtnmfmeehmieifaaGreat
open Go Sg
set_option maxRecDepth 100000
set_option linter.unusedSimpArgs false
set_option linter.unusedVariables false
set_option linter.unusedSectionVars false
set_option maxHeartbeats 4000000
variable [Glob]
noncomputable def slimT (l : List Sm) : List Sm := if okS l then Sm.slL l else []
theorem islimS_ok (l : List Sm) (hs : Sm.szL l ≤ 1000000000) : PureF Tryz.prog 10 [.rows 79 (Sm.csL l)] [.rows 79 (Sm.csL (slimT l))] := by
  refine pureF_of Tryz.func10 rfl Tryz.ntmps10 (by simp) T_ ?_
  intro f0 B Q hQ
  refine g_ [0] ?_
  refine n_ ?_
  refine wpM_regionK [0,5] rfl fun Q1 hQ1 => ?_
  refine S_ ?_
  refine cp_ (istmtsOk_ok l (by omega)) Tryz.call42 ?_
  refine hQ1 _ _ (S_ ?_);clear hQ1 Q1
  refine c_ (fun hc0 => ?_) fun hc0 => ?_
  ·
    refine g_ [2] ?_
    have hcs : slimT l = [] := by rw [slimT, if_neg]; intro h; rw [h] at hc0; cases hc0
    refine wpM_le [(2, .rows 79 [])] [] T_ T_ T_ ?_
    refine e_ Tryz.results10 ?_
    first
    | exact True.intro
    | rw [hcs]
      try rfl
  have hok : okS l = true := by simpa using hc0
  have hcs : slimT l = Sm.slL l := by rw [slimT, if_pos hok]
  have hf4 : formS 4 l = true := by simp only [okS, Bool.and_eq_true] at hok; exact hok.2
  have hsz := Sm.slL_sz l
  refine n_ ?_
  refine wpM_regionK [2] rfl fun Q1 hQ1 => ?_
  refine S_ ?_
  refine cp_ (slimS_ok _ l rfl (by omega) ⟨4, hf4⟩) Tryz.call44 ?_
  refine cp_ (icopyS_ok _ (Sm.slL l) rfl (by omega)) Tryz.call43 ?_
  refine hQ1 _ _ (S_ ?_);clear hQ1 Q1
  refine e_ Tryz.results10 ?_
  first
  | exact True.intro
  | rw [hcs]
    try rfl
theorem Sm.ext' {a b : Sm} (h1 : a.kind = b.kind) (h2 : a.to' = b.to') (h3 : a.e = b.e) (h4 : a.th = b.th) (h5 : a.el = b.el) : a = b := by
  cases a; cases b
  simp only [Sm.kind, Sm.to', Sm.e, Sm.th, Sm.el] at h1 h2 h3 h4 h5
  subst h1; subst h2; subst h3; subst h4; subst h5; rfl
end Go.Proofs.YtnmfmeehmieifaaGreat
namespace Go.Proofs.YtnmfmeehmieifaaGreat
open Go Sg
set_option maxRecDepth 100000
set_option linter.unusedSimpArgs false
set_option linter.unusedVariables false
set_option linter.unusedSectionVars false
set_option maxHeartbeats 4000000
variable [Glob]
theorem sisN_ok (e : Ex) (n : Int) : PureF Tryz.prog 84 [.agg e.cs, .int .i64 n] [.bool (e.isN n)] := by
  refine pureF_of Tryz.func84 rfl Tryz.ntmps84 (by simp) T_ ?_
  intro f0 B Q hQ
  refine g_ [1,2] ?_
  refine gD_ [4] ?_
  refine e_ Tryz.results84 ?_
  first
  | exact True.intro
  | rfl
theorem snum_ok (n : Int) : PureF Tryz.prog 131 [.int .i64 n] [.agg (numX n).cs] := by
  refine pureF_of Tryz.func131 rfl Tryz.ntmps131 (by simp) T_ ?_
  intro f0 B Q hQ
  refine g_ [0,2] ?_
  refine g_ [2] ?_
  refine wpM_le [(2, .ptr B 0)] [(B, .cells 77 (numX n).cs)] T_ T_ T_ ?_
  exact e_ Tryz.results131 True.intro
theorem self_ok (s : Sm) : PureF Tryz.prog 83 [.agg s.cs] [.bool (s.kind == 1 && s.e.kind == 2 && (s.e.a.kind == s.to'.kind && s.e.a.at' == s.to'.at'))] := by
  refine pureF_of Tryz.func83 rfl Tryz.ntmps83 (by simp) T_ ?_
  intro f0 B Q hQ
  refine g_ [1] ?_
  refine gD_ [2] ?_
  refine e_ Tryz.results83 ?_
  first
  | exact True.intro
  | rfl
theorem agg_num (n : Int) : 1 = (numX n).kind ∧ n = (numX n).n ∧ 0 = (numX n).a.kind ∧ 0 = (numX n).a.at' ∧ PV.rows 77 [] = PV.rows 77 (Ex.csL (numX n).kids) := ⟨rfl, rfl, rfl, rfl, rfl⟩
theorem agg_ex (e : Ex) : e.kind = e.kind ∧ e.n = e.n ∧ e.a.kind = e.a.kind ∧ e.a.at' = e.a.at' ∧ PV.rows 77 (Ex.csL e.kids) = PV.rows 77 (Ex.csL e.kids) := ⟨rfl, rfl, rfl, rfl, rfl⟩
theorem two10_ok (e : Ex) (h : e.kids.length = 2) (hs : e.sz ≤ 1099511627776) : PureF Tryz.prog 132 [.agg e.cs] [.agg (slim2 e (e.kids.getD 0 default) (e.kids.getD 1 default)).cs] := by
  have h0 := Ex.kid_sz (e := e) (k := 0) (by omega)
  refine pureF_of Tryz.func132 rfl Tryz.ntmps132 (by simp) T_ ?_
  intro f0 B Q hQ
  refine g_ [1,2] ?_
  refine g_ [1,2,3] ?_
  refine g_ [1,2,3,4] ?_
  refine gD_ [1,2,3,4,13] ?_
  refine c_ (fun hc0 => ?_) fun hc0 => ?_
  ·
    refine n_ ?_
    refine wpM_regionK [2] rfl fun Q1 hQ1 => ?_
    refine S_ ?_
    refine cp_ (two_ok e.kind (e.kids.getD 0 default).n (e.kids.getD 1 default).n) Tryz.call145 ?_
    refine cp_ (snum_ok (two e.kind (e.kids.getD 0 default).n (e.kids.getD 1 default).n)) Tryz.call131 ?_
    refine hQ1 _ _ (S_ ?_);clear hQ1 Q1
    refine e_ Tryz.results132 ?_
    first
    | exact True.intro
    | rw [slim2, if_pos hc0]; exact agg_num _
  refine n_ ?_
  refine wpM_regionK [1,2,3,4,30] rfl fun Q1 hQ1 => ?_
  refine SD_ ?_
  first | refine cg_ (fun hb => sisN_ok (e.kids.getD 1 default) 0) Tryz.call84 ?_ | refine cpD_ (sisN_ok (e.kids.getD 1 default) 0) Tryz.call84 ?_
  first | refine cg_ (fun hb => sisN_ok (e.kids.getD 1 default) 0) Tryz.call84 ?_ | refine cpD_ (sisN_ok (e.kids.getD 1 default) 0) Tryz.call84 ?_
  first | refine cg_ (fun hb => sisN_ok (e.kids.getD 1 default) 1) Tryz.call84 ?_ | refine cpD_ (sisN_ok (e.kids.getD 1 default) 1) Tryz.call84 ?_
  refine hQ1 _ _ (S_ ?_);clear hQ1 Q1
  refine c_ (fun hc1 => ?_) fun hc1 => ?_
  ·
    refine g_ [2] ?_
    refine e_ Tryz.results132 ?_
    first
    | exact True.intro
    | rw [slim2, if_neg (by rw [hc0]; simp), if_pos hc1]; exact agg_ex _
  refine n_ ?_
  refine wpM_regionK [1,2,3,4,57] rfl fun Q1 hQ1 => ?_
  refine SD_ ?_
  first | refine cg_ (fun hb => sisN_ok (e.kids.getD 0 default) 0) Tryz.call84 ?_ | refine cpD_ (sisN_ok (e.kids.getD 0 default) 0) Tryz.call84 ?_
  first | refine cg_ (fun hb => sisN_ok (e.kids.getD 0 default) 1) Tryz.call84 ?_ | refine cpD_ (sisN_ok (e.kids.getD 0 default) 1) Tryz.call84 ?_
  refine hQ1 _ _ (S_ ?_);clear hQ1 Q1
  refine c_ (fun hc2 => ?_) fun hc2 => ?_
  ·
    refine g_ [2] ?_
    refine e_ Tryz.results132 ?_
    first
    | exact True.intro
    | rw [slim2, if_neg (by rw [hc0]; simp), if_neg (by rw [hc1]; simp), if_pos hc2]; exact agg_ex _
  refine n_ ?_
  refine wpM_regionK [1,2,3,4,75] rfl fun Q1 hQ1 => ?_
  refine SD_ ?_
  first | refine cg_ (fun hb => sisN_ok (e.kids.getD 0 default) 0) Tryz.call84 ?_ | refine cpD_ (sisN_ok (e.kids.getD 0 default) 0) Tryz.call84 ?_
  first | refine cg_ (fun hb => sisN_ok (e.kids.getD 1 default) 0) Tryz.call84 ?_ | refine cpD_ (sisN_ok (e.kids.getD 1 default) 0) Tryz.call84 ?_
  first | refine cg_ (fun hb => sisN_ok (e.kids.getD 0 default) 0) Tryz.call84 ?_ | refine cpD_ (sisN_ok (e.kids.getD 0 default) 0) Tryz.call84 ?_
  first | refine cg_ (fun hb => sisN_ok (e.kids.getD 1 default) 0) Tryz.call84 ?_ | refine cpD_ (sisN_ok (e.kids.getD 1 default) 0) Tryz.call84 ?_
  refine hQ1 _ _ (S_ ?_);clear hQ1 Q1
  refine c_ (fun hc3 => ?_) fun hc3 => ?_
  ·
    refine n_ ?_
    refine wpM_regionK [2] rfl fun Q1 hQ1 => ?_
    refine S_ ?_
    refine cp_ (snum_ok 0) Tryz.call131 ?_
    refine hQ1 _ _ (S_ ?_);clear hQ1 Q1
    refine e_ Tryz.results132 ?_
    first
    | exact True.intro
    | rw [slim2, if_neg (by rw [hc0]; simp), if_neg (by rw [hc1]; simp), if_neg (by rw [hc2]; simp), if_pos hc3]; exact agg_num _
  refine n_ ?_
  refine wpM_regionK [1,2,3,4,101] rfl fun Q1 hQ1 => ?_
  refine SD_ ?_
  first | refine cg_ (fun hb => salike_ok _ (e.kids.getD 0 default) (e.kids.getD 1 default) (Nat.le_refl _) (by omega)) Tryz.call159 ?_ | refine cpD_ (salike_ok _ (e.kids.getD 0 default) (e.kids.getD 1 default) (Nat.le_refl _) (by omega)) Tryz.call159 ?_
  refine hQ1 _ _ (S_ ?_);clear hQ1 Q1
  refine c_ (fun hc4 => ?_) fun hc4 => ?_
  ·
    refine n_ ?_
    refine wpM_regionK [2] rfl fun Q1 hQ1 => ?_
    refine S_ ?_
    refine cp_ (snum_ok 1) Tryz.call131 ?_
    refine hQ1 _ _ (S_ ?_);clear hQ1 Q1
    refine e_ Tryz.results132 ?_
    first
    | exact True.intro
    | rw [slim2, if_neg (by rw [hc0]; simp), if_neg (by rw [hc1]; simp), if_neg (by rw [hc2]; simp), if_neg (by rw [hc3]; simp), if_pos hc4]; exact agg_num _
  refine n_ ?_
  refine wpM_regionK [1,2,111] rfl fun Q1 hQ1 => ?_
  refine SD_ ?_
  first | refine cg_ (fun hb => salike_ok _ (e.kids.getD 0 default) (e.kids.getD 1 default) (Nat.le_refl _) (by omega)) Tryz.call159 ?_ | refine cpD_ (salike_ok _ (e.kids.getD 0 default) (e.kids.getD 1 default) (Nat.le_refl _) (by omega)) Tryz.call159 ?_
  refine hQ1 _ _ (S_ ?_);clear hQ1 Q1
  refine c_ (fun hc5 => ?_) fun hc5 => ?_
  ·
    refine n_ ?_
    refine wpM_regionK [2] rfl fun Q1 hQ1 => ?_
    refine S_ ?_
    refine cp_ (snum_ok 0) Tryz.call131 ?_
    refine hQ1 _ _ (S_ ?_);clear hQ1 Q1
    refine e_ Tryz.results132 ?_
    first
    | exact True.intro
    | rw [slim2, if_neg (by rw [hc0]; simp), if_neg (by rw [hc1]; simp), if_neg (by rw [hc2]; simp), if_neg (by rw [hc3]; simp), if_neg (by rw [hc4]; simp), if_pos hc5]; exact agg_num _
  refine g_ [2] ?_
  refine e_ Tryz.results132 ?_
  first
  | exact True.intro
  | rw [slim2, if_neg (by rw [hc0]; simp), if_neg (by rw [hc1]; simp), if_neg (by rw [hc2]; simp), if_neg (by rw [hc3]; simp), if_neg (by rw [hc4]; simp), if_neg (by rw [hc5]; simp)]; exact agg_ex _
end Go.Proofs.YtnmfmeehmieifaaGreat
namespace Go.Proofs.YtnmfmeehmieifaaGreat
open Go Sg
set_option maxRecDepth 100000
set_option linter.unusedSimpArgs false
set_option linter.unusedVariables false
set_option linter.unusedSectionVars false
set_option maxHeartbeats 4000000
variable [Glob]
inductive TX where
  | mk (kind n : Int) (a : AD) (id : Nat) (kids : List TX)
  deriving Inhabited
def TX.kind : TX → Int | .mk k _ _ _ _ => k
def TX.n : TX → Int | .mk _ n _ _ _ => n
def TX.a : TX → AD | .mk _ _ a _ _ => a
def TX.id : TX → Nat | .mk _ _ _ i _ => i
def TX.kids : TX → List TX | .mk _ _ _ _ l => l
mutual
def TX.ex : TX → Ex
  | .mk k n a _ l => .mk k n a (TX.exL l)
def TX.exL : List TX → List Ex
  | [] => []
  | t :: l => t.ex :: TX.exL l
end
theorem TX.exL_map (l : List TX) : TX.exL l = l.map TX.ex := by
  induction l with
  | nil => rfl
  | cons e l ih => simp [TX.exL, ih]
def kidV (id n : Nat) : PV := if n = 0 then .emp else .sl 77 id 0 n
def TX.v (t : TX) : List PV := [.int .i64 t.kind, .int .i64 t.n, .int .i64 t.a.kind, .int .i64 t.a.at', kidV t.id t.kids.length]
@[go_sem] theorem TX.v_eq (t : TX) : t.v = [.int .i64 t.kind, .int .i64 t.n, .int .i64 t.a.kind, .int .i64 t.a.at', kidV t.id t.kids.length] := rfl
theorem kidV_pos {id n : Nat} (h : 0 < n) : kidV id n = .sl 77 id 0 n := if_neg (by omega)
@[go_sem ↓] theorem kidV_cell (id n : Nat) : (kidV id n).cell = true := by unfold kidV; split <;> rfl
def TX.vL (l : List TX) : List PV := (l.map TX.v).flatten
theorem TX.vL_len (l : List TX) : (TX.vL l).length = l.length * 5 := by
  induction l with
  | nil => rfl
  | cons t l ih => simp only [TX.vL, List.map_cons, List.flatten_cons, List.length_append, TX.v_eq, List.length_cons, List.length_nil] at ih ⊢; omega
mutual
def TX.ob : TX → List (Nat × AObj)
  | .mk _ _ _ id l => (if l.length = 0 then [] else [(id, .cells 77 (TX.vL l))]) ++ TX.obL l
def TX.obL : List TX → List (Nat × AObj)
  | [] => []
  | t :: l => t.ob ++ TX.obL l
end
theorem TX.obL_app (l r : List TX) : TX.obL (l ++ r) = TX.obL l ++ TX.obL r := by
  induction l with
  | nil => rfl
  | cons t l ih => simp only [List.cons_append, TX.obL, ih, List.append_assoc]
theorem TX.ob_nil {k n : Int} {a : AD} {id : Nat} : (TX.mk k n a id []).ob = [] := rfl
theorem TX.ob_cons {k n : Int} {a : AD} {id : Nat} {l : List TX} (h : 0 < l.length) : (TX.mk k n a id l).ob = (id, .cells 77 (TX.vL l)) :: TX.obL l := by
  rw [TX.ob, if_neg (by omega)]; rfl
theorem TX.obL_drop (l : List TX) (i : Nat) (h : i < l.length) : TX.obL (l.drop i) = (l.getD i default).ob ++ TX.obL (l.drop (i + 1)) := by
  rw [List.drop_eq_getElem_cons h, TX.obL]
  simp [List.getD, h]
noncomputable def cellsT (l : List TX) (i : Nat) : List PV := exc (Ex.slimL (TX.exL (l.take i))) ++ TX.vL (l.drop i)
@[go_sem] theorem cellsT_len (l : List TX) (i : Nat) : (cellsT l i).length = l.length * 5 := by
  rw [cellsT, List.length_append, exc_len, TX.vL_len, Ex.slimL_len, TX.exL_map, List.length_map, List.length_take, List.length_drop]
  omega
theorem cellsT_zero (l : List TX) : cellsT l 0 = TX.vL l := by
  rw [cellsT, List.take_zero, List.drop_zero]; rfl
theorem cellsT_all (l : List TX) : cellsT l l.length = exc (Ex.slimL (TX.exL l)) := by
  rw [cellsT, List.take_length, List.drop_length, TX.vL]; simp
theorem exc_len5 (l : List TX) (i : Nat) (h : i ≤ l.length) : (exc (Ex.slimL (TX.exL (l.take i)))).length = i * 5 := by
  rw [exc_len, Ex.slimL_len, TX.exL_map, List.length_map, List.length_take]; omega
theorem vL_drop (l : List TX) (i : Nat) (h : i < l.length) : TX.vL (l.drop i) = (l.getD i default).v ++ TX.vL (l.drop (i + 1)) := by
  rw [List.drop_eq_getElem_cons h, TX.vL, List.map_cons, List.flatten_cons]
  simp [List.getD, h, TX.vL]
theorem cellsT_get (l : List TX) (i : Nat) (h : i < l.length) : ((cellsT l i).drop (i * 5)).take 5 = (l.getD i default).v := by
  rw [cellsT, List.drop_append_of_le_length (by rw [exc_len5 l i (by omega)]; exact Nat.le_refl _), List.drop_of_length_le (by rw [exc_len5 l i (by omega)]; exact Nat.le_refl _), List.nil_append, vL_drop l i h, List.take_append_of_le_length (by simp [TX.v_eq]), List.take_of_length_le (by simp [TX.v_eq])]
theorem exL_take (l : List TX) (i : Nat) (h : i < l.length) : TX.exL (l.take (i + 1)) = TX.exL (l.take i) ++ [(l.getD i default).ex] := by
  rw [TX.exL_map, TX.exL_map, List.take_succ_eq_append_getElem h, List.map_append]
  simp [List.getD, h]
theorem cellsT_set (l : List TX) (i : Nat) (h : i < l.length) : splice (cellsT l i) (i * 5) (l.getD i default).ex.slim.cs = cellsT l (i + 1) := by
  have h5 := exc_len5 l i (by omega)
  have hcs : (l.getD i default).ex.slim.cs.length = 5 := by rw [Ex.cs_eq]; rfl
  have hv : (l.getD i default).v.length = 5 := rfl
  rw [splice, hcs, cellsT, cellsT, vL_drop l i h, exL_take l i h, Ex.slimL_map, Ex.slimL_map, List.map_append]
  have e1 : exc (List.map Ex.slim (TX.exL (l.take i)) ++ List.map Ex.slim [(l.getD i default).ex]) = exc (List.map Ex.slim (TX.exL (l.take i))) ++ (l.getD i default).ex.slim.cs := by
    rw [List.map_cons, List.map_nil, ← exc_app]
  rw [e1]
  rw [Ex.slimL_map] at h5
  rw [List.take_append_of_le_length (by omega), List.take_of_length_le (by omega), ← List.append_assoc, List.drop_append_of_le_length (by rw [List.length_append, hv]; omega), List.drop_of_length_le (by rw [List.length_append, hv]; omega)]
  simp
end Go.Proofs.YtnmfmeehmieifaaGreat
namespace Go.Proofs.YtnmfmeehmieifaaGreat
open Go Sg
set_option maxRecDepth 100000
set_option linter.unusedSimpArgs false
set_option linter.unusedVariables false
set_option linter.unusedSectionVars false
set_option maxHeartbeats 4000000
variable [Glob]
theorem slimN_mk (k n : Int) (a : AD) (L : List Ex) : slimN (Ex.mk k n a L) = if (k == 10 && (L.getD 0 default).kind == 1) = true then numX (numIs (!((L.getD 0 default).n != 0))) else if ((L.length : Int) == 2) = true then slim2 (Ex.mk k n a L) (L.getD 0 default) (L.getD 1 default) else Ex.mk k n a L := rfl
theorem slim_leaf {k n : Int} {a : AD} (h : k = 1 ∨ k = 2) : (Ex.mk k n a []).slim = Ex.mk k n a [] := by
  rw [Ex.slim_eq, slimN, if_neg, if_neg]
  · rfl
  · simp [Ex.kids, Ex.slimL]
  · simp [Ex.kind]; omega
theorem l10E_leaf (k n : Int) (a : AD) (h : k = 1 ∨ k = 2) : PureF Tryz.prog 82 [.agg [.int .i64 k, .int .i64 n, .int .i64 a.kind, .int .i64 a.at', .emp]] [.agg (Ex.mk k n a []).cs] := by
  refine pureF_of Tryz.func82 rfl Tryz.ntmps82 (by simp) T_ ?_
  intro f0 B Q hQ
  have h10 : (k == 10) = false := by simp; omega
  refine g_ [1,2] ?_
  refine g_ [1,2,3] ?_
  refine n_ ?_
  refine wpM_loopS (fun s n s' => s' = s) (0) ?_ ?_
  ·
    exact .here rfl
  rintro r s' rfl
  try refine S_ ?_
  refine g_ [1,2,3,8] ?_
  refine c1_ ?_
  refine n_ ?_
  refine wpM_regionK [1,2,21] rfl fun Q1 hQ1 => ?_
  simp (contextual := true) (maxSteps := 1000000) (implicitDefEqProofs := false) (disch := first | omega | (simp only [decide_eq_true_eq, decide_eq_false_iff_not, Bool.and_eq_true, Bool.or_eq_false_iff, Bool.not_eq_true'] at *; omega)) only [go_sem, h10]
  refine hQ1 _ _ (S_ ?_);clear hQ1 Q1
  refine c1_ ?_
  refine g_ [1,2,42] ?_
  refine c1_ ?_
  refine g_ [2] ?_
  refine wpM_le [(2, .ptr (B + 1) 0)] [(B + 1, .cells 77 [.int .i64 k, .int .i64 n, .int .i64 a.kind, .int .i64 a.at', .rows 77 []])] T_ T_ T_ ?_
  refine e_ Tryz.results82 ?_
  first
  | exact True.intro
  | first | rfl | (repeat' apply And.intro) <;> rfl
def L10 (t : TX) : Prop := CallF Tryz.prog 82 [.agg t.v] t.ob 0 (fun _ o => o = { rs := [.agg t.ex.slim.cs], u := dropU t.ob })
theorem nodup_pre {B : Nat} {x y : AObj} {T : List (Nat × AObj)} (h : ∀ p ∈ T, p.1 < B) (hnd : (ksL T).Nodup) : (ksL ((B + 1, x) :: (B, y) :: T)).Nodup := by
  have hk : ∀ i, i ∈ ksL T → i < B := by
    intro i hi
    obtain ⟨p, hp, rfl⟩ := List.mem_map.1 hi
    exact h p hp
  show ((B + 1) :: B :: ksL T).Nodup
  rw [List.nodup_cons, List.nodup_cons]
  refine ⟨?_, fun hi => ?_, hnd⟩
  · simp only [List.mem_cons, not_or]
    exact ⟨by omega, fun hi => by have := hk _ hi; omega⟩
  · have := hk _ hi; omega
theorem l10E_node (d : Nat) (k n : Int) (a : AD) (id : Nat) (kids : List TX) (hf : formD (d + 1) (TX.mk k n a id kids).ex = true) (hl : 0 < kids.length) (hs : (TX.mk k n a id kids).ex.sz ≤ 1099511627776) (hnd : (ksL (TX.mk k n a id kids).ob).Nodup) (ih : ∀ i, i < kids.length → L10 (kids.getD i default)) : L10 (TX.mk k n a id kids) := by
  have hob := TX.ob_cons (k := k) (n := n) (a := a) (id := id) hl
  have hv : (TX.mk k n a id kids).v = [.int .i64 k, .int .i64 n, .int .i64 a.kind, .int .i64 a.at', .sl 77 id 0 kids.length] := by
    rw [TX.v_eq]; simp only [TX.kind, TX.n, TX.a, TX.id, TX.kids, kidV_pos hl]
  have hlen2 : kids.length ≤ 2 := by
    have := form_len hf
    have e : (TX.mk k n a id kids).ex.kids.length = kids.length := by simp only [TX.ex, Ex.kids, TX.exL_map, List.length_map]
    omega
  unfold L10
  rw [hv]
  refine callF_ofC' Tryz.func82 rfl Tryz.ntmps82 (by simp) ?_
  intro f0 B ns Q hB hns hQ
  obtain rfl : ns = [] := List.eq_nil_of_length_eq_zero hns
  have hF0 : ∀ p ∈ (TX.mk k n a id kids).ob, cutL (TX.mk k n a id kids).ob f0 p.1 = none := fun p hp => if_pos (lk_some_of (ksL_mem hp))
  have hkB : ∀ p ∈ (TX.mk k n a id kids).ob, p.1 < B := fun p hp => hB _ (lk_some_of (ksL_mem hp))
  generalize cutL (TX.mk k n a id kids).ob f0 = F0 at *
  rw [hob] at hF0 hkB hnd
  have hidB : id < B := hkB (id, .cells 77 (TX.vL kids)) (by simp)
  have hnd0 := fun x y => nodup_pre (x := x) (y := y) hkB hnd
  have hFi : ∀ i, ∀ p ∈ TX.obL (kids.drop i), p ∈ TX.obL kids := by
    intro i p hp
    have e : TX.obL kids = TX.obL (kids.take i) ++ TX.obL (kids.drop i) := by rw [← TX.obL_app, List.take_append_drop]
    rw [e]; exact List.mem_append_right _ hp
  have hmv : ∀ (x y z : AObj) i, (ksL ((id, z) :: (B + 1, x) :: (B, y) :: TX.obL (kids.drop i))).Nodup := by
    intro x y z i
    have h1 := hnd
    simp only [ksL, List.map_cons, List.nodup_cons] at h1
    have hsub : (ksL (TX.obL (kids.drop i))).Sublist (ksL (TX.obL kids)) := by
      have e : TX.obL kids = TX.obL (kids.take i) ++ TX.obL (kids.drop i) := by rw [← TX.obL_app, List.take_append_drop]
      rw [e, ksL_app]; exact List.sublist_append_right _ _
    have hkk : ∀ j, j ∈ ksL (TX.obL (kids.drop i)) → j < B := by
      intro j hj
      obtain ⟨p, hp, rfl⟩ := List.mem_map.1 (hsub.subset hj)
      exact hkB p (List.mem_cons_of_mem _ hp)
    show (id :: (B + 1) :: B :: ksL (TX.obL (kids.drop i))).Nodup
    rw [List.nodup_cons, List.nodup_cons, List.nodup_cons]
    refine ⟨?_, ?_, ?_, h1.2.sublist hsub⟩
    · simp only [List.mem_cons, not_or]
      exact ⟨by omega, by omega, fun hx => h1.1 (hsub.subset hx)⟩
    · simp only [List.mem_cons, not_or]
      exact ⟨by omega, fun hx => by have := hkk _ hx; omega⟩
    · exact fun hx => by have := hkk _ hx; omega
  rw [hob]
  refine g_ [1,2] ?_
  refine g_ [1,2,3] ?_
  refine n_ ?_
  refine wpM_loopS (fun q r s' => ∃ i : Nat, i + r = kids.length ∧ s' = { q with env := setE 3 (.int .i64 (i : Nat)) q.env, l := (id, .cells 77 (cellsT kids i)) :: (B + 1, .cells 77 [.int .i64 0, .int .i64 0, .int .i64 0, .int .i64 0, .emp]) :: (B, .cells 77 [.int .i64 k, .int .i64 n, .int .i64 a.kind, .int .i64 a.at', .sl 77 id 0 kids.length]) :: TX.obL (kids.drop i) }) (kids.length) ?_ ?_
  ·
    refine .of' _ _ ⟨0, by omega, rfl⟩ ?_ ?_ ?_
    · exact L_
    · refine subL_of (hnd0 _ _) ?_
      intro p hp
      rw [cellsT_zero, List.drop_zero] at hp
      simp only [List.mem_cons] at hp ⊢
      rcases hp with h | h | h | h <;> simp [h]
    · refine keepB_of ?_
      intro p hp
      simp only [List.mem_cons] at hp
      rcases hp with rfl | rfl | h
      · left; exact Nat.le_succ _
      · left; exact Nat.le_refl _
      · right; left; exact hF0 p (by simpa using h)
  rintro r s' ⟨i, hir, rfl⟩
  try refine S_ ?_
  refine g_ [1,2,3,8] ?_
  refine c_ (fun hc0 => ?_) fun hc0 => ?_
  ·
    have hil : i < kids.length := by omega
    have hdr := TX.obL_drop kids i hil
    have hTin : ∀ p ∈ (kids.getD i default).ob, p ∈ TX.obL (kids.drop i) := fun p hp => by rw [hdr]; exact List.mem_append_left _ hp
    have hLin : ∀ p ∈ TX.obL (kids.drop (i + 1)), p ∈ TX.obL (kids.drop i) := fun p hp => by rw [hdr]; exact List.mem_append_right _ hp
    have hget := cellsT_get kids i hil
    have hkt : ∀ j, j ∈ ksL (kids.getD i default).ob → ¬ (j = id ∨ j = B + 1 ∨ j = B) := by
      intro j hj hx
      obtain ⟨p, hp, rfl⟩ := List.mem_map.1 hj
      have h1 := hnd
      simp only [ksL, List.map_cons, List.nodup_cons] at h1
      have h2 := hFi i p (hTin p hp)
      have h3 := hkB p (List.mem_cons_of_mem _ h2)
      rcases hx with h | h | h
      · exact h1.1 (h ▸ List.mem_map_of_mem h2)
      · omega
      · omega
    have hdis : ∀ p ∈ TX.obL (kids.drop (i + 1)), p.1 ∉ ksL (kids.getD i default).ob := by
      intro p hp hx
      have h1 := hmv (.dfr 0) (.dfr 0) (.dfr 0) i
      rw [hdr] at h1
      simp only [ksL, List.map_cons, List.map_append, List.nodup_cons, List.nodup_append] at h1
      exact h1.2.2.2.2.2 p.1 hx p.1 (List.mem_map_of_mem hp) rfl
    refine n_ ?_
    refine drG_ mixed [1,2,3] 0 2 8 (ksL (kids.getD i default).ob) (ksL (kids.getD i default).ob) [] [B, id] [⟨[1],[],[],[],false⟩,⟨[11],[0],[],[],false⟩,⟨[3],[],[],[],false⟩,⟨[1],[],[],[],false⟩,⟨[14],[0],[],[],false⟩,⟨[3],[],[],[],false⟩,⟨[15,16],[],[],[],false⟩,⟨[17],[1],[],[],false⟩,⟨[18],[],[],[],true⟩,⟨[12,13],[],[],[],false⟩,⟨[19,20],[1],[1],[],false⟩] [0,1,2,3,4,5,6,7] [9,10] [[],[0],[],[],[3],[],[3,4,5],[3,4,5,6],[3,4,5,6,7],[0,1,2,3,4,5,6,7,8],[0,1,2,3,4,5,6,7,8,9]] 2 ?_ ?_ ?_ ?_ ?_ ?_
    · simp; omega
    · simp
    · exact List.nodup_nil
    · intro n hn; simp at hn
    · intro j hj hjt
      have hj : j ∈ ksL (kids.getD i default).ob := by rcases hj with h | h | h <;> first | exact h | simp at h
      obtain ⟨p, hp, rfl⟩ := List.mem_map.1 hj
      have h1 := hnd
      simp only [ksL, List.map_cons, List.nodup_cons] at h1
      have h2 := hFi i p (hTin p hp)
      have h3 := hkB p (List.mem_cons_of_mem _ h2)
      simp only [List.mem_cons, List.not_mem_nil, or_false] at hjt
      rcases hjt with h | h
      · omega
      · exact h1.1 (h ▸ List.mem_map_of_mem h2)
    intro O A K hO hA hK;simp only [atL_cons,atL_nil,Nat.reduceAdd,Nat.zero_add] at hO hA
    simp -implicitDefEqProofs (disch := omega) only [go_sem, hget, hO, hA]
    refine ⟨by rw [List.length_drop, cellsT_len]; omega, ?_⟩
    refine kG2_drop (first := []) (cap := []) (ps := [.agg (kids.getD i default).v]) (T := (kids.getD i default).ob) (rs := [.agg (kids.getD i default).ex.slim.cs]) ((id, .cells 77 (cellsT kids i)) :: (B + 1, .cells 77 [.int .i64 0, .int .i64 0, .int .i64 0, .int .i64 0, .emp]) :: (B, .cells 77 [.int .i64 k, .int .i64 n, .int .i64 a.kind, .int .i64 a.at', .sl 77 id 0 kids.length]) :: TX.obL (kids.drop (i + 1))) (ih i hil) Tryz.call82 rfl rfl ⟨rfl, rfl, rfl⟩ T_ rfl F_ (hmv _ _ _ i) (fun p hp => by simp [hTin p hp]) (fun p hp => .inr (hF0 p (List.mem_cons_of_mem _ (hFi i p (hTin p hp))))) ?_ ?_ ?_
    · intro p hp
      simp only [List.mem_cons] at hp ⊢
      rcases hp with rfl | rfl | rfl | h
      · exact ⟨.inl rfl, fun hx => hkt _ hx (.inl rfl)⟩
      · exact ⟨.inr (.inl rfl), fun hx => hkt _ hx (.inr (.inl rfl))⟩
      · exact ⟨.inr (.inr (.inl rfl)), fun hx => hkt _ hx (.inr (.inr rfl))⟩
      · exact ⟨.inr (.inr (.inr (hLin p h))), hdis p h⟩
    · intro p hp
      simp only [List.mem_cons] at hp
      rcases hp with rfl | rfl | rfl | h
      · left; simp [ksL]
      · left; simp [ksL]
      · left; simp [ksL]
      · rw [hdr] at h
        rcases List.mem_append.1 h with h | h
        · right; left; exact ksL_mem h
        · left; exact ksL_mem (by simp [h])
    unfold contG
    simp -implicitDefEqProofs (disch := omega) only [go_sem, hO, hA]
    refine hK _ (S_ ?_);clear hK K hO hA O A
    refine g_ [1,2,3] ?_
    have e1 : splice (cellsT kids i) (i * 5) [.int .i64 (kids.getD i default).ex.slim.kind, .int .i64 (kids.getD i default).ex.slim.n, .int .i64 (kids.getD i default).ex.slim.a.kind, .int .i64 (kids.getD i default).ex.slim.a.at', .rows 77 (Ex.csL (kids.getD i default).ex.slim.kids)] = cellsT kids (i + 1) := by
      rw [← cellsT_set kids i hil, Ex.cs_eq]
    rw [e1]
    refine .of' _ _ ⟨r - 1, by omega, i + 1, by omega, rfl⟩ ?_ ?_ ?_
    · exact L_
    · exact subL_of (hmv _ _ _ (i + 1)) (fun p hp => hp)
    · exact keepB_of (fun p hp => .inr (.inr (ksL_mem hp)))
  have hi : i = kids.length := by omega
  rw [hi, cellsT_all, List.drop_length, show TX.obL [] = [] from rfl]
  refine wpM_ren id (.cells 77 (exc (Ex.slimL (TX.exL kids)))) (by simp [lk]) ⟨.inr (hF0 (id, .cells 77 (TX.vL kids)) (by simp)), trivial⟩ (by show B ≤ B + 1 + 1; omega) rfl ?_
  refine S_ ?_
  have hLl : (Ex.slimL (TX.exL kids)).length = kids.length := by rw [Ex.slimL_len, TX.exL_map, List.length_map]
  refine wpM_frz [B + 1 + 1] [(77, B + 1 + 1, 0, kids.length, Ex.csL (Ex.slimL (TX.exL kids)))] (by intro q hq; simp at hq; subst hq; simp -implicitDefEqProofs (disch := omega) only [go_sem]) (by intro q hq; simp only [List.mem_cons, List.not_mem_nil, or_false] at hq; subst hq; rw [← hLl]; exact ⟨by simp, rowsOf_exc (T := 77) T_⟩) ?_
  refine S_ ?_
  have hsl : (TX.mk k n a id kids).ex.slim = slimN (Ex.mk k n a (Ex.slimL (TX.exL kids))) := by rw [TX.ex, Ex.slim]
  have hsz : (Ex.mk k n a (Ex.slimL (TX.exL kids))).sz ≤ 1099511627776 := by
    have h1 := Ex.slimL_sz (TX.exL kids)
    have h2 : (TX.mk k n a id kids).ex.sz = 1 + Ex.szL (TX.exL kids) := by rw [TX.ex, Ex.sz]
    rw [Ex.sz]; omega
  generalize hL : Ex.slimL (TX.exL kids) = L at *
  refine gD_ [1,2,21] ?_
  refine c_ (fun hc1 => ?_) fun hc1 => ?_
  ·
    refine n_ ?_
    refine wpM_regionK [2] rfl fun Q1 hQ1 => ?_
    refine S_ ?_
    refine cp_ (on_ok (L.getD 0 default).n) Tryz.call85 ?_
    refine cp_ (is_ok (!((L.getD 0 default).n != 0))) Tryz.call121 ?_
    refine cp_ (snum_ok (numIs (!((L.getD 0 default).n != 0)))) Tryz.call131 ?_
    refine hQ1 _ _ (S_ ?_);clear hQ1 Q1
    refine wpM_ret ?_
    try refine S_ ?_
    refine hQ _ _ (ret0 (dropU _) rfl rfl rfl (by rw [Tryz.results82] <;> simp (maxSteps := 1000000) -implicitDefEqProofs (disch := omega) only [go_sem] <;> rfl) ?_ ?_ ?_ (updOk_dropU fun p hp => ksL_mem hp) (oldOk_dropU fun q hq => ksL_mem hq))
    · rw [hsl, slimN_mk, if_pos hc1]; simp -implicitDefEqProofs (disch := omega) only [go_sem]
    all_goals simp -implicitDefEqProofs (disch := omega) only [go_sem, true_or, or_true]
  refine g_ [1,2,42] ?_
  refine c_ (fun hc2 => ?_) fun hc2 => ?_
  ·
    refine n_ ?_
    refine wpM_regionK [2] rfl fun Q1 hQ1 => ?_
    refine S_ ?_
    refine cp_ (two10_ok (Ex.mk k n a L) (by show L.length = 2; simp at hc2; omega) hsz) Tryz.call132 ?_
    refine hQ1 _ _ (S_ ?_);clear hQ1 Q1
    refine wpM_ret ?_
    try refine S_ ?_
    refine hQ _ _ (ret0 (dropU _) rfl rfl rfl (by rw [Tryz.results82] <;> simp (maxSteps := 1000000) -implicitDefEqProofs (disch := omega) only [go_sem] <;> rfl) ?_ ?_ ?_ (updOk_dropU fun p hp => ksL_mem hp) (oldOk_dropU fun q hq => ksL_mem hq))
    · rw [hsl, slimN_mk, if_neg (by rw [hc1]; simp), if_pos hc2]; simp -implicitDefEqProofs (disch := omega) only [go_sem]
    all_goals simp -implicitDefEqProofs (disch := omega) only [go_sem, true_or, or_true]
  refine g_ [2] ?_
  refine wpM_ret ?_
  try refine S_ ?_
  refine hQ _ _ (ret0 (dropU _) rfl rfl rfl (by rw [Tryz.results82] <;> simp (maxSteps := 1000000) -implicitDefEqProofs (disch := omega) only [go_sem] <;> rfl) ?_ ?_ ?_ (updOk_dropU fun p hp => ksL_mem hp) (oldOk_dropU fun q hq => ksL_mem hq))
  · rw [hsl, slimN_mk, if_neg (by rw [hc1]; simp), if_neg (by rw [hc2]; simp)]; simp -implicitDefEqProofs (disch := omega) only [go_sem]
  all_goals simp -implicitDefEqProofs (disch := omega) only [go_sem, true_or, or_true]
theorem ob_sub {l : List TX} {i : Nat} (h : i < l.length) : (ksL (l.getD i default).ob).Sublist (ksL (TX.obL l)) := by
  have e : TX.obL l = TX.obL (l.take i) ++ TX.obL (l.drop i) := by rw [← TX.obL_app, List.take_append_drop]
  rw [e, TX.obL_drop l i h, ksL_app, ksL_app]
  exact (List.sublist_append_left _ _).trans (List.sublist_append_right _ _)
theorem l10E_ok (d : Nat) : ∀ t : TX, formD d t.ex = true → t.ex.sz ≤ 1099511627776 → (ksL t.ob).Nodup → L10 t := by
  induction d with
  | zero => intro t h; cases h
  | succ d ih =>
    intro t hf hs hnd
    obtain ⟨k, n, a, id, kids⟩ := t
    by_cases hl : 0 < kids.length
    · refine l10E_node d k n a id kids hf hl hs hnd fun i hi => ?_
      have he : (TX.exL kids).getD i default = (kids.getD i default).ex := by rw [TX.exL_map]; simp [List.getD, hi]
      have hi2 : i < (TX.mk k n a id kids).ex.kids.length := by rw [TX.ex, Ex.mk_kids, TX.exL_map, List.length_map]; exact hi
      have h1 := (form_inv hf).2.2 i hi2
      have h2 := Ex.kid_sz hi2
      rw [TX.ex, Ex.mk_kids, he] at h1 h2
      rw [TX.ex] at hs
      refine ih _ h1 (by omega) ?_
      rw [TX.ob_cons hl] at hnd
      simp only [ksL, List.map_cons, List.nodup_cons] at hnd
      exact hnd.2.sublist (ob_sub hi)
    · have hk : kids = [] := List.eq_nil_of_length_eq_zero (by omega)
      subst hk
      have hkind : k = 1 ∨ k = 2 := by
        have := form_len hf
        simp only [TX.ex, TX.exL, Ex.mk_kids, Ex.mk_kind, List.length_nil] at this
        omega
      unfold L10
      have e1 : (TX.mk k n a id []).ex.slim = Ex.mk k n a [] := slim_leaf hkind
      rw [e1]
      exact l10E_leaf k n a hkind
end Go.Proofs.YtnmfmeehmieifaaGreat
namespace Go.Proofs.YtnmfmeehmieifaaGreat
open Go Sg
set_option maxRecDepth 100000
set_option linter.unusedSimpArgs false
set_option linter.unusedVariables false
set_option linter.unusedSectionVars false
set_option maxHeartbeats 4000000
variable [Glob]
mutual
def TX.ren (ρ : Nat → Nat) : TX → TX
  | .mk k n a id l => .mk k n a (ρ id) (TX.renL ρ l)
def TX.renL (ρ : Nat → Nat) : List TX → List TX
  | [] => []
  | t :: l => t.ren ρ :: TX.renL ρ l
end
theorem TX.renL_map (ρ : Nat → Nat) (l : List TX) : TX.renL ρ l = l.map (TX.ren ρ) := by
  induction l with
  | nil => rfl
  | cons e l ih => simp [TX.renL, ih]
theorem TX.renL_len (ρ : Nat → Nat) (l : List TX) : (TX.renL ρ l).length = l.length := by rw [TX.renL_map, List.length_map]
mutual
theorem TX.ren_ex (ρ : Nat → Nat) : (t : TX) → (t.ren ρ).ex = t.ex
  | .mk k n a id l => by rw [TX.ren, TX.ex, TX.ex, TX.renL_ex ρ l]
theorem TX.renL_ex (ρ : Nat → Nat) : (l : List TX) → TX.exL (TX.renL ρ l) = TX.exL l
  | [] => rfl
  | t :: l => by rw [TX.renL, TX.exL, TX.exL, TX.ren_ex ρ t, TX.renL_ex ρ l]
end
theorem kidV_ren (ρ : Nat → Nat) (id n : Nat) : (kidV id n).ren ρ = kidV (ρ id) n := by
  unfold kidV; split <;> rfl
theorem TX.ren_v (ρ : Nat → Nat) (t : TX) : PV.renL ρ t.v = (t.ren ρ).v := by
  obtain ⟨k, n, a, id, l⟩ := t
  simp only [TX.v, TX.ren, TX.kind, TX.n, TX.a, TX.id, TX.kids, PV.renL, PV.ren, kidV_ren, TX.renL_len]
theorem TX.ren_vL (ρ : Nat → Nat) (l : List TX) : PV.renL ρ (TX.vL l) = TX.vL (TX.renL ρ l) := by
  induction l with
  | nil => rfl
  | cons t l ih =>
    simp only [TX.vL, List.map_cons, List.flatten_cons, TX.renL] at ih ⊢
    rw [renL_app, ih, TX.ren_v]
def renO (ρ : Nat → Nat) (q : Nat × AObj) : Nat × AObj := (ρ q.1, q.2.ren ρ)
mutual
theorem TX.ren_ob (ρ : Nat → Nat) : (t : TX) → (t.ren ρ).ob = t.ob.map (renO ρ)
  | .mk k n a id l => by
    rw [TX.ren, TX.ob, TX.ob, TX.renL_ob ρ l, TX.renL_len]
    split
    · rfl
    · simp only [List.map_append, List.map_cons, List.map_nil, renO, AObj.ren, TX.ren_vL]
theorem TX.renL_ob (ρ : Nat → Nat) : (l : List TX) → TX.obL (TX.renL ρ l) = (TX.obL l).map (renO ρ)
  | [] => rfl
  | t :: l => by rw [TX.renL, TX.obL, TX.obL, TX.ren_ob ρ t, TX.renL_ob ρ l, List.map_append]
end
mutual
def Ex.nn : Ex → Nat | .mk _ _ _ l => (if l.length = 0 then 0 else 1) + Ex.nnL l
def Ex.nnL : List Ex → Nat | [] => 0 | e :: l => e.nn + Ex.nnL l
end
mutual
theorem TX.ks_len : (t : TX) → (ksL t.ob).length = t.ex.nn
  | .mk k n a id l => by
    rw [TX.ob, TX.ex, Ex.nn, ksL_app, List.length_append, TX.ksL_len l, TX.exL_map, List.length_map]
    split <;> simp [ksL]
theorem TX.ksL_len : (l : List TX) → (ksL (TX.obL l)).length = Ex.nnL (TX.exL l)
  | [] => rfl
  | t :: l => by rw [TX.obL, TX.exL, Ex.nnL, ksL_app, List.length_append, TX.ks_len t, TX.ksL_len l]
end
theorem kidV_ids (p : Nat → Prop) (id n : Nat) (h : n ≠ 0 → p id) : (kidV id n).ids p := by
  unfold kidV
  split
  · simp [PV.ids]
  · rename_i hn; simpa [PV.ids] using h hn
mutual
theorem TX.v_ids (p : Nat → Prop) : (t : TX) → (∀ j ∈ ksL t.ob, p j) → PV.idsL p t.v
  | .mk k n a id l, h => by
    have : (kidV id l.length).ids p := kidV_ids p id l.length fun hn => h id (by rw [TX.ob_cons (by omega)]; simp [ksL])
    simp only [TX.v, TX.kind, TX.n, TX.a, TX.id, TX.kids, PV.idsL, PV.ids]
    simp [this]
theorem TX.vL_ids (p : Nat → Prop) : (l : List TX) → (∀ j ∈ ksL (TX.obL l), p j) → PV.idsL p (TX.vL l)
  | [], _ => by simp [TX.vL, PV.idsL]
  | t :: l, h => by
    rw [TX.obL, ksL_app] at h
    have h1 := TX.v_ids p t fun j hj => h j (List.mem_append_left _ hj)
    have h2 := TX.vL_ids p l fun j hj => h j (List.mem_append_right _ hj)
    simp only [TX.vL, List.map_cons, List.flatten_cons] at h2 ⊢
    rw [idsL_app]; exact ⟨h1, h2⟩
end
mutual
theorem TX.ob_ids (p : Nat → Prop) : (t : TX) → (∀ j ∈ ksL t.ob, p j) → ∀ q ∈ t.ob, q.2.ids p
  | .mk k n a id l, h, q, hq => by
    rw [TX.ob] at hq h
    rw [ksL_app] at h
    have hL : ∀ j ∈ ksL (TX.obL l), p j := fun j hj => h j (List.mem_append_right _ hj)
    rcases List.mem_append.1 hq with hq | hq
    · split at hq
      · simp at hq
      · simp only [List.mem_cons, List.not_mem_nil, or_false] at hq
        subst hq
        exact TX.vL_ids p l hL
    · exact TX.obL_ids p l hL q hq
theorem TX.obL_ids (p : Nat → Prop) : (l : List TX) → (∀ j ∈ ksL (TX.obL l), p j) → ∀ q ∈ TX.obL l, q.2.ids p
  | [], _, q, hq => by simp [TX.obL] at hq
  | t :: l, h, q, hq => by
    rw [TX.obL] at hq h
    rw [ksL_app] at h
    rcases List.mem_append.1 hq with hq | hq
    · exact TX.ob_ids p t (fun j hj => h j (List.mem_append_left _ hj)) q hq
    · exact TX.obL_ids p l (fun j hj => h j (List.mem_append_right _ hj)) q hq
end
theorem newOk_map {ρ : Nat → Nat} {p : Nat → Prop} {s : MS} : {T : List (Nat × AObj)} → (∀ q ∈ T, s.B ≤ q.1 ∧ s.f q.1 = some q.2 ∧ q.2.ids p) → newOk ρ p s (ksL T) ((ksL T).map ρ) (T.map (renO ρ))
  | [], _ => trivial
  | (i, o) :: r, h => by
    obtain ⟨h1, h2, h3⟩ := h (i, o) (by simp)
    refine ⟨rfl, h1, ?_, newOk_map fun q hq => h q (by simp [hq])⟩
    unfold goodObj
    rw [h2]
    exact ⟨rfl, h3⟩
theorem renId_list : {js ns : List Nat} → js.length = ns.length → js.Nodup → js.map (renId js ns) = ns
  | [], [], _, _ => rfl
  | [], _ :: _, h, _ => by simp at h
  | _ :: _, [], h, _ => by simp at h
  | j :: js, n :: ns, h, hnd => by
    rw [List.nodup_cons] at hnd
    have ih := renId_list (js := js) (ns := ns) (by simpa using h) hnd.2
    rw [List.map_cons]
    have e0 : renId (j :: js) (n :: ns) j = n := by simp [renId]
    have e1 : js.map (renId (j :: js) (n :: ns)) = js.map (renId js ns) := by
      refine List.map_congr_left fun x hx => ?_
      simp only [renId]
      rw [if_neg]
      rintro rfl; exact hnd.1 hx
    rw [e0, e1, ih]
def L3R (e : Ex) (ns : List Nat) (o : COut) : Prop := ∃ t : TX, t.ex = e ∧ ksL t.ob = ns ∧ o = { rs := [.agg t.v], nw := t.ob }
def L3C (e : Ex) : Prop := CallF Tryz.prog 81 [.agg e.cs] [] e.nn (L3R e)
end Go.Proofs.YtnmfmeehmieifaaGreat
namespace Go.Proofs.YtnmfmeehmieifaaGreat
open Go Sg
set_option maxRecDepth 100000
set_option linter.unusedSimpArgs false
set_option linter.unusedVariables false
set_option linter.unusedSectionVars false
set_option maxHeartbeats 4000000
variable [Glob]
theorem TX.exL_len (l : List TX) : (TX.exL l).length = l.length := by rw [TX.exL_map, List.length_map]
theorem TX.exL_app (l r : List TX) : TX.exL (l ++ r) = TX.exL l ++ TX.exL r := by simp [TX.exL_map]
theorem TX.vL_app (l r : List TX) : TX.vL (l ++ r) = TX.vL l ++ TX.vL r := by simp [TX.vL]
theorem TX.vL_one (t : TX) : TX.vL [t] = t.v := by simp [TX.vL]
theorem TX.obL_one (t : TX) : TX.obL [t] = t.ob := by simp [TX.obL]
theorem f_in {s : MS} {q : Nat × AObj} (hnd : (ksL s.l).Nodup) (hq : q ∈ s.l) : s.f q.1 = some q.2 := by
  simp only [MS.f, lk_nd hnd hq]
theorem dell_no : {l : List (Nat × AObj)} → {i : Nat} → i ∉ ksL l → dell i l = l
  | [], _, _ => rfl
  | (k, v) :: r, i, h => by
    simp only [ksL, List.map_cons, List.mem_cons, not_or] at h
    simp only [dell]
    rw [if_neg (fun e => h.1 e.symm), dell_no h.2]
theorem l3T_step (e : Ex) (hs : e.sz ≤ 1099511627776) (ih : ∀ i, i < e.kids.length → L3C (e.kids.getD i default)) : L3C e := by
  have hlen := e.kids_len
  unfold L3C
  refine callF_of' Tryz.func81 rfl Tryz.ntmps81 (by simp) ?_
  intro f0 B ns Q hB hns hQ
  refine g_ [1,2] ?_
  refine g_ [1,2,3] ?_
  refine g_ [1,2,3,4] ?_
  refine n_ ?_
  refine wpM_loopS (fun s r s' => (r = e.kids.length ∧ s' = s) ∨ ∃ (i0 M0 y : Nat) (D : List TX), 0 < i0 ∧ i0 + r = e.kids.length ∧ TX.exL D = e.kids.take i0 ∧ B + 3 ≤ y ∧ y < M0 ∧ (∀ j ∈ ksL (TX.obL D), B + 3 ≤ j ∧ j < M0 ∧ j ≠ y) ∧ (ksL (TX.obL D)).Nodup ∧ s' = { s with env := setE 4 (.int .i64 (i0 : Nat)) s.env, l := (y, .cells 77 (TX.vL D)) :: (setl (B + 2) (.cells 77 [.int .i64 e.kind, .int .i64 e.n, .int .i64 e.a.kind, .int .i64 e.a.at', .sl 77 y 0 i0]) s.l ++ TX.obL D), M := M0 }) (e.kids.length) ?_ ?_
  ·
    refine .of' _ _ (.inl ⟨rfl, rfl⟩) ?_ ?_ ?_ <;> exact L_
  rintro r s' (⟨rfl, rfl⟩ | ⟨i0, M0, y, D, hi0, hir, hD, hy, hyM, hDk, hDn, rfl⟩)
  ·
    try refine S_ ?_
    refine g_ [1,2,3,4,16] ?_
    refine c_ (fun hc0 => ?_) fun hc0 => ?_
    ·
      have hks := Ex.kid_sz (e := e) (k := 0) (by omega)
      obtain ⟨nk, hnk⟩ : ∃ nk, nk = (e.kids.getD 0 default).nn := ⟨_, rfl⟩
      refine n_ ?_
      refine drG_ mixed [1,2,3,4] (nk + 2) 2 7 [] [] (List.range' (B + 3) nk) [B + 2, B, B + 3 + nk, B + 3 + nk + 1] [⟨[3],[],[],[],false⟩,⟨[19],[0],[],[],false⟩,⟨[1],[],[],[],false⟩,⟨[21],[1],[],[],false⟩,⟨[4],[],[],[],false⟩,⟨[22,23],[],[],[],false⟩,⟨[24],[],[],[],false⟩,⟨[25],[],[],[],true⟩,⟨[26],[],[],[2],false⟩,⟨[20,27],[2],[],[3],false⟩,⟨[3],[],[],[],false⟩,⟨[28,29],[0],[0],[],false⟩] [0,1,2,3,4,5,6] [8,9,10,11] [[],[0],[],[2],[],[2,3,4],[2,3,4,5],[2,3,4,5,6],[2,3,4,5,6,7],[0,1,2,3,4,5,6,7,8],[0,1,2,3,4,5,6,7,8,9],[0,1,2,3,4,5,6,7,8,9,10]] 4 ?_ ?_ ?_ ?_ ?_ ?_
      · simp; omega
      · intro n hn
        simp at hn
        show B + 3 ≤ n ∧ n < B + 3 + (nk + 2)
        omega
      · exact List.nodup_range'
      · intro n hn
        have := List.mem_range'_1.1 hn
        show B + 3 ≤ n ∧ n < B + 3 + (nk + 2)
        omega
      · intro j hj hjt
        have hj : j ∈ List.range' (B + 3) nk := by simpa using hj
        have := List.mem_range'_1.1 hj
        simp at hjt
        omega
      intro O A K hO hA hK;simp only [atL_cons,atL_nil,Nat.reduceAdd,Nat.zero_add] at hO hA
      simp -implicitDefEqProofs (disch := omega) only [go_sem, exc_len, hO, hA]
      refine kG2_new (first := []) (cap := []) (ps := [.agg (e.kids.getD 0 default).cs]) (Ω := L3R (e.kids.getD 0 default)) (by rw [List.length_range', hnk]; exact ih 0 (by omega)) Tryz.call81 rfl rfl ⟨rfl, rfl, rfl⟩ T_ rfl F_ (by simp [ksL]; omega) ?_ ?_
      · intro g hg
        have := List.mem_range'_1.1 hg
        refine ⟨by simp [ksL]; omega, by show B ≤ g; omega⟩
      rintro out ⟨t, ht, hkt, rfl⟩
      refine ⟨_, _, rfl, fun p hp => hkt ▸ ksL_mem hp, ?_⟩
      unfold contG
      simp -implicitDefEqProofs (disch := omega) only [go_sem, hO, hA]
      refine hK _ (S_ ?_);clear hK K hO hA O A
      refine g_ [1,2,3,4] ?_
      have hkt2 : ksL t.ob = List.range' (B + 3) nk := hkt
      refine .of' _ _ ⟨e.kids.length - 1, by omega, .inr ⟨1, _, B + 3 + nk + 1, [t], by omega, by omega, ?_, by omega, ?_, ?_, ?_, rfl⟩⟩ ?_ ?_ ?_
      · rw [TX.exL, TX.exL, ht, List.take_succ_eq_append_getElem (by omega), List.take_zero, List.nil_append]
        simp [List.getD, show 0 < e.kids.length by omega]
      · show B + 3 + nk + 1 < B + 3 + (nk + 2); omega
      · intro j hj
        rw [TX.obL_one, hkt2] at hj
        have := List.mem_range'_1.1 hj
        exact ⟨by omega, by show j < B + 3 + (nk + 2); omega, by omega⟩
      · rw [TX.obL_one, hkt2]; exact List.nodup_range'
      · exact L_
      · refine subL_of ?_ ?_
        · simp only [ksL, List.map_cons, List.nodup_cons, List.mem_cons, not_or]
          rw [show List.map Prod.fst t.ob = List.range' (B + 3) nk from hkt2]
          simp only [List.mem_range'_1]
          repeat' apply And.intro
          all_goals first | omega | exact List.nodup_range'
        · intro p hp
          rw [TX.obL_one, TX.vL_one] at hp
          simp only [List.mem_cons, List.cons_append, List.nil_append] at hp ⊢
          rcases hp with h | h | h | h | h <;> simp [h, TX.v_eq]
      · exact keepB_of (fun p hp => by
          simp only [List.mem_cons] at hp
          rcases hp with rfl | rfl | rfl | rfl | rfl | h
          · left; show B ≤ B + 3 + nk + 1; omega
          · left; show B ≤ B + 3 + nk; omega
          · left; show B ≤ B + 1 + 1; omega
          · left; show B ≤ B + 1; omega
          · left; exact Nat.le_refl _
          · left
            have hh : p.1 ∈ ksL t.ob := ksL_mem h
            rw [hkt2] at hh
            have := List.mem_range'_1.1 hh
            show B ≤ p.1
            omega)
    refine n_ ?_
    have hk0 : e.kids = [] := List.eq_nil_of_length_eq_zero (by omega)
    have hnn : e.nn = 0 := by
      obtain ⟨k, n, a, l⟩ := e
      have hk0 : l = [] := hk0
      subst hk0; rfl
    have hns0 : ns = [] := List.eq_nil_of_length_eq_zero (by omega)
    subst hns0
    refine g_ [2] ?_
    refine wpM_ret ?_
    try refine S_ ?_
    refine hQ _ _ (retK [] [] [] rfl rfl rfl (by rw [Tryz.results81] <;> simp (maxSteps := 1000000) -implicitDefEqProofs (disch := omega) only [go_sem] <;> rfl) ?_ ⟨TX.mk e.kind e.n e.a 0 [], Ex.ext' rfl rfl rfl hk0.symm, rfl, rfl⟩ ?_ ?_ ?_ ?_ ?_ ?_)
    all_goals first | rfl | (simp -implicitDefEqProofs (disch := omega) only [go_sem, List.nodup_nil, true_or, or_true]; done) | trivial
  try refine S_ ?_
  refine g_ [1,2,3,4,16] ?_
  refine c_ (fun hc0 => ?_) fun hc0 => ?_
  ·
    have hks := Ex.kid_sz (e := e) (k := i0) (by omega)
    have hDl : D.length = i0 := by
      have := congrArg List.length hD
      rw [TX.exL_len, List.length_take] at this
      omega
    have hvl := TX.vL_len D
    obtain ⟨nk, hnk⟩ : ∃ nk, nk = (e.kids.getD i0 default).nn := ⟨_, rfl⟩
    refine n_ ?_
    refine drG_ mixed [1,2,3,4] (nk + 2) 3 7 [] [] (List.range' M0 nk) [B + 2, B, y, M0 + nk, M0 + nk + 1] [⟨[3],[],[],[],false⟩,⟨[19],[0],[],[],false⟩,⟨[1],[],[],[],false⟩,⟨[21],[1],[],[],false⟩,⟨[4],[],[],[],false⟩,⟨[22,23],[],[],[],false⟩,⟨[24],[],[],[],false⟩,⟨[25],[],[],[],true⟩,⟨[26],[],[],[3],false⟩,⟨[20,27],[2,3],[2],[4],false⟩,⟨[3],[],[],[],false⟩,⟨[28,29],[0],[0],[],false⟩] [0,1,2,3,4,5,6] [8,9,10,11] [[],[0],[],[2],[],[2,3,4],[2,3,4,5],[2,3,4,5,6],[2,3,4,5,6,7],[0,1,2,3,4,5,6,7,8],[0,1,2,3,4,5,6,7,8,9],[0,1,2,3,4,5,6,7,8,9,10]] 5 ?_ ?_ ?_ ?_ ?_ ?_
    · simp; omega
    · intro n hn
      simp at hn
      show M0 ≤ n ∧ n < M0 + (nk + 2)
      omega
    · exact List.nodup_range'
    · intro n hn
      have := List.mem_range'_1.1 hn
      show M0 ≤ n ∧ n < M0 + (nk + 2)
      omega
    · intro j hj hjt
      have hj : j ∈ List.range' M0 nk := by simpa using hj
      have := List.mem_range'_1.1 hj
      simp at hjt
      omega
    intro O A K hO hA hK;simp only [atL_cons,atL_nil,Nat.reduceAdd,Nat.zero_add] at hO hA
    simp -implicitDefEqProofs (disch := omega) only [go_sem, hvl, hDl, hO, hA]
    refine kG2_new (first := []) (cap := []) (ps := [.agg (e.kids.getD i0 default).cs]) (Ω := L3R (e.kids.getD i0 default)) (by rw [List.length_range', hnk]; exact ih i0 (by omega)) Tryz.call81 rfl rfl ⟨rfl, rfl, rfl⟩ T_ rfl F_ ?_ ?_ ?_
    · simp only [ksL, List.map_cons, List.nodup_cons, List.mem_cons, not_or]
      have h1 : ∀ j, j ∈ List.map Prod.fst (TX.obL D) → B + 3 ≤ j ∧ j < M0 ∧ j ≠ y := hDk
      repeat' apply And.intro
      all_goals first | omega | exact hDn | (intro hj; have := h1 _ hj; omega)
    · intro g hg
      have := List.mem_range'_1.1 hg
      refine ⟨fun hx => ?_, by show B ≤ g; omega⟩
      simp only [ksL, List.map_cons, List.mem_cons] at hx
      rcases hx with h | h | h | h | h
      · omega
      · omega
      · omega
      · omega
      · have := hDk _ h; omega
    rintro out ⟨t, ht, hkt, rfl⟩
    refine ⟨_, _, rfl, fun p hp => hkt ▸ ksL_mem hp, ?_⟩
    unfold contG
    simp -implicitDefEqProofs (disch := omega) only [go_sem, hO, hA, hvl, hDl]
    refine hK _ (S_ ?_);clear hK K hO hA O A
    refine g_ [1,2,3,4] ?_
    have hkt2 : ksL t.ob = List.range' M0 nk := hkt
    have e1 : TX.vL D ++ [.int .i64 t.kind, .int .i64 t.n, .int .i64 t.a.kind, .int .i64 t.a.at', kidV t.id t.kids.length] = TX.vL (D ++ [t]) := by rw [TX.vL_app, TX.vL_one]; rfl
    have e2 : TX.obL (D ++ [t]) = TX.obL D ++ t.ob := by rw [TX.obL_app, TX.obL_one]
    have h1 : ∀ j, j ∈ List.map Prod.fst (TX.obL D) → B + 3 ≤ j ∧ j < M0 ∧ j ≠ y := hDk
    have h2 : ∀ j, j ∈ List.map Prod.fst t.ob → M0 ≤ j ∧ j < M0 + nk := fun j hj => by
      have hj : j ∈ ksL t.ob := hj
      rw [hkt2] at hj
      exact List.mem_range'_1.1 hj
    have h3 : (List.map Prod.fst t.ob).Nodup := by show (ksL t.ob).Nodup; rw [hkt2]; exact List.nodup_range'
    have h4 : (List.map Prod.fst (TX.obL D) ++ List.map Prod.fst t.ob).Nodup := List.nodup_append.2 ⟨hDn, h3, fun a ha b hb e => by have := h1 a ha; have := h2 b hb; omega⟩
    have hdel : dell y (TX.obL D ++ t.ob) = TX.obL D ++ t.ob := dell_no (by
      rw [ksL_app]
      intro hx
      rcases List.mem_append.1 hx with hx | hx
      · exact (h1 y hx).2.2 rfl
      · have := h2 y hx; omega)
    rw [e1, hdel]
    refine .of' _ _ ⟨r - 1, by omega, .inr ⟨i0 + 1, _, M0 + nk + 1, D ++ [t], by omega, by omega, ?_, by omega, ?_, ?_, ?_, rfl⟩⟩ ?_ ?_ ?_
    · rw [TX.exL_app, hD, TX.exL, TX.exL, ht, List.take_succ_eq_append_getElem (by omega)]
      simp [List.getD, show i0 < e.kids.length by omega]
    · show M0 + nk + 1 < M0 + (nk + 2); omega
    · intro j hj
      rw [e2, ksL_app] at hj
      rcases List.mem_append.1 hj with hj | hj
      · have := h1 j hj
        exact ⟨by omega, by show j < M0 + (nk + 2); omega, by omega⟩
      · have := h2 j hj
        exact ⟨by omega, by show j < M0 + (nk + 2); omega, by omega⟩
    · rw [e2, ksL_app]; exact h4
    · exact L_
    · refine subL_of ?_ ?_
      · simp only [ksL, List.map_cons, List.map_append, List.nodup_cons, List.mem_cons, List.mem_append, not_or]
        repeat' apply And.intro
        all_goals first | omega | exact h4 | (intro hj; have := h1 _ hj; omega) | (intro hj; have := h2 _ hj; omega)
      · intro p hp
        rw [e2] at hp
        simp only [List.mem_cons, List.cons_append, List.nil_append, List.mem_append] at hp ⊢
        rcases hp with h | h | h | h | h | h <;> simp [h]
    · refine keepB_of (fun p hp => ?_)
      left
      show B ≤ p.1
      simp only [List.mem_cons, List.mem_append] at hp
      have hk : ∀ q : Nat × AObj, q ∈ TX.obL D → B ≤ q.1 := fun q hq => by have := h1 q.1 (List.mem_map_of_mem hq); omega
      have hk2 : ∀ q : Nat × AObj, q ∈ t.ob → B ≤ q.1 := fun q hq => by have := h2 q.1 (List.mem_map_of_mem hq); omega
      repeat' (rcases hp with rfl | hp)
      all_goals first | (dsimp only; omega) | exact hk _ hp | exact hk2 _ hp | (rcases hp with hp | hp <;> first | exact hk _ hp | exact hk2 _ hp)
  refine n_ ?_
  have hDl : D.length = i0 := by
    have := congrArg List.length hD
    rw [TX.exL_len, List.length_take] at this
    omega
  have hie : i0 = e.kids.length := by omega
  obtain ⟨t, ht⟩ : ∃ t, t = TX.mk e.kind e.n e.a y D := ⟨_, rfl⟩
  have htob : t.ob = (y, .cells 77 (TX.vL D)) :: TX.obL D := by rw [ht, TX.ob_cons (by omega)]
  have htv : t.v = [.int .i64 e.kind, .int .i64 e.n, .int .i64 e.a.kind, .int .i64 e.a.at', .sl 77 y 0 i0] := by
    rw [ht, TX.v_eq]; simp only [TX.kind, TX.n, TX.a, TX.id, TX.kids, hDl, kidV_pos hi0]
  have hte : t.ex = e := by
    rw [ht, TX.ex, hD, hie, List.take_length]
    exact Ex.ext' rfl rfl rfl rfl
  have htn : (ksL t.ob).Nodup := by
    rw [htob]
    simp only [ksL, List.map_cons, List.nodup_cons]
    exact ⟨fun hx => (hDk y hx).2.2 rfl, hDn⟩
  have htl : (ksL t.ob).length = ns.length := by rw [TX.ks_len, hte, hns]
  have hkB : ∀ q ∈ t.ob, B ≤ q.1 := by
    intro q hq
    rw [htob] at hq
    rcases List.mem_cons.1 hq with rfl | hq
    · show B ≤ y; omega
    · have := hDk q.1 (List.mem_map_of_mem hq); omega
  refine g_ [2] ?_
  refine wpM_ret ?_
  try refine S_ ?_
  refine hQ _ _ (retK (ksL t.ob) [] ((t.ren (renId (ksL t.ob) ns)).ob) rfl rfl rfl (by rw [Tryz.results81] <;> simp (maxSteps := 1000000) -implicitDefEqProofs (disch := omega) only [go_sem] <;> rfl) ?_ ⟨t.ren (renId (ksL t.ob) ns), by rw [TX.ren_ex, hte], ?_, rfl⟩ htn ?_ ?_ trivial trivial ?_)
  · rw [← TX.ren_v, htv]; rfl
  · rw [TX.ren_ob]
    have : ksL (t.ob.map (renO (renId (ksL t.ob) ns))) = (ksL t.ob).map (renId (ksL t.ob) ns) := by simp [ksL, renO]
    rw [this]; exact renId_list htl htn
  · simp -implicitDefEqProofs (disch := omega) only [go_sem]
    exact keysIn_of fun p hp => .inl (by have := hDk p.1 (List.mem_map_of_mem hp); omega)
  · simp -implicitDefEqProofs (disch := omega) only [go_sem]
    rw [htob]; simp [ksL]
  · have h := fun s hh => newOk_map (s := s) (ρ := renId (ksL t.ob) ns) (p := fun i => hasKey i [] = true ∨ i ∈ ksL t.ob) (T := t.ob) hh
    rw [renId_list htl htn, ← TX.ren_ob] at h
    refine h _ ?_
    intro q hq
    refine ⟨hkB q hq, ?_, TX.ob_ids _ t (fun j hj => .inr hj) q hq⟩
    rw [htob] at hq
    have h1 : ∀ j, j ∈ List.map Prod.fst (TX.obL D) → B + 3 ≤ j ∧ j < M0 ∧ j ≠ y := hDk
    refine f_in ?_ ?_
    · simp only [ksL, List.map_cons, List.nodup_cons, List.mem_cons, not_or]
      repeat' apply And.intro
      all_goals first | omega | exact hDn | (intro hj; have := h1 _ hj; omega)
    · simp only [List.mem_cons] at hq ⊢
      rcases hq with h | h <;> simp [h]
theorem l3T_ok : ∀ (N : Nat) (e : Ex), e.sz ≤ N → e.sz ≤ 1099511627776 → L3C e := by
  intro N
  induction N with
  | zero => intro e h; have := e.sz_pos; omega
  | succ N ih =>
    intro e h hs
    refine l3T_step e hs fun i hi => ?_
    have := Ex.kid_sz (e := e) hi
    exact ih _ (by omega) (by omega)
end Go.Proofs.YtnmfmeehmieifaaGreat
namespace Go.Proofs.YtnmfmeehmieifaaGreat
open Go Sg
set_option maxRecDepth 100000
set_option linter.unusedSimpArgs false
set_option linter.unusedVariables false
set_option linter.unusedSectionVars false
set_option maxHeartbeats 4000000
variable [Glob]
theorem scopyS_ok : ∀ (N : Nat) (l : List Sm), Sm.szL l = N → Sm.szL l ≤ 1099511627776 → PureF Tryz.prog 39 [.rows 79 (Sm.csL l)] [.rows 79 (Sm.csL l)] := by
  intro N
  induction N using Nat.strongRecOn with
  | _ N ih =>
    intro l hN hs
    have hlen := Sm.len_szL l
    refine pureF_of Tryz.func39 rfl Tryz.ntmps39 (by simp) T_ ?_
    intro f0 B Q hQ
    refine g_ [0] ?_
    refine g_ [0,3] ?_
    refine g_ [0,3,4] ?_
    refine n_ ?_
    refine wpM_loopS (fun q r s' => ∃ (i M Y : Nat), i + r = l.length ∧ B ≤ Y ∧ Y < M ∧ s' = { q with env := setE 4 (.int .i64 (i : Nat)) (setE 3 (.sl 79 Y 0 i) q.env), l := [(Y, .cells 79 (smc (l.take i)))], M := M }) (l.length) ?_ ?_
    ·
      refine .of' _ _ ⟨0, _, B, by omega, Nat.le_refl _, ?_, rfl⟩ ?_ ?_ ?_
      · exact Nat.lt_succ_self _
      all_goals exact L_
    rintro r s' ⟨i, M, Y, hir, hBY, hYM, rfl⟩
    try refine S_ ?_
    refine g_ [0,3,4,10] ?_
    refine c_ (fun hc0 => ?_) fun hc0 => ?_
    ·
      have hil : i < l.length := by omega
      have hin := Sm.get_in hil
      have htl : (l.take i).length = i := by simp; omega
      refine g_ [0,3,4,5] ?_
      refine n_ ?_
      refine wpM_regionK [0,3,4,5] rfl fun Q1 hQ1 => ?_
      refine S_ ?_
      refine cp_ (l3Copy_ok (l.getD i default).e.sz (l.getD i default).e (Nat.le_refl _) (by omega)) Tryz.call81 ?_
      refine hQ1 _ _ (S_ ?_);clear hQ1 Q1
      refine n_ ?_
      refine wpM_regionK [0,3,4,5] rfl fun Q1 hQ1 => ?_
      refine S_ ?_
      refine cp_ (ih _ (by omega) (l.getD i default).th rfl (by omega)) Tryz.call39 ?_
      refine hQ1 _ _ (S_ ?_);clear hQ1 Q1
      refine n_ ?_
      refine wpM_regionK [0,3,4,5] rfl fun Q1 hQ1 => ?_
      refine S_ ?_
      refine cp_ (ih _ (by omega) (l.getD i default).el rfl (by omega)) Tryz.call39 ?_
      refine hQ1 _ _ (S_ ?_);clear hQ1 Q1
      refine wpM_regionK [0,3,4] rfl fun Q1 hQ1 => ?_
      simp -implicitDefEqProofs (disch := omega) only [go_sem, htl]
      refine hQ1 _ _ (S_ ?_);clear hQ1 Q1
      refine g_ [0,3,4] ?_
      have e1 : smc (l.take i) ++ [.int .i64 (l.getD i default).kind, .int .i64 (l.getD i default).to'.kind, .int .i64 (l.getD i default).to'.at', .int .i64 (l.getD i default).e.kind, .int .i64 (l.getD i default).e.n, .int .i64 (l.getD i default).e.a.kind, .int .i64 (l.getD i default).e.a.at', .rows 77 (Ex.csL (l.getD i default).e.kids), .rows 79 (Sm.csL (l.getD i default).th), .rows 79 (Sm.csL (l.getD i default).el)] = smc (l.take (i + 1)) := by
        rw [← smc_take _ _ hil, Sm.cs_eq]
      rw [e1]
      refine .of' _ _ ⟨r - 1, by omega, i + 1, _, M + 2, by omega, by omega, ?_, rfl⟩ ?_ ?_ ?_
      · first | omega | (simp -implicitDefEqProofs (disch := omega) only [go_sem]; done) | (simp -implicitDefEqProofs (disch := omega) only [go_sem]; omega)
      all_goals exact L_
    refine n_ ?_
    have hie : i = l.length := by omega
    have htl : l.take i = l := by rw [hie, List.take_of_length_le (Nat.le_refl _)]
    rw [htl]
    refine wpM_frz [Y] [(79, Y, 0, i, Sm.csL l)] (by intro q hq; simp at hq; subst hq; simp -implicitDefEqProofs (disch := omega) only [go_sem]) (by intro q hq; simp only [List.mem_cons, List.not_mem_nil, or_false] at hq; subst hq; rw [hie]; exact ⟨by simp, rowsOf_smc (T := 79) T_ rfl⟩) ?_
    simp -implicitDefEqProofs (disch := omega) only [go_sem]
    refine g_ [2] ?_
    refine e_ Tryz.results39 ?_
    first
    | exact True.intro
    | rfl
theorem l10S_ok : ∀ (N : Nat) (l : List Sm), Sm.szL l = N → Sm.szL l ≤ 1000000000 → (∃ d, formS d l = true) → PureF Tryz.prog 40 [.rows 79 (Sm.csL l)] [.rows 79 (Sm.csL (Sm.slL l))] := by
  intro N
  induction N using Nat.strongRecOn with
  | _ N ih =>
    intro l hN hs hf
    obtain ⟨d, hf⟩ := hf
    have hlen := Sm.len_szL l
    refine pureF_of Tryz.func40 rfl Tryz.ntmps40 (by simp) T_ ?_
    intro f0 B Q hQ
    refine g_ [0] ?_
    refine g_ [0,3] ?_
    refine g_ [0,3,4] ?_
    refine n_ ?_
    refine wpM_loopS (fun q r s' => ∃ (i M Y : Nat), i + r = l.length ∧ B ≤ Y ∧ Y < M ∧ s' = { q with env := setE 4 (.int .i64 (i : Nat)) (setE 3 (.sl 79 Y 0 (Sm.slL (l.take i)).length) q.env), l := [(Y, .cells 79 (smc (Sm.slL (l.take i))))], M := M }) (l.length) ?_ ?_
    ·
      refine .of' _ _ ⟨0, _, B, by omega, Nat.le_refl _, ?_, rfl⟩ ?_ ?_ ?_
      · exact Nat.lt_succ_self _
      all_goals exact L_
    rintro r s' ⟨i, M, Y, hir, hBY, hYM, rfl⟩
    try refine S_ ?_
    refine g_ [0,3,4,10] ?_
    refine c_ (fun hc0 => ?_) fun hc0 => ?_
    ·
      have hil : i < l.length := by omega
      have hin := Sm.get_in hil
      obtain ⟨hp, heo, d', hf1, hf2⟩ := formS_at hf hil
      have hsl : (Sm.slL (l.take (i + 1))) = Sm.slL (l.take i) ++ rb (l.getD i default).inn := by rw [Sm.slL_take _ _ hil, Sm.sl_eq]
      have hsn : (Sm.slL (l.take i)).length + (rb (l.getD i default).inn).length = (Sm.slL (l.take (i + 1))).length := by rw [hsl, List.length_append]
      have hlz : (Sm.slL (l.take i)).length + (rb (l.getD i default).inn).length ≤ 1000000000 := by
        have h1 := Sm.len_szL (Sm.slL (l.take (i + 1)))
        have h2 := Sm.slL_sz (l.take (i + 1))
        have h3 := Sm.szL_take' l (i + 1)
        omega
      have hz1 := Sm.len_szL (Sm.slL (l.getD i default).th)
      have hz2 := Sm.slL_sz (l.getD i default).th
      have hz3 := Sm.len_szL (Sm.slL (l.getD i default).el)
      have hz4 := Sm.slL_sz (l.getD i default).el
      obtain ⟨nk, hnk⟩ : ∃ nk, nk = (l.getD i default).e.nn := ⟨_, rfl⟩
      refine g_ [0,3,4,5] ?_
      refine n_ ?_
      refine wpM_regionK [0,3,4,5] rfl fun Q1 hQ1 => ?_
      refine S_ ?_
      refine call_new (first := []) (cap := []) (ps := [.agg (l.getD i default).e.cs]) (l3T_ok _ (l.getD i default).e (Nat.le_refl _) (by omega)) Tryz.call81 rfl rfl rfl F_ ?_ ?_ ?_ ?_
      · simp [ksL]; omega
      · intro p hp
        simp only [List.mem_cons, List.not_mem_nil, or_false] at hp
        rcases hp with rfl | rfl
        · show M < M + 1; omega
        · show Y < M + 1; omega
      · show B ≤ M + 1; omega
      rintro out ⟨t, ht, hkt, rfl⟩
      refine ⟨_, _, rfl, fun p hp => hkt ▸ ksL_mem hp, ?_⟩
      have hkt2 : ksL t.ob = List.range' (M + 1) nk := by rw [hnk]; exact hkt
      have hge : ∀ p ∈ t.ob, M + 1 ≤ p.1 := fun p hp => by
        have hh : p.1 ∈ ksL t.ob := ksL_mem hp
        rw [hkt2] at hh
        exact (List.mem_range'_1.1 hh).1
      have hnd : (ksL t.ob).Nodup := by rw [hkt2]; exact List.nodup_range'
      have hL : CallF Tryz.prog 82 [.agg t.v] t.ob 0 (fun _ o => o = { rs := [.agg (l.getD i default).e.slim.cs], u := dropU t.ob }) := by
        have := l10E_ok 6 t (by rw [ht]; exact ok_form heo) (by rw [ht]; omega) hnd
        unfold L10 at this
        rw [ht] at this
        exact this
      refine S_ ?_
      refine call_drop (first := []) (cap := []) (ps := [.agg t.v]) (T := t.ob) (rs := [.agg (l.getD i default).e.slim.cs]) [(M, .cells 79 (l.getD i default).cs), (Y, .cells 79 (smc (Sm.slL (l.take i))))] hL Tryz.call82 rfl rfl rfl F_ ?_ ?_ ?_ ?_ ?_ ?_
      · simp only [ksL, List.map_cons, List.nodup_cons, List.mem_cons, not_or]
        refine ⟨⟨by omega, fun hx => ?_⟩, fun hx => ?_, hnd⟩
        · obtain ⟨p, hp, e⟩ := List.mem_map.1 hx
          have := hge p hp; omega
        · obtain ⟨p, hp, e⟩ := List.mem_map.1 hx
          have := hge p hp; omega
      · intro p hp; simp [hp]
      · intro p hp; left; show B ≤ p.1; have := hge p hp; omega
      · intro p hp
        rw [Sm.cs_eq] at hp
        simp only [List.mem_cons, List.not_mem_nil, or_false] at hp ⊢
        rcases hp with rfl | rfl
        · refine ⟨.inl rfl, fun hx => ?_⟩
          obtain ⟨p, hp, e⟩ := List.mem_map.1 hx
          have := hge p hp
          dsimp only at e; omega
        · refine ⟨.inr (.inl rfl), fun hx => ?_⟩
          obtain ⟨p, hp, e⟩ := List.mem_map.1 hx
          have := hge p hp
          dsimp only at e; omega
      · intro p hp
        simp only [List.mem_cons] at hp
        rcases hp with rfl | rfl | hp
        · left; simp [ksL]
        · left; simp [ksL]
        · right; left; exact ksL_mem hp
      refine S_ ?_
      refine hQ1 _ _ (S_ ?_);clear hQ1 Q1
      refine n_ ?_
      refine wpM_regionK [0,3,4,5] rfl fun Q1 hQ1 => ?_
      refine S_ ?_
      refine cp_ (ih _ (by omega) (l.getD i default).th rfl (by omega) ⟨d', hf1⟩) Tryz.call40 ?_
      refine hQ1 _ _ (S_ ?_);clear hQ1 Q1
      refine n_ ?_
      refine wpM_regionK [0,3,4,5] rfl fun Q1 hQ1 => ?_
      refine S_ ?_
      refine cp_ (ih _ (by omega) (l.getD i default).el rfl (by omega) ⟨d', hf2⟩) Tryz.call40 ?_
      refine hQ1 _ _ (S_ ?_);clear hQ1 Q1
      refine n_ ?_
      refine wpM_regionK [0,3,4,5,34] rfl fun Q1 hQ1 => ?_
      refine SD_ ?_
      refine cpD_ (self_ok (l.getD i default).inn) Tryz.call83 ?_
      first | refine cg_ (fun hb => sisN_ok (l.getD i default).e.slim 0) Tryz.call84 ?_ | refine cpD_ (sisN_ok (l.getD i default).e.slim 0) Tryz.call84 ?_
      refine hQ1 _ _ (S_ ?_);clear hQ1 Q1
      refine c_ (fun hc1 => ?_) fun hc1 => ?_
      ·
        refine g_ [0,3,4] ?_
        have hno : (l.getD i default).inn.no = true := hc1
        have hrb : rb (l.getD i default).inn = [] := by rw [rb, if_pos hno]
        rw [hrb, List.append_nil] at hsl
        rw [← hsl]
        refine .of' _ _ ⟨r - 1, by omega, i + 1, _, Y, by omega, by omega, ?_, rfl⟩ ?_ ?_ ?_
        · first | omega | (simp -implicitDefEqProofs (disch := omega) only [go_sem]; done) | (simp -implicitDefEqProofs (disch := omega) only [go_sem]; omega)
        all_goals exact L_
      refine n_ ?_
      refine wpM_regionK [0,3,4,5,64] rfl fun Q1 hQ1 => ?_
      refine SD_ ?_
      first | refine cg_ (fun hb => on_ok (l.getD i default).e.slim.n) Tryz.call85 ?_ | refine cpD_ (on_ok (l.getD i default).e.slim.n) Tryz.call85 ?_
      refine hQ1 _ _ (S_ ?_);clear hQ1 Q1
      refine c_ (fun hc2 => ?_) fun hc2 => ?_
      ·
        refine g_ [0,3,4] ?_
        refine g_ [0,3,4] ?_
        have hno : ¬ (l.getD i default).inn.no = true := by rw [Bool.not_eq_true]; exact hc1
        have hrb : rb (l.getD i default).inn = Sm.slL (l.getD i default).th := by rw [rb, if_neg hno]; exact if_pos hc2
        rw [hrb] at hsl hsn
        rw [smc_join, ← hsl, hsn]
        refine .of' _ _ ⟨r - 1, by omega, i + 1, _, M + 1 + (l.getD i default).e.nn, by omega, by omega, ?_, rfl⟩ ?_ ?_ ?_
        · first | omega | (simp -implicitDefEqProofs (disch := omega) only [go_sem]; done) | (simp -implicitDefEqProofs (disch := omega) only [go_sem]; omega)
        all_goals exact L_
      refine gD_ [0,3,4,5,84] ?_
      refine c_ (fun hc3 => ?_) fun hc3 => ?_
      ·
        refine g_ [0,3,4] ?_
        refine g_ [0,3,4] ?_
        have hno : ¬ (l.getD i default).inn.no = true := by rw [Bool.not_eq_true]; exact hc1
        have hrb : rb (l.getD i default).inn = Sm.slL (l.getD i default).el := by rw [rb, if_neg hno, if_neg (by rw [Bool.not_eq_true]; exact hc2)]; exact if_pos hc3
        rw [hrb] at hsl hsn
        rw [smc_join, ← hsl, hsn]
        refine .of' _ _ ⟨r - 1, by omega, i + 1, _, M + 1 + (l.getD i default).e.nn, by omega, by omega, ?_, rfl⟩ ?_ ?_ ?_
        · first | omega | (simp -implicitDefEqProofs (disch := omega) only [go_sem]; done) | (simp -implicitDefEqProofs (disch := omega) only [go_sem]; omega)
        all_goals exact L_
      refine g_ [0,3,4] ?_
      refine g_ [0,3,4] ?_
      have hno : ¬ (l.getD i default).inn.no = true := by rw [Bool.not_eq_true]; exact hc1
      have hrb : rb (l.getD i default).inn = [(l.getD i default).inn] := by rw [rb, if_neg hno, if_neg (by rw [Bool.not_eq_true]; exact hc2), if_neg (by rw [Bool.not_eq_true]; exact hc3)]
      rw [hrb] at hsl hsn
      have e1 : smc (Sm.slL (l.take i)) ++ [.int .i64 (l.getD i default).kind, .int .i64 (l.getD i default).to'.kind, .int .i64 (l.getD i default).to'.at', .int .i64 (l.getD i default).e.slim.kind, .int .i64 (l.getD i default).e.slim.n, .int .i64 (l.getD i default).e.slim.a.kind, .int .i64 (l.getD i default).e.slim.a.at', .rows 77 (Ex.csL (l.getD i default).e.slim.kids), .rows 79 (Sm.csL (Sm.slL (l.getD i default).th)), .rows 79 (Sm.csL (Sm.slL (l.getD i default).el))] = smc (Sm.slL (l.take (i + 1))) := by
        rw [hsl, ← smc_app, Sm.inn_cs]
      rw [e1, show (Sm.slL (l.take i)).length + 1 = (Sm.slL (l.take (i + 1))).length from hsn]
      refine .of' _ _ ⟨r - 1, by omega, i + 1, _, M + 1 + (l.getD i default).e.nn + 1, by omega, by omega, ?_, rfl⟩ ?_ ?_ ?_
      · first | omega | (simp -implicitDefEqProofs (disch := omega) only [go_sem]; done) | (simp -implicitDefEqProofs (disch := omega) only [go_sem]; omega)
      all_goals exact L_
    refine n_ ?_
    have hie : i = l.length := by omega
    have htl : l.take i = l := by rw [hie, List.take_of_length_le (Nat.le_refl _)]
    rw [htl]
    refine wpM_frz [Y] [(79, Y, 0, (Sm.slL l).length, Sm.csL (Sm.slL l))] (by intro q hq; simp at hq; subst hq; simp -implicitDefEqProofs (disch := omega) only [go_sem]) (by intro q hq; simp only [List.mem_cons, List.not_mem_nil, or_false] at hq; subst hq; exact ⟨by simp, rowsOf_smc (T := 79) T_ rfl⟩) ?_
    simp -implicitDefEqProofs (disch := omega) only [go_sem]
    refine g_ [2] ?_
    refine e_ Tryz.results40 ?_
    first
    | exact True.intro
    | rfl
theorem sslimS_ok (l : List Sm) (hs : Sm.szL l ≤ 1000000000) : PureF Tryz.prog 8 [.rows 79 (Sm.csL l)] [.rows 79 (Sm.csL (slimT l))] := by
  refine pureF_of Tryz.func8 rfl Tryz.ntmps8 (by simp) T_ ?_
  intro f0 B Q hQ
  refine g_ [0] ?_
  refine n_ ?_
  refine wpM_regionK [0,5] rfl fun Q1 hQ1 => ?_
  refine S_ ?_
  refine cp_ (stmtsOk_ok l (by omega)) Tryz.call38 ?_
  refine hQ1 _ _ (S_ ?_);clear hQ1 Q1
  refine c_ (fun hc0 => ?_) fun hc0 => ?_
  ·
    refine g_ [2] ?_
    have hcs : slimT l = [] := by rw [slimT, if_neg]; intro h; rw [h] at hc0; cases hc0
    refine wpM_frz [B] [(79, B, 0, 0, Sm.csL [])] (by intro q hq; simp at hq; subst hq; simp -implicitDefEqProofs (disch := omega) only [go_sem]) (by intro q hq; simp only [List.mem_cons, List.not_mem_nil, or_false] at hq; subst hq; exact ⟨by simp, rowsOf_smc (T := 79) (l := []) T_ rfl⟩) ?_
    refine S_ ?_
    refine e_ Tryz.results8 ?_
    first
    | exact True.intro
    | rw [hcs]
      try rfl
  have hok : okS l = true := by simpa using hc0
  have hcs : slimT l = Sm.slL l := by rw [slimT, if_pos hok]
  have hf4 : formS 4 l = true := by simp only [okS, Bool.and_eq_true] at hok; exact hok.2
  have hsz := Sm.slL_sz l
  refine n_ ?_
  refine wpM_regionK [2] rfl fun Q1 hQ1 => ?_
  refine S_ ?_
  refine cp_ (scopyS_ok _ l rfl (by omega)) Tryz.call39 ?_
  refine cp_ (l10S_ok _ l rfl hs ⟨4, hf4⟩) Tryz.call40 ?_
  refine cp_ (scopyS_ok _ (Sm.slL l) rfl (by omega)) Tryz.call39 ?_
  refine hQ1 _ _ (S_ ?_);clear hQ1 Q1
  refine e_ Tryz.results8 ?_
  first
  | exact True.intro
  | rw [hcs]
    try rfl
end Go.Proofs.YtnmfmeehmieifaaGreat
