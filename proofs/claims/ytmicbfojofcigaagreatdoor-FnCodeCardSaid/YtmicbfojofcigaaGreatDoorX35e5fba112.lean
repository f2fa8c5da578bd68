/- A part of a proof: lemmas and contracts of functions; the last text of the claim says what is proved. -/
import Derived.Test.YtmicbfojofcigaaGreatDoorXe55f4f07fb
set_option linter.unusedSectionVars false
set_option linter.unusedSimpArgs false
set_option linter.unusedVariables false
namespace Go.Proofs.YtmicbfojofcigaaGreatDoor
open Go Sg
set_option linter.unusedSectionVars false
variable [Glob]
set_option linter.unusedSimpArgs false
set_option linter.unusedVariables false
theorem fgd_eq {n : Nat} (hn : n ≤ 64) (m : MM) (on free : List Bool) (used : BitVec 64) (t : Trn) (hp : Places n t.fr) (hf : ∀ i, i < n → free.getD i false = (on.getD i false && !used.getLsbD i)) :
    fgd m (onBits on) used t = (!allOn free t.fr || !(t.w.of m != 0)) := by
  unfold fgd
  congr 1
  have h1 : ((bitsL t.fr &&& ~~~onBits on != 0#64) || (bitsL t.fr &&& used != 0#64)) = false ↔ allOn free t.fr = true := by
    rw [Bool.or_eq_false_iff, bv_zero, bv_zero, allOn_all hp]
    constructor
    · rintro ⟨h1, h2⟩ i hi h3
      have a1 := h1 i (by omega)
      have a2 := h2 i (by omega)
      rw [BitVec.getLsbD_and, bitsL_get _ _ (by omega), h3, Bool.true_and] at a1 a2
      rw [BitVec.getLsbD_not, onBits_get _ _ (by omega)] at a1
      rw [hf i hi, a2]
      have : decide (i < 64) = true := by simp; omega
      rw [this, Bool.true_and] at a1
      simpa using a1
    · intro h
      refine ⟨fun i hi => ?_, fun i hi => ?_⟩
      · rw [BitVec.getLsbD_and, bitsL_get _ _ hi]
        cases h3 : hasN t.fr i with
        | false => rfl
        | true =>
          have := h i (hasN_lt hp h3) h3
          rw [hf i (hasN_lt hp h3), Bool.and_eq_true] at this
          rw [BitVec.getLsbD_not, onBits_get _ _ hi, this.1]; simp
      · rw [BitVec.getLsbD_and, bitsL_get _ _ hi]
        cases h3 : hasN t.fr i with
        | false => rfl
        | true =>
          have := h i (hasN_lt hp h3) h3
          rw [hf i (hasN_lt hp h3), Bool.and_eq_true] at this
          simpa using this.2
  cases h2 : allOn free t.fr with
  | true => rw [h1.2 h2]; rfl
  | false =>
    cases h3 : ((bitsL t.fr &&& ~~~onBits on != 0#64) || (bitsL t.fr &&& used != 0#64)) with
    | true => rfl
    | false => rw [h1.1 h3] at h2; cases h2
def wayN (c : Cht) (i : Nat) : Trn := c.ts.getD i default
theorem hasT_app (pl : Trn → List Int) (a b : List Trn) (i : Nat) : hasT pl (a ++ b) i = (hasT pl a i || hasT pl b i) := by simp [hasT]
theorem fI_t {N : Nat} (hN : N ≤ 64) (m : MM) (c : Cht) (on : List Bool) (hon : on.length = N) (hp : ∀ t ∈ c.ts, Places N t.fr ∧ Places N t.to') (n : Nat) (hn : n ≤ c.ts.length) :
    (fI m (onBits on) c n).2.map (fun (i : Nat) => (i : Int)) = (fpre m c on n).2 ∧ (∀ i, i < 64 → (fI m (onBits on) c n).1.getLsbD i = hasT Trn.fr ((fI m (onBits on) c n).2.map (wayN c)) i) ∧
      (∀ i, i < N → (fpre m c on n).1.getD i false = (on.getD i false && !(fI m (onBits on) c n).1.getLsbD i)) := by
  induction n with
  | zero => exact ⟨rfl, fun i _ => by simp [fI, hasT], fun i _ => by simp [fI, fpre]⟩
  | succ n ih =>
    obtain ⟨h1, h2, h3⟩ := ih (by omega)
    have hmem : c.ts.getD n default ∈ c.ts := getD_mem (by omega)
    have hg := fgd_eq hN m on (fpre m c on n).1 (fI m (onBits on) c n).1 (c.ts.getD n default) (hp _ hmem).1 h3
    cases hc : fgd m (onBits on) (fI m (onBits on) c n).1 (c.ts.getD n default) with
    | true =>
      rw [fI_yes hc, fpre_succ, fstep, if_pos (by rw [← hg]; exact hc)]
      exact ⟨h1, h2, h3⟩
    | false =>
      rw [fI_no hc, fpre_succ, fstep, if_neg (by rw [← hg, hc]; simp)]
      refine ⟨by rw [List.map_append, h1]; rfl, fun i hi => ?_, fun i hi => ?_⟩
      · show ((fI m (onBits on) c n).1 ||| bitsL (c.ts.getD n default).fr).getLsbD i = hasT Trn.fr (((fI m (onBits on) c n).2 ++ [n]).map (wayN c)) i
        rw [BitVec.getLsbD_or, h2 i hi, bitsL_get _ _ hi, List.map_append, hasT_app]
        show _ = (_ || hasT Trn.fr [wayN c n] i)
        simp [hasT, wayN]
      · show (clr false (fpre m c on n).1 (c.ts.getD n default).fr).getD i false = (on.getD i false && !((fI m (onBits on) c n).1 ||| bitsL (c.ts.getD n default).fr).getLsbD i)
        have hlen := (fpre_len m c on n).1
        rw [clr_get _ _ _ _ (fun x hx => by have := (hp _ hmem).1 x hx; rw [hlen]; omega), h3 i hi, BitVec.getLsbD_or, bitsL_get _ _ (by omega)]
        cases hasN (c.ts.getD n default).fr i <;> simp
theorem bgI_get (c : Cht) (l : List Nat) (i : Nat) (hi : i < 64) : (bgI c l).getLsbD i = hasT Trn.to' (l.map (wayN c)) i := by
  have h : ∀ (l : List Nat) (b : BitVec 64), (l.foldl (fun b j => b ||| bitsL (c.ts.getD j default).to') b).getLsbD i = (b.getLsbD i || hasT Trn.to' (l.map (wayN c)) i) := by
    intro l
    induction l with
    | nil => intro b; simp [hasT]
    | cons j l ih =>
      intro b
      rw [List.foldl_cons, ih, BitVec.getLsbD_or, bitsL_get _ _ hi, List.map_cons, hasT_cons, Bool.or_assoc]; rfl
  rw [bgI, h]; simp
theorem kset_get (v : Bool) (kk : Int) (on : List Bool) (l : List GAct) (i : Nat) : ∀ f : List Bool, (∀ a ∈ l, a.to'.at'.toNat < f.length) →
    (kset v kk on f l).getD i false = if l.any (fun a => a.kind == kk && on.getD a.step.toNat false && a.to'.at'.toNat == i) then v else f.getD i false := by
  induction l with
  | nil => intro f _; simp [kset]
  | cons a l ih =>
    intro f hf
    rw [kset, List.foldl_cons]
    show (kset v kk on (if a.kind == kk && on.getD a.step.toNat false then f.set a.to'.at'.toNat v else f) l).getD i false = _
    have h1 : a.to'.at'.toNat < f.length := hf a (by simp)
    rw [ih _ (fun b hb => by split <;> (try rw [List.length_set]) <;> exact hf b (by simp [hb])), List.any_cons]
    cases hc : (a.kind == kk && on.getD a.step.toNat false) with
    | false => simp
    | true =>
      simp only [if_true, Bool.true_and]
      rw [getD_set _ _ _ _ _ h1]
      by_cases h2 : a.to'.at'.toNat = i
      · simp [h2]
      · have : (a.to'.at'.toNat == i) = false := by simpa using h2
        simp [this, h2]
theorem kfold_kset {N : Nat} (hN : N ≤ 64) (v : Bool) (kk : Int) (hkk : kk = 2 ∧ v = true ∨ kk = 3 ∧ v = false) (on : BitVec 64) (onL : List Bool) (hon : ∀ i, i < N → onL.getD i false = on.getLsbD i) (l : List GAct) : ∀ f : List Bool, (∀ a ∈ l, a.to'.at'.toNat < f.length ∧ 0 ≤ a.step ∧ a.step < (N : Int)) →
    kfold kk on f l = kset v kk onL f l := by
  induction l with
  | nil => intro f _; rfl
  | cons a l ih =>
    intro f hf
    obtain ⟨h1, h2, h3⟩ := hf a (by simp)
    have hb := hon a.step.toNat (by omega)
    have hst : (if a.kind == kk then keepK kk on f a else f) = (if a.kind == kk && onL.getD a.step.toNat false then f.set a.to'.at'.toNat v else f) := by
      cases hk : a.kind == kk with
      | false => simp
      | true =>
        have hself : f.set a.to'.at'.toNat (f.getD a.to'.at'.toNat false) = f := by
          rw [List.getD_eq_getElem?_getD, List.getElem?_eq_getElem h1]; simp
        simp only [if_true, Bool.true_and]
        rw [hb]
        rcases hkk with ⟨rfl, rfl⟩ | ⟨rfl, rfl⟩
        · unfold keepK
          cases on.getLsbD a.step.toNat with
          | true => simp
          | false => simp only [beq_self_eq_true, if_true, Bool.or_false, Bool.false_eq_true, if_false]; exact hself
        · unfold keepK
          cases on.getLsbD a.step.toNat with
          | true => simp
          | false => simp only [Int.reduceBEq, Bool.not_false, Bool.false_eq_true, if_false, if_true, Bool.and_true, beq_self_eq_true]; exact hself
    show kfold kk on (if a.kind == kk then keepK kk on f a else f) l = kset v kk onL (if a.kind == kk && onL.getD a.step.toNat false then f.set a.to'.at'.toNat v else f) l
    rw [hst]
    exact ih _ (fun b hb => by
      obtain ⟨x1, x2, x3⟩ := hf b (by simp [hb])
      exact ⟨by split <;> (try rw [List.length_set]) <;> exact x1, x2, x3⟩)
theorem lit_drives {N : Nat} (on bg : BitVec 64) (onL bgL : List Bool) (hon : ∀ i, i < N → onL.getD i false = on.getLsbD i) (hbg : ∀ i, i < N → bgL.getD i false = bg.getLsbD i) (a : GAct) (h2 : a.to'.kind = 2) (l : List GAct) (hl : ∀ b ∈ l, b.to'.kind = 2 ∧ 0 ≤ b.step ∧ b.step < (N : Int)) :
    l.any (drives on bg a) = l.any (litA a.to'.at' onL bgL) := by
  induction l with
  | nil => rfl
  | cons b l ih =>
    obtain ⟨b1, b2, b3⟩ := hl b (by simp)
    rw [List.any_cons, List.any_cons, ih (fun x hx => hl x (by simp [hx]))]
    congr 1
    unfold drives litA
    rw [AD.beq, b1, h2, hon _ (by omega), hbg _ (by omega)]
    simp only [beq_self_eq_true, Bool.true_and]
    congr 1
    unfold drvK
    by_cases k1 : b.kind = 1
    · simp [k1]
    by_cases k4 : b.kind = 4
    · simp [k4]
    · have e1 : (b.kind == 1) = false := by simpa using k1
      have e2 : (b.kind == 4) = false := by simpa using k4
      simp [e1, e2]
theorem fold_congr {α β : Type} {f g : β → α → β} : ∀ (l : List α) (b : β), (∀ a ∈ l, ∀ b, f b a = g b a) → l.foldl f b = l.foldl g b
  | [], _, _ => rfl
  | x :: l, b, h => by rw [List.foldl_cons, List.foldl_cons, h x (by simp)]; exact fold_congr l _ (fun a ha => h a (by simp [ha]))
theorem istep_eq (c : Cht) (k : Mrk) (m : MM) (hk : k.kept.length = 6) (hg : c.Go k.on.length) (hf : ∀ i, i < c.as'.length → (c.as'.getD i default).Fine) : istep c k m = stepM c k m := by
  have hN : k.on.length ≤ 64 := by have := hg.n6; omega
  have hpl := hg.pl
  have hsteps := hg.steps
  have hfine : ∀ a ∈ c.as', a.Fine ∧ a.step < (k.on.length : Int) := by
    intro a ha
    obtain ⟨i, hi, rfl⟩ := List.getElem_of_mem ha
    have h1 := hf i hi
    have h2 := (hg.a i hi).2.1
    rw [List.getD_eq_getElem?_getD, List.getElem?_eq_getElem hi] at h1 h2
    exact ⟨h1, h2⟩
  obtain ⟨f1, f2, f3⟩ := fI_t hN m c k.on rfl hpl c.ts.length (Nat.le_refl _)
  have hfs : fires m c k.on = (fI m (onBits k.on) c c.ts.length).2.map (fun (i : Nat) => (i : Int)) := f1.symm
  have hways : (fires m c k.on).map (wayAt c) = (fI m (onBits k.on) c c.ts.length).2.map (wayN c) := by
    rw [hfs, List.map_map]; rfl
  have hmem : ∀ t ∈ (fires m c k.on).map (wayAt c), t ∈ c.ts := by rw [fires_t]; exact tfires_mem m k.on c.ts
  generalize hF : fI m (onBits k.on) c c.ts.length = F at *
  have hgo : ∀ i, i < k.on.length → (goes c k.on (fires m c k.on)).getD i false = (onBits k.on &&& ~~~F.1 ||| bgI c F.2).getLsbD i := by
    intro i hi
    rw [goes, spread_eq, spread_eq, spreadT_get, spreadT_get, hways, BitVec.getLsbD_or, BitVec.getLsbD_and, BitVec.getLsbD_not, onBits_get _ _ (by omega), f2 i (by omega), bgI_get _ _ _ (by omega)]
    · have : decide (i < 64) = true := by simp; omega
      rw [this]
      cases hasT Trn.to' (F.2.map (wayN c)) i <;> cases hasT Trn.fr (F.2.map (wayN c)) i <;> simp
    · intro t ht x hx; have := (hpl t (hmem t ht)).1 x hx; omega
    · intro t ht x hx; rw [spreadT_len]; have := (hpl t (hmem t ht)).2 x hx; omega
  have hbg : ∀ i, i < k.on.length → (begins c (fires m c k.on)).getD i false = (bgI c F.2).getLsbD i := by
    intro i hi
    rw [begins, spread_eq, spreadT_get, hways, bgI_get _ _ _ (by omega)]
    · have : (List.replicate c.steps.toNat false).getD i false = false := by
        rw [List.getD_eq_getElem?_getD]
        by_cases h : i < c.steps.toNat
        · rw [List.getElem?_eq_getElem (by simpa using h)]; simp
        · rw [List.getElem?_eq_none (by simpa using h)]; rfl
      rw [this]; cases hasT Trn.to' (F.2.map (wayN c)) i <;> simp
    · intro t ht x hx; have := (hpl t (hmem t ht)).2 x hx; simp; omega
  have e1 : hasL (onBits k.on &&& ~~~F.1 ||| bgI c F.2) c.steps.toNat = goes c k.on (fires m c k.on) := by
    refine ext_getD false (by rw [goes_len]; simp [hasL]; exact hsteps) fun i hi => ?_
    have hi' : i < k.on.length := by simp [hasL] at hi; omega
    rw [hgo i hi', hasL, List.getD_eq_getElem?_getD, List.getElem?_eq_getElem (by simpa [hasL] using hi)]; simp
  have e2 : kAll (onBits k.on &&& ~~~F.1 ||| bgI c F.2) c.as' k.kept [2, 3] = keptM c k.kept (goes c k.on (fires m c k.on)) := by
    show kfold 3 _ (kfold 2 _ k.kept c.as') c.as' = _
    rw [kfold_kset hN true 2 (.inl ⟨rfl, rfl⟩) _ _ hgo, kfold_kset hN false 3 (.inr ⟨rfl, rfl⟩) _ _ hgo]
    · rfl
    · intro a ha
      obtain ⟨x1, x2⟩ := hfine a ha
      unfold GAct.Fine at x1
      exact ⟨by rw [kset_len, hk]; omega, x1.2.2.1, x2⟩
    · intro a ha
      obtain ⟨x1, x2⟩ := hfine a ha
      unfold GAct.Fine at x1
      exact ⟨by rw [hk]; omega, x1.2.2.1, x2⟩
  unfold istep stepM
  simp only [hF, e1, e2]
  refine Prod.ext rfl ?_
  show imfold c _ _ _ m c.as' = mfold c _ _ _ m c.as'
  refine fold_congr _ _ fun a ha m' => ?_
  obtain ⟨x1, x2⟩ := hfine a ha
  unfold GAct.Fine at x1
  unfold imstep mstep lit
  rw [lit_drives _ _ _ _ hgo hbg a x1.2.2.2.2.1]
  intro b hb
  obtain ⟨y1, y2⟩ := hfine b hb
  unfold GAct.Fine at y1
  exact ⟨y1.2.2.2.2.1, y1.2.2.1, y2⟩
theorem ichtStep_eq (c : Cht) (k : Mrk) (m : MM) : ichtStep c k m = chtStep c k m := by
  unfold ichtStep chtStep
  have : turnOk c k m = (c.ok && mrkOk c k && m.ok) := by
    unfold turnOk; rw [cht_iok]
    cases m.ok <;> cases c.ok <;> cases mrkOk c k <;> rfl
  rw [← this]
  cases h : turnOk c k m with
  | false => rfl
  | true =>
    obtain ⟨h1, h2, h3, h4⟩ := turnOk_inv h
    have hgo : c.Go k.on.length := by
      have := Cht.ok_Go h2
      rwa [show c.steps.toNat = k.on.length by omega] at this
    simp only [if_true]
    exact istep_eq c k m h4 hgo (Cht.ok_fine h2)
end Go.Proofs.YtmicbfojofcigaaGreatDoor
namespace Go.Proofs.YtmicbfojofcigaaGreatDoor
open Go Sg
set_option linter.unusedSectionVars false
variable [Glob]
set_option linter.unusedSimpArgs false
set_option linter.unusedVariables false
theorem mfold_spec (c : Cht) (kp on bg : List Bool) (l : List GAct) (hl : ∀ a ∈ l, a.to'.kind = 2 ∧ 0 ≤ a.to'.at' ∧ a.to'.at' < 6) : ∀ m : MM, m.o.length = 6 →
    (mfold c kp on bg m l).i = m.i ∧ (mfold c kp on bg m l).v = m.v ∧ (mfold c kp on bg m l).o.length = 6 ∧
    ∀ i : Nat, (mfold c kp on bg m l).o.getD i 0 = if l.any (fun a => a.to'.at'.toNat == i) then cut (numIs (kp.getD i false || lit c i on bg)) else m.o.getD i 0 := by
  induction l with
  | nil => intro m hm; exact ⟨rfl, rfl, hm, fun i => by simp [mfold]⟩
  | cons a l ih =>
    intro m hm
    obtain ⟨h1, h2, h3⟩ := hl a (by simp)
    have hp : mstep c kp on bg m a = { m with o := m.o.set a.to'.at'.toNat (cut (numIs (kp.getD a.to'.at'.toNat false || lit c a.to'.at' on bg))) } := MM.put2 (by rw [h1]; rfl)
    obtain ⟨e1, e2, e3, e4⟩ := ih (fun b hb => hl b (by simp [hb])) (mstep c kp on bg m a) (by rw [hp]; simpa using hm)
    have hc : mfold c kp on bg m (a :: l) = mfold c kp on bg (mstep c kp on bg m a) l := rfl
    rw [hc]
    refine ⟨by rw [e1, hp], by rw [e2, hp], e3, fun i => ?_⟩
    rw [e4 i, hp, List.any_cons]
    show (if _ then _ else (m.o.set a.to'.at'.toNat (cut (numIs (kp.getD a.to'.at'.toNat false || lit c a.to'.at' on bg)))).getD i 0) = _
    rw [getD_set _ _ _ _ _ (by omega)]
    by_cases h5 : a.to'.at'.toNat = i
    · have h6 : (a.to'.at'.toNat == i) = true := by simpa using h5
      have h7 : (i : Int) = a.to'.at' := by omega
      rw [if_pos h5, h6, Bool.true_or, if_pos rfl, h5, h7]
      simp
    · have h6 : (a.to'.at'.toNat == i) = false := by simpa using h5
      rw [if_neg h5, h6, Bool.false_or]
def revC (c : Cht) : Cht := { c with as' := c.as'.reverse }
theorem any_rev {α : Type} (p : α → Bool) (l : List α) : l.reverse.any p = l.any p := by
  rw [Bool.eq_iff_iff, List.any_eq_true, List.any_eq_true]; simp
theorem all_rev {α : Type} (p : α → Bool) (l : List α) : l.reverse.all p = l.all p := by
  rw [Bool.eq_iff_iff, List.all_eq_true, List.all_eq_true]; simp
theorem revC_ok (c : Cht) : (revC c).ok = c.ok := by
  unfold Cht.ok revC
  simp only [List.length_reverse, all_rev]
theorem Cht.acts {c : Cht} (h : c.ok = true) : ∀ a ∈ c.as', a.to'.kind = 2 ∧ 0 ≤ a.to'.at' ∧ a.to'.at' < 6 ∧ 0 ≤ a.step ∧ a.step < c.steps ∧ 1 ≤ a.kind ∧ a.kind ≤ 4 := by
  intro a ha
  obtain ⟨i, hi, rfl⟩ := List.getElem_of_mem ha
  have h1 := Cht.ok_fine h i hi
  have h2 := ((Cht.ok_Go h).a i hi).2.1
  rw [List.getD_eq_getElem?_getD, List.getElem?_eq_getElem hi] at h1 h2
  unfold GAct.Fine at h1
  have := Cht.ok_st h
  simp only [Option.getD_some] at h1 h2
  exact ⟨h1.2.2.2.2.1, h1.2.2.2.2.2.1, h1.2.2.2.2.2.2, h1.2.2.1, by omega, h1.1, h1.2.1⟩
theorem revC_step (c : Cht) (k : Mrk) (m : MM) (h : c.ok = true) (hk : k.kept.length = 6) (hm : m.Six) : stepM (revC c) k m = stepM c k m := by
  have ha := Cht.acts h
  have hf : fires m (revC c) k.on = fires m c k.on := rfl
  have hg : goes (revC c) k.on (fires m (revC c) k.on) = goes c k.on (fires m c k.on) := rfl
  have hb : begins (revC c) (fires m (revC c) k.on) = begins c (fires m c k.on) := rfl
  generalize hG : goes c k.on (fires m c k.on) = on at *
  generalize hB : begins c (fires m c k.on) = bg at *
  have hkp : keptM (revC c) k.kept on = keptM c k.kept on := by
    refine ext_getD false (by rw [keptM_len, keptM_len]) fun i _ => ?_
    unfold keptM revC
    rw [kset_get, kset_get, kset_get, kset_get]
    · simp only [any_rev]
    all_goals (intro a h1; try rw [kset_len]); rw [hk]; first | (have := ha a h1; omega) | (have := ha a (by simpa using h1); omega)
  have hl : ∀ i : Int, lit (revC c) i on bg = lit c i on bg := by intro i; unfold lit revC; simp only [any_rev]
  have hmf : mfold (revC c) (keptM c k.kept on) on bg m (revC c).as' = mfold c (keptM c k.kept on) on bg m c.as' := by
    obtain ⟨a1, a2, a3, a4⟩ := mfold_spec (revC c) (keptM c k.kept on) on bg (revC c).as' (fun a h1 => by have := ha a (by simpa [revC] using h1); exact ⟨this.1, this.2.1, this.2.2.1⟩) m hm.o
    obtain ⟨b1, b2, b3, b4⟩ := mfold_spec c (keptM c k.kept on) on bg c.as' (fun a h1 => by have := ha a h1; exact ⟨this.1, this.2.1, this.2.2.1⟩) m hm.o
    generalize mfold (revC c) (keptM c k.kept on) on bg m (revC c).as' = x at *
    generalize mfold c (keptM c k.kept on) on bg m c.as' = y at *
    have ho : x.o = y.o := ext_getD 0 (by rw [a3, b3]) fun i _ => by
      rw [a4, b4, hl]
      show (if (c.as'.reverse.any _) then _ else _) = _
      rw [any_rev]
    cases x; cases y; simp_all
  show ((⟨goes (revC c) k.on (fires m (revC c) k.on), keptM (revC c) k.kept (goes (revC c) k.on (fires m (revC c) k.on))⟩ : Mrk), mfold (revC c) (keptM (revC c) k.kept (goes (revC c) k.on (fires m (revC c) k.on))) (goes (revC c) k.on (fires m (revC c) k.on)) (begins (revC c) (fires m (revC c) k.on)) m (revC c).as') = _
  rw [hg, hb, hkp, hmf, ← hG, ← hB]; rfl
theorem revC_cht (c : Cht) (k : Mrk) (m : MM) : chtStep (revC c) k m = chtStep c k m := by
  unfold chtStep
  rw [revC_ok]
  show (if c.ok && mrkOk c k && m.ok then _ else _) = _
  cases h : (c.ok && mrkOk c k && m.ok) with
  | false => rfl
  | true =>
    simp only [Bool.and_eq_true, mrkOk, beq_iff_eq] at h
    simp only [if_true]
    exact revC_step c k m h.1.1 (by omega) (MM.ok_six h.2)
def filC (c : Cht) (m : MM) : Cht := { c with ts := c.ts.filter fun t => iof t.w m != 0 }
theorem Cht.ways {c : Cht} (h : c.ok = true) : ∀ t ∈ c.ts, t.w.ok = true := by
  unfold Cht.ok at h
  split at h
  · cases h
  · simp only [Bool.and_eq_true, List.all_eq_true] at h
    intro t ht
    have := h.1 t ht
    simp only [Trn.bad, Bool.not_eq_true', Bool.or_eq_false_iff, Bool.not_eq_false'] at this
    exact this.2
theorem filC_ok {c : Cht} (m : MM) (h : c.ok = true) : (filC c m).ok = true := by
  unfold Cht.ok at h ⊢
  split at h
  · cases h
  · rename_i hh
    rw [if_neg]
    · simp only [filC, Bool.and_eq_true, List.all_eq_true] at h ⊢
      exact ⟨fun t ht => h.1 t (List.mem_filter.1 ht).1, h.2⟩
    · have hlen : (c.ts.filter fun t => iof t.w m != 0).length ≤ c.ts.length := List.length_filter_le _ _
      simp only [filC, Bool.or_eq_true, decide_eq_true_eq, not_or] at hh ⊢
      have e : ∀ (p : Prop) [Decidable p], ¬ p → ¬ (decide p = true) := fun p _ h => by simpa using h
      exact ⟨⟨⟨e _ hh.1.1.1, e _ hh.1.1.2⟩, e _ (by omega)⟩, e _ hh.2⟩
theorem tfires_filter (m : MM) (p : Trn → Bool) (ts : List Trn) (hp : ∀ t ∈ ts, p t = (t.w.of m != 0)) : ∀ st : List Bool × List Trn,
    (ts.filter p).foldl (fun st t => if !allOn st.1 t.fr || !(t.w.of m != 0) then st else (clr false st.1 t.fr, st.2 ++ [t])) st = ts.foldl (fun st t => if !allOn st.1 t.fr || !(t.w.of m != 0) then st else (clr false st.1 t.fr, st.2 ++ [t])) st := by
  induction ts with
  | nil => intro st; rfl
  | cons t ts ih =>
    intro st
    have ht := hp t (by simp)
    rw [List.foldl_cons, List.filter_cons]
    cases h : p t with
    | true => rw [if_pos rfl, List.foldl_cons]; exact ih (fun u hu => hp u (by simp [hu])) _
    | false =>
      rw [if_neg (by simp), ih (fun u hu => hp u (by simp [hu]))]
      rw [h] at ht
      rw [← ht]; simp
theorem filC_step (c : Cht) (k : Mrk) (m : MM) (h : c.ok = true) (hm : m.ok = true) : stepM (filC c m) k m = stepM c k m := by
  have ht : (fires m (filC c m) k.on).map (wayAt (filC c m)) = (fires m c k.on).map (wayAt c) := by
    rw [fires_t, fires_t]
    show (tfires m k.on (c.ts.filter _)).2 = _
    unfold tfires
    rw [tfires_filter]
    intro t ht
    unfold iof
    rw [hm, Cht.ways h t ht]; rfl
  have hg : goes (filC c m) k.on (fires m (filC c m) k.on) = goes c k.on (fires m c k.on) := by
    rw [goes, goes, spread_eq, spread_eq, spread_eq, spread_eq, ht]
  have hb : begins (filC c m) (fires m (filC c m) k.on) = begins c (fires m c k.on) := by
    rw [begins, begins, spread_eq, spread_eq, ht]; rfl
  show ((⟨goes (filC c m) k.on (fires m (filC c m) k.on), keptM c k.kept (goes (filC c m) k.on (fires m (filC c m) k.on))⟩ : Mrk), mfold c (keptM c k.kept (goes (filC c m) k.on (fires m (filC c m) k.on))) (goes (filC c m) k.on (fires m (filC c m) k.on)) (begins (filC c m) (fires m (filC c m) k.on)) m c.as') = _
  rw [hg, hb]; rfl
theorem filC_cht (c : Cht) (k : Mrk) (m : MM) (h : c.ok = true) (hm : m.ok = true) : chtStep (filC c m) k m = chtStep c k m := by
  unfold chtStep
  rw [filC_ok m h, h]
  show (if true && mrkOk c k && m.ok then _ else _) = _
  cases h2 : (true && mrkOk c k && m.ok) with
  | false => rfl
  | true => simp only [if_true]; exact filC_step c k m h hm
theorem memSame_self (m : MM) : memSame m m = true := by
  have h : ∀ l : List Int, eqI l l = true := by
    intro l; unfold eqI; simp
  unfold memSame; rw [h, h, h]; rfl
theorem chtStep_ne {c : Cht} {k : Mrk} {m : MM} (h : ((chtStep c k m).2.i.length : Int) ≠ 0) : c.ok = true ∧ mrkOk c k = true ∧ m.ok = true := by
  unfold chtStep at h
  split at h
  · rename_i hh; simp only [Bool.and_eq_true] at hh; exact ⟨hh.1.1, hh.1.2, hh.2⟩
  · simp at h
theorem chtStep_yes {c : Cht} {k : Mrk} {m : MM} (h1 : c.ok = true) (h2 : mrkOk c k = true) (h3 : m.ok = true) : chtStep c k m = stepM c k m := by
  unfold chtStep; rw [h1, h2, h3]; rfl
end Go.Proofs.YtmicbfojofcigaaGreatDoor
namespace Go.Proofs.YtmicbfojofcigaaGreatDoor
open Go Sg
set_option linter.unusedSectionVars false
variable [Glob]
set_option maxRecDepth 100000
set_option linter.unusedSimpArgs false
set_option linter.unusedVariables false
set_option maxHeartbeats 4000000
def nats (l : List Nat) : List Int := l.map fun (i : Nat) => (i : Int)
theorem nats_app (l : List Nat) (n : Nat) : nats l ++ [(n : Int)] = nats (l ++ [n]) := by simp [nats]
@[go_sem] theorem nats_len (l : List Nat) : (nats l).length = l.length := by simp [nats]
def ifires (c : Cht) (k : Mrk) (m : MM) : List Int := if turnOk c k m then nats (fI m (onBits k.on) c c.ts.length).2 else []
theorem fI_len (m : MM) (on : BitVec 64) (c : Cht) (n : Nat) : (fI m on c n).2.length ≤ n := by
  induction n with
  | zero => exact Nat.le_refl _
  | succ n ih =>
    cases h : fgd m on (fI m on c n).1 (c.ts.getD n default) with
    | true => rw [fI_yes h]; omega
    | false => rw [fI_no h]; simp; omega
theorem frzI' {r : Option Nat} {N : Nat} {c : Code} {s : MS} {Q : ExitA → MS → Prop} (x n : Nat) (l : List Int) (hn : l.length = n) (hx : s.B ≤ x) (h1 : s.f x = some (.cells 3 (ints l)))
    (h : wpM Tryz.prog r N c (s.frz [x] [(3, x, 0, n, rowsI l)]) Q) : wpM Tryz.prog r N c s Q := by
  refine wpM_frz [x] _ (by intro q hq; simp at hq; subst hq; assumption) (by
      intro q hq
      simp only [List.mem_cons, List.not_mem_nil, or_false] at hq
      subst hq
      exact ⟨by simp, rowsOf_ints' (T := 3) (l := l) h1 hn⟩) h
end Go.Proofs.YtmicbfojofcigaaGreatDoor
namespace Go.Proofs.YtmicbfojofcigaaGreatDoor
open Go Sg
set_option linter.unusedSectionVars false
variable [Glob]
set_option linter.unusedSimpArgs false
set_option linter.unusedVariables false
theorem take_any {α : Type} [Inhabited α] (p : α → Bool) (l : List α) (i : Nat) (h : i < l.length) : (l.take (i + 1)).any p = ((l.take i).any p || p (l.getD i default)) := by
  rw [List.take_succ_eq_append_getElem h, List.any_append]
  simp [List.getD, h]
def pK (kk : Int) (i : Nat) (on : List Bool) (a : GAct) : Bool := a.kind == kk && a.to'.at' == (i : Int) && on.getD a.step.toNat false
def pB (kk : Int) (i : Nat) (a : GAct) : Bool := a.kind == kk && a.to'.at' == (i : Int)
theorem any_congr {α : Type} {p q : α → Bool} : ∀ {l : List α}, (∀ a ∈ l, p a = q a) → l.any p = l.any q
  | [], _ => rfl
  | x :: l, h => by rw [List.any_cons, List.any_cons, h x (by simp), any_congr fun a ha => h a (by simp [ha])]
theorem kept_law {c : Cht} {k : Mrk} {m : MM} (h : c.ok = true) (hk : k.kept.length = 6) (i : Nat) : (stepM c k m).1.kept.getD i false = (!(c.as'.any (pK 3 i (stepM c k m).1.on)) && (c.as'.any (pK 2 i (stepM c k m).1.on) || k.kept.getD i false)) := by
  have ha := Cht.acts h
  show (keptM c k.kept (goes c k.on (fires m c k.on))).getD i false = (!(c.as'.any (pK 3 i (goes c k.on (fires m c k.on)))) && (c.as'.any (pK 2 i (goes c k.on (fires m c k.on))) || k.kept.getD i false))
  generalize goes c k.on (fires m c k.on) = on
  have e : ∀ kk, c.as'.any (fun a => a.kind == kk && on.getD a.step.toNat false && a.to'.at'.toNat == i) = c.as'.any (pK kk i on) := fun kk => any_congr fun a h1 => by
    have := ha a h1
    have e2 : (a.to'.at'.toNat == i) = (a.to'.at' == (i : Int)) := by rw [Bool.eq_iff_iff]; simp; omega
    unfold pK
    rw [e2]
    cases (a.kind == kk) <;> cases on.getD a.step.toNat false <;> simp
  unfold keptM
  rw [kset_get, kset_get, e, e]
  · cases c.as'.any (pK 3 i on) <;> cases c.as'.any (pK 2 i on) <;> simp
  all_goals (intro a h1; try rw [kset_len]); rw [hk]; have := ha a h1; omega
theorem ifires_eq (c : Cht) (k : Mrk) (m : MM) : ifires c k m = if turnOk c k m then fires m c k.on else [] := by
  unfold ifires
  split
  · rename_i h
    obtain ⟨h1, h2, h3, h4⟩ := turnOk_inv h
    have hgo : c.Go k.on.length := by
      have := Cht.ok_Go h2
      have h5 := Cht.ok_st h2
      rwa [show c.steps.toNat = k.on.length by omega] at this
    have := hgo.n6
    exact (fI_t (by omega) m c k.on rfl hgo.pl c.ts.length (Nat.le_refl _)).1
  · rfl
theorem cut_cut (n : Int) : cut (cut n) = cut n := by unfold cut; omega
theorem listOk_set {l : List Int} (h : listOk l = true) (i : Nat) (n : Int) : listOk (l.set i (cut n)) = true := by
  simp only [listOk, Bool.and_eq_true, List.all_eq_true, List.length_set] at h ⊢
  refine ⟨fun x hx => ?_, h.2⟩
  rcases List.mem_or_eq_of_mem_set hx with h1 | h1
  · exact h.1 x h1
  · rw [h1, cut_cut]; simp
theorem put_ok9 {m : MM} (h : m.ok = true) (a : AD) (n : Int) : (m.put a n).ok = true := by
  simp only [MM.ok, Bool.and_eq_true] at h
  unfold MM.put
  split
  · simp only [MM.ok, Bool.and_eq_true]; exact ⟨⟨h.1.1, listOk_set h.1.2 _ _⟩, h.2⟩
  · split
    · simp only [MM.ok, Bool.and_eq_true]; exact ⟨⟨h.1.1, h.1.2⟩, listOk_set h.2 _ _⟩
    · simp only [MM.ok, Bool.and_eq_true]; exact ⟨⟨h.1.1, h.1.2⟩, h.2⟩
theorem stepM_ok9 (c : Cht) (k : Mrk) {m : MM} (h : m.ok = true) : (stepM c k m).2.ok = true := by
  show (mfold c _ _ _ m c.as').ok = true
  have : ∀ (kp on bg : List Bool) (l : List GAct) (m : MM), m.ok = true → (mfold c kp on bg m l).ok = true := by
    intro kp on bg l
    induction l with
    | nil => intro m h; exact h
    | cons a l ih => intro m h; exact ih _ (put_ok9 h _ _)
  exact this _ _ _ _ _ h
theorem numIs_false : cut (numIs false) = 0 := rfl
theorem begin_law {c : Cht} {k : Mrk} {m : MM} (h : c.ok = true) (hm : m.Six) (hf : fires m c k.on = []) (i : Nat) (ho : c.as'.any (pB 4 i) = true) (hn : ((stepM c k m).1.kept.getD i false || c.as'.any (pK 1 i (stepM c k m).1.on)) = false) : (stepM c k m).2.o.getD i 0 = 0 := by
  have ha := Cht.acts h
  have hs : stepM c k m = (⟨goes c k.on [], keptM c k.kept (goes c k.on [])⟩, mfold c (keptM c k.kept (goes c k.on [])) (goes c k.on []) (begins c []) m c.as') := by unfold stepM; rw [hf]
  rw [hs] at hn ⊢
  have hn : ((keptM c k.kept (goes c k.on [])).getD i false || c.as'.any (pK 1 i (goes c k.on []))) = false := hn
  show (mfold c (keptM c k.kept (goes c k.on [])) (goes c k.on []) (begins c []) m c.as').o.getD i 0 = 0
  generalize goes c k.on [] = on at *
  generalize keptM c k.kept on = kp at *
  obtain ⟨_, _, _, h4⟩ := mfold_spec c kp on (begins c []) c.as' (fun a h1 => ⟨(ha a h1).1, (ha a h1).2.1, (ha a h1).2.2.1⟩) m hm.o
  rw [h4 i]
  have hl : lit c (i : Int) on (begins c []) = c.as'.any (pK 1 i on) := any_congr fun a h1 => by
    have hb : (begins c []).getD a.step.toNat false = false := by
      show (List.replicate c.steps.toNat false).getD _ false = false
      rw [List.getD_eq_getElem?_getD]
      by_cases h5 : a.step.toNat < c.steps.toNat
      · rw [List.getElem?_eq_getElem (by simpa using h5)]; simp
      · rw [List.getElem?_eq_none (by simpa using h5)]; rfl
    unfold litA pK
    rw [hb]
    cases (a.to'.at' == (i : Int)) <;> cases (a.kind == 1) <;> simp
  rw [hl, hn]
  split <;> first | rfl | skip
  rename_i hh
  refine absurd ?_ hh
  simp only [List.any_eq_true] at ho ⊢
  obtain ⟨a, h1, h2⟩ := ho
  refine ⟨a, h1, ?_⟩
  unfold pB at h2
  simp only [Bool.and_eq_true, beq_iff_eq] at h2 ⊢
  have := ha a h1
  omega
theorem take_any' {α : Type} (p : α → Bool) (l : List α) (z : α) (i : Nat) (h : i < l.length) : (l.take (i + 1)).any p = ((l.take i).any p || p (l.getD i z)) := by
  rw [List.take_succ_eq_append_getElem h, List.any_append]
  simp [List.getD, h]
def WF (pl : Trn → List Int) (c : Cht) (fs : List Int) (s i : Nat) : Bool := (fs.take i).any fun q => (pl (c.ts.getD q.toNat default)).any fun x => x == (s : Int)
@[go_sem] theorem WF_zero (pl : Trn → List Int) (c : Cht) (fs : List Int) (s : Nat) : WF pl c fs s 0 = false := by simp [WF]
theorem WF_succ (pl : Trn → List Int) (c : Cht) (fs : List Int) (s i : Nat) (h : i < fs.length) : WF pl c fs s (i + 1) = (WF pl c fs s i || (pl (c.ts.getD (fs.getD i 0).toNat default)).any fun x => x == (s : Int)) := take_any' _ fs 0 i h
theorem and_not_ne (A b : Bool) (x y : Int) : ((A && !b) && (x != y)) = (A && !(b || (x == y))) := by
  cases A <;> cases b <;> simp [bne]
theorem and_not_not (A b c : Bool) : ((A && !b) && !c) = (A && !(b || c)) := by cases A <;> cases b <;> cases c <;> rfl
theorem WF_hasT {pl : Trn → List Int} {c : Cht} {n : Nat} (hp : ∀ t ∈ c.ts, Places n (pl t)) {fs : List Int} (hfs : Fs c fs) (s : Nat) : WF pl c fs s fs.length = hasT pl (fs.map (wayAt c)) s := by
  unfold WF hasT
  rw [List.take_length, List.any_map]
  refine any_congr fun q hq => ?_
  show _ = hasN (pl (wayAt c q)) s
  obtain ⟨i, hi, rfl⟩ := List.getElem_of_mem hq
  have h1 := hfs i hi
  rw [List.getD_eq_getElem?_getD, List.getElem?_eq_getElem hi] at h1
  simp only [Option.getD_some] at h1
  have h2 := hp _ (getD_mem (l := c.ts) (i := fs[i].toNat) (by omega))
  refine any_congr fun x hx => ?_
  have := h2 x hx
  rw [Bool.eq_iff_iff]; simp; omega
theorem on_law {c : Cht} {k : Mrk} {m : MM} (h : c.ok = true) (hk : k.on.length = c.steps.toNat) (s : Nat) (hs : s < k.on.length) :
    (stepM c k m).1.on.getD s false = ((k.on.getD s false && !(WF Trn.fr c (fires m c k.on) s (fires m c k.on).length)) || WF Trn.to' c (fires m c k.on) s (fires m c k.on).length) := by
  have hg := Cht.ok_Go h
  rw [← hk] at hg
  have hpl := hg.pl
  have hmem : ∀ t ∈ (fires m c k.on).map (wayAt c), t ∈ c.ts := by rw [fires_t]; exact tfires_mem m k.on c.ts
  obtain ⟨hfs, _⟩ := fires_Fs m c k.on
  rw [WF_hasT (fun t ht => (hpl t ht).1) hfs, WF_hasT (fun t ht => (hpl t ht).2) hfs]
  show (goes c k.on (fires m c k.on)).getD s false = _
  rw [goes, spread_eq, spread_eq, spreadT_get, spreadT_get]
  · cases hasT Trn.to' ((fires m c k.on).map (wayAt c)) s <;> cases hasT Trn.fr ((fires m c k.on).map (wayAt c)) s <;> simp
  · intro t ht x hx; have := (hpl t (hmem t ht)).1 x hx; omega
  · intro t ht x hx; rw [spreadT_len]; have := (hpl t (hmem t ht)).2 x hx; omega
theorem chtStep_no {c : Cht} {k : Mrk} {m : MM} (h : ((chtStep c k m).2.i.length : Int) = 0) : (chtStep c k m).1.on = [] := by
  unfold chtStep at h ⊢
  split
  · rename_i hh
    rw [if_pos hh] at h
    simp only [Bool.and_eq_true] at hh
    have := (stepM_six (c := c) (k := k) (MM.ok_six hh.2)).i
    omega
  · rfl
theorem out_law {c : Cht} {k : Mrk} {m : MM} (h : c.ok = true) (hm : m.Six) : (stepM c k m).2.i = m.i ∧ (stepM c k m).2.v = m.v ∧ ∀ i : Nat,
    (stepM c k m).2.o.getD i 0 = if c.as'.any (fun a => a.to'.at' == (i : Int)) then numIs ((stepM c k m).1.kept.getD i false || lit c i (stepM c k m).1.on (begins c (fires m c k.on))) else m.o.getD i 0 := by
  have ha := Cht.acts h
  obtain ⟨h1, h2, _, h4⟩ := mfold_spec c (keptM c k.kept (goes c k.on (fires m c k.on))) (goes c k.on (fires m c k.on)) (begins c (fires m c k.on)) c.as' (fun a h1 => ⟨(ha a h1).1, (ha a h1).2.1, (ha a h1).2.2.1⟩) m hm.o
  refine ⟨h1, h2, fun i => ?_⟩
  have e : c.as'.any (fun a => a.to'.at'.toNat == i) = c.as'.any (fun a => a.to'.at' == (i : Int)) := any_congr fun a h1 => by
    have := ha a h1
    rw [Bool.eq_iff_iff]; simp; omega
  have hc : ∀ b : Bool, cut (numIs b) = numIs b := by intro b; cases b <;> rfl
  show (mfold c (keptM c k.kept (goes c k.on (fires m c k.on))) (goes c k.on (fires m c k.on)) (begins c (fires m c k.on)) m c.as').o.getD i 0 = _
  rw [h4 i, e, hc]; rfl
theorem with_law {c : Cht} {k : Mrk} {m : MM} (h : c.ok = true) (hm : m.Six) {a : GAct} (ha : a ∈ c.as') (i : Nat) (h1 : (a.to'.at' == (i : Int)) = true) (h2 : (a.kind == 1) = true) (h3 : (stepM c k m).1.on.getD a.step.toNat false = true) : (stepM c k m).2.o.getD i 0 = 1 := by
  rw [(out_law h hm).2.2 i, if_pos (List.any_eq_true.2 ⟨a, ha, h1⟩)]
  have : lit c i (stepM c k m).1.on (begins c (fires m c k.on)) = true := List.any_eq_true.2 ⟨a, ha, by unfold litA; rw [h1, h2, h3]; rfl⟩
  rw [this]; simp [numIs]
theorem rest_law {c : Cht} {k : Mrk} {m : MM} (h : c.ok = true) (hk : k.kept.length = 6) (i : Nat) (hd : c.as'.any (fun a => a.to'.at' == (i : Int)) = false) : (stepM c k m).1.kept.getD i false = k.kept.getD i false := by
  rw [kept_law h hk]
  have : ∀ kk on, c.as'.any (pK kk i on) = false := by
    intro kk on
    rw [List.any_eq_false] at hd ⊢
    intro a ha
    have := hd a ha
    unfold pK
    simp only [Bool.not_eq_true] at this
    rw [this]; simp
  rw [this, this]; simp
theorem step_bad {c : Cht} {k : Mrk} {m : MM} (h : c.ok = true) (hm : m.Six) (hk : k.kept.length = 6) (i : Nat) :
    (((!c.as'.any fun a => a.to'.at' == (i : Int)) && ((stepM c k m).2.o.getD i 0 != m.o.getD i 0 || (stepM c k m).1.kept.getD i false != k.kept.getD i false) || (c.as'.any fun a => a.to'.at' == (i : Int)) && (stepM c k m).1.kept.getD i false && (stepM c k m).2.o.getD i 0 != 1 ||
        (stepM c k m).2.v.getD i 0 != m.v.getD i 0 || (stepM c k m).2.i.getD i 0 != m.i.getD i 0) = false) := by
  obtain ⟨h1, h2, h3⟩ := out_law h hm (k := k)
  rw [h1, h2, h3 i]
  cases hd : c.as'.any fun a => a.to'.at' == (i : Int) with
  | false => rw [rest_law h hk i hd]; simp
  | true => cases (stepM c k m).1.kept.getD i false <;> simp [numIs]
end Go.Proofs.YtmicbfojofcigaaGreatDoor
namespace Go.Proofs.YtmicbfojofcigaaGreatDoor
open Go Sg
set_option linter.unusedSectionVars false
variable [Glob]
set_option maxRecDepth 100000
set_option linter.unusedSimpArgs false
set_option linter.unusedVariables false
set_option maxHeartbeats 4000000
@[go_sem] theorem repd2 (z : List PV) : rep 2 z = z ++ z := by simp [rep, List.replicate_succ]
@[go_sem] theorem repd3 (z : List PV) : rep 3 z = z ++ (z ++ (z)) := by simp [rep, List.replicate_succ]
@[go_sem] theorem repd4 (z : List PV) : rep 4 z = z ++ (z ++ (z ++ (z))) := by simp [rep, List.replicate_succ]
@[go_sem] theorem repd6 (z : List PV) : rep 6 z = z ++ (z ++ (z ++ (z ++ (z ++ (z))))) := by simp [rep, List.replicate_succ]
@[go_sem] theorem repd7 (z : List PV) : rep 7 z = z ++ (z ++ (z ++ (z ++ (z ++ (z ++ (z)))))) := by simp [rep, List.replicate_succ]
@[go_sem] theorem repd10 (z : List PV) : rep 10 z = z ++ (z ++ (z ++ (z ++ (z ++ (z ++ (z ++ (z ++ (z ++ (z))))))))) := by simp [rep, List.replicate_succ]
def RdF (f : Nat) (args : List PV) (id : Nat) (bs : List Nat) (q K : Int) (R : PV → Prop) : Prop :=
  CallF Tryz.prog f (.ptr id 0 :: args) [(id, rdObj bs q)] 0 (fun _ o => ∃ v q', R v ∧ q ≤ q' ∧ q' ≤ q + K ∧ o = { rs := [v], u := [(id, some (rdObj bs q'))] })
theorem l2Addr_ok (id : Nat) (bs : List Nat) (q : Int) (hbs : Bs bs) (hq0 : 0 ≤ q) (hq : q + 2 ≤ 1000000000000) : RdF 108 [] id bs q 2 (fun v => ∃ a : AD, v = .agg a.cs) := by
  refine callF_of' Tryz.func108 rfl Tryz.ntmps108 (by simp) ?_
  intro f0 B ns Q hB hns hQ
  have hid : id < B := hB id (by simp [hasKey, lk])
  obtain rfl : ns = [] := List.eq_nil_of_length_eq_zero hns
  refine g_ [0,2] ?_
  refine n_ ?_
  refine wpM_regionK [2] rfl fun Q1 hQ1 => ?_
  refine S_ ?_
  refine call_fn (l := [(id, rdObj bs q)]) (first := []) (cap := []) (ps := [.ptr id 0, .int .i64 3]) (pick_ok id bs q 3 hbs (by omega) (by omega) (by omega)) Tryz.call58 rfl rfl rfl G_ T_ ?_
  rintro out ⟨k1, rfl, h1, h2, h3⟩
  refine S_ ?_
  refine call_fn (l := [(id, rdObj bs (q + 1))]) (first := []) (cap := []) (ps := [.ptr id 0, .int .i64 3]) (pick_ok id bs (q + 1) 3 hbs (by omega) (by omega) (by omega)) Tryz.call58 rfl rfl rfl G_ T_ ?_
  rintro out ⟨k2, rfl, h4, h5, h6⟩
  refine S_ ?_
  refine hQ1 _ _ (S_ ?_);clear hQ1 Q1
  refine wpM_ret ?_
  try refine S_ ?_
  refine hQ _ _ (ret0 [(id, some (rdObj bs (q + 1 + 1)))] rfl rfl rfl (by rw [Tryz.results108] <;> simp (maxSteps := 1000000) -implicitDefEqProofs (disch := omega) only [go_sem] <;> rfl) ⟨_, q + 1 + 1, ⟨⟨1 + k1, k2⟩, rfl⟩, by omega, by omega, rfl⟩ ?_ ?_ ?_ ?_)
  all_goals simp -implicitDefEqProofs (disch := omega) only [go_sem, rdObj, true_or, or_true]
theorem memOpen_ok : CallF Tryz.prog 111 [] [] 3 (fun ns o => ∃ x y z, ns = [x, y, z] ∧ o = { rs := [.agg (ocs x y z)], nw := (⟨List.replicate 6 0, List.replicate 6 0, List.replicate 6 0⟩ : MM).ol x y z }) := by
  refine callF_of' Tryz.func111 rfl Tryz.ntmps111 (by simp) ?_
  intro f0 B ns Q hB hns hQ
  obtain ⟨x, y, z, rfl⟩ : ∃ x y z, ns = [x, y, z] := by
    match ns, hns with
    | [x, y, z], _ => exact ⟨x, y, z, rfl⟩
  refine g_ [0] ?_
  refine n_ ?_
  refine dr_ mixed [0] 3 1 [B, B + 1, B + 2, B + 3] [⟨[],[],[],[1],false⟩,⟨[],[],[],[2],false⟩,⟨[],[],[],[3],false⟩,⟨[1,2,3],[],[],[],false⟩,⟨[0,4],[0],[0],[],false⟩] [0,1,2,3,4] [[],[],[],[0,1,2],[0,1,2,3]] 4 ?_
  intro O A K hO hA hK;simp only [atL_cons,atL_nil,Nat.reduceAdd,Nat.zero_add] at hO hA
  refine SO_ ?_
  refine hK _ (S_ ?_);clear hK K hO hA O A
  have e6 : [PV.int .i64 0, .int .i64 0, .int .i64 0, .int .i64 0, .int .i64 0, .int .i64 0] = ints (List.replicate 6 0) := rfl
  rw [e6]
  refine wpM_ret ?_
  try refine S_ ?_
  refine hQ _ _ (retK [B + 1, B + 2, B + 3] [] ((⟨List.replicate 6 0, List.replicate 6 0, List.replicate 6 0⟩ : MM).ol x y z) rfl rfl rfl (by rw [Tryz.results111] <;> simp (maxSteps := 1000000) -implicitDefEqProofs (disch := omega) only [go_sem] <;> rfl) ?_ ⟨x, y, z, rfl, rfl⟩ ?_ ?_ ?_ ?_ ?_ ?_)
  all_goals (first | (simp -implicitDefEqProofs (disch := omega) only [go_sem, List.nodup_cons, List.nodup_nil, true_or, or_true, List.mem_cons, List.not_mem_nil]; done) | (simp -implicitDefEqProofs (disch := omega) only [go_sem, List.nodup_cons, List.nodup_nil, true_or, or_true, List.mem_cons, List.not_mem_nil]; omega))
theorem l2Mem_ok (id : Nat) (bs : List Nat) (q : Int) (hbs : Bs bs) (hq0 : 0 ≤ q) (hq : q + 12 ≤ 1000000000000) : CallF Tryz.prog 78 [.ptr id 0] [(id, rdObj bs q)] 3 (fun ns o => ∃ x y z m q', ns = [x, y, z] ∧ MM.Six m ∧ q ≤ q' ∧ q' ≤ q + 12 ∧ o = { rs := [.agg (ocs x y z)], u := [(id, some (rdObj bs q'))], nw := m.ol x y z }) := by
  refine callF_of' Tryz.func78 rfl Tryz.ntmps78 (by simp) ?_
  intro f0 B ns Q hB hns hQ
  have hid : id < B := hB id (by simp [hasKey, lk])
  obtain ⟨x, y, z, rfl⟩ : ∃ x y z, ns = [x, y, z] := by
    match ns, hns with
    | [x, y, z], _ => exact ⟨x, y, z, rfl⟩
  refine g_ [0,2] ?_
  refine n_ ?_
  refine wpM_regionK [0,2,3] rfl fun Q1 hQ1 => ?_
  refine S_ ?_
  refine call_fn (l := []) (first := []) (cap := []) (ps := []) (memOpen_ok) Tryz.call111 rfl rfl rfl G_ T_ ?_
  rintro out ⟨x', y', z', ⟨⟩, rfl⟩
  refine S_ ?_
  refine hQ1 _ _ (S_ ?_);clear hQ1 Q1
  refine g_ [0,2,3,4] ?_
  refine n_ ?_
  refine wpM_loopS (fun s n s' => ∃ (i0 M0 : Nat) (m : MM) (q' : Int), i0 + n = 4 ∧ s.M ≤ M0 ∧ (MM.Six m ∧ q ≤ q' ∧ q' ≤ q + 3 * (i0 : Int)) ∧ s' = { s with env := setE 4 (.int .i64 (i0 : Nat)) s.env, l := setl id (rdObj bs q') (setl (B + 1) (.cells 3 (ints m.i)) (setl (B + 2) (.cells 3 (ints m.o)) (setl (B + 3) (.cells 3 (ints m.v)) s.l))), M := M0 }) (4) ?_ ?_
  ·
    refine .of' _ _ ⟨0, _, (⟨List.replicate 6 0, List.replicate 6 0, List.replicate 6 0⟩ : MM), q, by omega, Nat.le_refl _, ⟨⟨rfl, rfl, rfl⟩, by omega, by omega⟩, rfl⟩ ?_ ?_ ?_ <;> exact L_
  rintro n0 s' ⟨i0, M0, m, q', hi0, hM0, hv0, rfl⟩
  try dsimp only at hM0
  try refine S_ ?_
  refine g_ [0,2,3,4,7] ?_
  refine c_ (fun hc0 => ?_) fun hc0 => ?_
  ·
    have hl0 : i0 < 4 := by omega
    obtain ⟨hm6, hqa, hqb⟩ := hv0
    have e1 := hm6.i
    have e2 := hm6.o
    have e3 := hm6.v
    refine n_ ?_
    refine dr_ mixed [0,2,3,4] 1 3 [B + 4, B + 1, id, M0] [⟨[3],[],[],[],false⟩,⟨[10],[0],[],[],false⟩,⟨[4],[],[],[],false⟩,⟨[0],[],[],[],false⟩,⟨[],[],[],[3],false⟩,⟨[13,14],[2,3],[2],[],true⟩,⟨[11,12],[],[],[],false⟩,⟨[15,16],[1],[1],[],false⟩] [0,1,2,3,4,5,6,7] [[],[0],[],[],[],[3,4],[0,1,2,3,4,5],[0,1,2,3,4,5,6]] 4 (htbl := by simp; omega) (hnm := by simp) ?_
    intro O A K hO hA hK;simp only [atL_cons,atL_nil,Nat.reduceAdd,Nat.zero_add] at hO hA
    refine SO_ ?_
    refine loud_fn (first := []) (cap := []) (ps := [.ptr id 0, .sl 3 M0 0 7]) (l := [(id, rdObj bs (q')), (M0, .cells 3 (ints [0, 0, 1, 1, 2, 5, -1]))]) (num_ok id M0 bs (q') [0, 0, 1, 1, 2, 5, -1] 7 rfl (by omega) (by omega) (by omega) hbs (by omega) (by omega)) Tryz.call41 rfl rfl F_ (subG_spec (by simp -implicitDefEqProofs (disch := omega) only [go_sem, ints, List.map_cons, List.map_nil])) rfl ?_
    rintro out ⟨k1, rfl, hk1⟩
    refine ⟨rfl, ?_⟩
    refine SO_ ?_
    refine hK _ (S_ ?_);clear hK K hO hA O A
    refine n_ ?_
    refine dr_ mixed [0,2,3,4] 1 3 [B + 4, B + 2, id, M0 + 1] [⟨[3],[],[],[],false⟩,⟨[17],[0],[],[],false⟩,⟨[4],[],[],[],false⟩,⟨[0],[],[],[],false⟩,⟨[],[],[],[3],false⟩,⟨[20,21],[2,3],[2],[],true⟩,⟨[18,19],[],[],[],false⟩,⟨[22,23],[1],[1],[],false⟩] [0,1,2,3,4,5,6,7] [[],[0],[],[],[],[3,4],[0,1,2,3,4,5],[0,1,2,3,4,5,6]] 4 (htbl := by simp; omega) (hnm := by simp) ?_
    intro O A K hO hA hK;simp only [atL_cons,atL_nil,Nat.reduceAdd,Nat.zero_add] at hO hA
    refine SO_ ?_
    refine loud_fn (first := []) (cap := []) (ps := [.ptr id 0, .sl 3 (M0 + 1) 0 4]) (l := [(id, rdObj bs (q' + 1)), ((M0 + 1), .cells 3 (ints [0, 0, 1, 3]))]) (num_ok id (M0 + 1) bs (q' + 1) [0, 0, 1, 3] 4 rfl (by omega) (by omega) (by omega) hbs (by omega) (by omega)) Tryz.call41 rfl rfl F_ (subG_spec (by simp -implicitDefEqProofs (disch := omega) only [go_sem, ints, List.map_cons, List.map_nil])) rfl ?_
    rintro out ⟨k2, rfl, hk2⟩
    refine ⟨rfl, ?_⟩
    refine SO_ ?_
    refine hK _ (S_ ?_);clear hK K hO hA O A
    refine dr_ mixed [0,2,3,4] 1 3 [B + 4, B + 3, id, M0 + 2] [⟨[3],[],[],[],false⟩,⟨[24],[0],[],[],false⟩,⟨[4],[],[],[],false⟩,⟨[0],[],[],[],false⟩,⟨[],[],[],[3],false⟩,⟨[27,28],[2,3],[2],[],true⟩,⟨[25,26],[],[],[],false⟩,⟨[29,30],[1],[1],[],false⟩] [0,1,2,3,4,5,6,7] [[],[0],[],[],[],[3,4],[0,1,2,3,4,5],[0,1,2,3,4,5,6]] 4 (htbl := by simp; omega) (hnm := by simp) ?_
    intro O A K hO hA hK;simp only [atL_cons,atL_nil,Nat.reduceAdd,Nat.zero_add] at hO hA
    refine SO_ ?_
    refine loud_fn (first := []) (cap := []) (ps := [.ptr id 0, .sl 3 (M0 + 2) 0 6]) (l := [(id, rdObj bs (q' + 1 + 1)), ((M0 + 2), .cells 3 (ints [0, 0, 1, 2, 7, 1000000]))]) (num_ok id (M0 + 2) bs (q' + 1 + 1) [0, 0, 1, 2, 7, 1000000] 6 rfl (by omega) (by omega) (by omega) hbs (by omega) (by omega)) Tryz.call41 rfl rfl F_ (subG_spec (by simp -implicitDefEqProofs (disch := omega) only [go_sem, ints, List.map_cons, List.map_nil])) rfl ?_
    rintro out ⟨k3, rfl, hk3⟩
    refine ⟨rfl, ?_⟩
    refine SO_ ?_
    refine hK _ (S_ ?_);clear hK K hO hA O A
    refine g_ [0,2,3,4] ?_
    refine .of' _ _ ⟨n0 - 1, by omega, i0 + 1, _, ⟨m.i.set i0 k1, m.o.set i0 k2, m.v.set i0 k3⟩, q' + 1 + 1 + 1, by omega, M_, ?_, rfl⟩ L_ L_ L_
    exact ⟨⟨by simp [e1], by simp [e2], by simp [e3]⟩, by omega, by omega⟩
  refine g_ [2] ?_
  refine wpM_ret ?_
  try refine S_ ?_
  obtain ⟨hm6, hqa, hqb⟩ := hv0
  have e1 := hm6.i
  have e2 := hm6.o
  have e3 := hm6.v
  refine hQ _ _ (retK [B + 1, B + 2, B + 3] [(id, some (rdObj bs q'))] (m.ol x y z) rfl rfl rfl (by rw [Tryz.results78] <;> simp (maxSteps := 1000000) -implicitDefEqProofs (disch := omega) only [go_sem] <;> rfl) ?_ ⟨x, y, z, m, q', rfl, hm6, hqa, by omega, rfl⟩ ?_ ?_ ?_ ?_ ?_ ?_)
  all_goals (simp -implicitDefEqProofs (disch := omega) only [go_sem, rdObj, List.nodup_cons, List.nodup_nil, true_or, or_true, List.mem_cons, List.not_mem_nil] <;> omega)
theorem l2MemF_ok (id : Nat) (bs : List Nat) (q : Int) (hbs : Bs bs) (hq0 : 0 ≤ q) (hq : q + 12 ≤ 1000000000000) : RdF 78 [] id bs q 12 (fun v => ∃ m : MM, m.Six ∧ v = .agg m.cs) := by
  refine callF_of' Tryz.func78 rfl Tryz.ntmps78 (by simp) ?_
  intro f0 B ns Q hB hns hQ
  have hid : id < B := hB id (by simp [hasKey, lk])
  obtain rfl : ns = [] := List.eq_nil_of_length_eq_zero hns
  refine g_ [0,2] ?_
  refine n_ ?_
  refine wpM_regionK [0,2,3] rfl fun Q1 hQ1 => ?_
  refine S_ ?_
  refine call_fn (l := []) (first := []) (cap := []) (ps := []) (memOpen_ok) Tryz.call111 rfl rfl rfl G_ T_ ?_
  rintro out ⟨x', y', z', ⟨⟩, rfl⟩
  refine S_ ?_
  refine hQ1 _ _ (S_ ?_);clear hQ1 Q1
  refine g_ [0,2,3,4] ?_
  refine n_ ?_
  refine wpM_loopS (fun s n s' => ∃ (i0 M0 : Nat) (m : MM) (q' : Int), i0 + n = 4 ∧ s.M ≤ M0 ∧ (MM.Six m ∧ q ≤ q' ∧ q' ≤ q + 3 * (i0 : Int)) ∧ s' = { s with env := setE 4 (.int .i64 (i0 : Nat)) s.env, l := setl id (rdObj bs q') (setl (B + 1) (.cells 3 (ints m.i)) (setl (B + 2) (.cells 3 (ints m.o)) (setl (B + 3) (.cells 3 (ints m.v)) s.l))), M := M0 }) (4) ?_ ?_
  ·
    refine .of' _ _ ⟨0, _, (⟨List.replicate 6 0, List.replicate 6 0, List.replicate 6 0⟩ : MM), q, by omega, Nat.le_refl _, ⟨⟨rfl, rfl, rfl⟩, by omega, by omega⟩, rfl⟩ ?_ ?_ ?_ <;> exact L_
  rintro n0 s' ⟨i0, M0, m, q', hi0, hM0, hv0, rfl⟩
  try dsimp only at hM0
  try refine S_ ?_
  refine g_ [0,2,3,4,7] ?_
  refine c_ (fun hc0 => ?_) fun hc0 => ?_
  ·
    have hl0 : i0 < 4 := by omega
    obtain ⟨hm6, hqa, hqb⟩ := hv0
    have e1 := hm6.i
    have e2 := hm6.o
    have e3 := hm6.v
    refine n_ ?_
    refine dr_ mixed [0,2,3,4] 1 3 [B + 4, B + 1, id, M0] [⟨[3],[],[],[],false⟩,⟨[10],[0],[],[],false⟩,⟨[4],[],[],[],false⟩,⟨[0],[],[],[],false⟩,⟨[],[],[],[3],false⟩,⟨[13,14],[2,3],[2],[],true⟩,⟨[11,12],[],[],[],false⟩,⟨[15,16],[1],[1],[],false⟩] [0,1,2,3,4,5,6,7] [[],[0],[],[],[],[3,4],[0,1,2,3,4,5],[0,1,2,3,4,5,6]] 4 (htbl := by simp; omega) (hnm := by simp) ?_
    intro O A K hO hA hK;simp only [atL_cons,atL_nil,Nat.reduceAdd,Nat.zero_add] at hO hA
    refine SO_ ?_
    refine loud_fn (first := []) (cap := []) (ps := [.ptr id 0, .sl 3 M0 0 7]) (l := [(id, rdObj bs (q')), (M0, .cells 3 (ints [0, 0, 1, 1, 2, 5, -1]))]) (num_ok id M0 bs (q') [0, 0, 1, 1, 2, 5, -1] 7 rfl (by omega) (by omega) (by omega) hbs (by omega) (by omega)) Tryz.call41 rfl rfl F_ (subG_spec (by simp -implicitDefEqProofs (disch := omega) only [go_sem, ints, List.map_cons, List.map_nil])) rfl ?_
    rintro out ⟨k1, rfl, hk1⟩
    refine ⟨rfl, ?_⟩
    refine SO_ ?_
    refine hK _ (S_ ?_);clear hK K hO hA O A
    refine n_ ?_
    refine dr_ mixed [0,2,3,4] 1 3 [B + 4, B + 2, id, M0 + 1] [⟨[3],[],[],[],false⟩,⟨[17],[0],[],[],false⟩,⟨[4],[],[],[],false⟩,⟨[0],[],[],[],false⟩,⟨[],[],[],[3],false⟩,⟨[20,21],[2,3],[2],[],true⟩,⟨[18,19],[],[],[],false⟩,⟨[22,23],[1],[1],[],false⟩] [0,1,2,3,4,5,6,7] [[],[0],[],[],[],[3,4],[0,1,2,3,4,5],[0,1,2,3,4,5,6]] 4 (htbl := by simp; omega) (hnm := by simp) ?_
    intro O A K hO hA hK;simp only [atL_cons,atL_nil,Nat.reduceAdd,Nat.zero_add] at hO hA
    refine SO_ ?_
    refine loud_fn (first := []) (cap := []) (ps := [.ptr id 0, .sl 3 (M0 + 1) 0 4]) (l := [(id, rdObj bs (q' + 1)), ((M0 + 1), .cells 3 (ints [0, 0, 1, 3]))]) (num_ok id (M0 + 1) bs (q' + 1) [0, 0, 1, 3] 4 rfl (by omega) (by omega) (by omega) hbs (by omega) (by omega)) Tryz.call41 rfl rfl F_ (subG_spec (by simp -implicitDefEqProofs (disch := omega) only [go_sem, ints, List.map_cons, List.map_nil])) rfl ?_
    rintro out ⟨k2, rfl, hk2⟩
    refine ⟨rfl, ?_⟩
    refine SO_ ?_
    refine hK _ (S_ ?_);clear hK K hO hA O A
    refine dr_ mixed [0,2,3,4] 1 3 [B + 4, B + 3, id, M0 + 2] [⟨[3],[],[],[],false⟩,⟨[24],[0],[],[],false⟩,⟨[4],[],[],[],false⟩,⟨[0],[],[],[],false⟩,⟨[],[],[],[3],false⟩,⟨[27,28],[2,3],[2],[],true⟩,⟨[25,26],[],[],[],false⟩,⟨[29,30],[1],[1],[],false⟩] [0,1,2,3,4,5,6,7] [[],[0],[],[],[],[3,4],[0,1,2,3,4,5],[0,1,2,3,4,5,6]] 4 (htbl := by simp; omega) (hnm := by simp) ?_
    intro O A K hO hA hK;simp only [atL_cons,atL_nil,Nat.reduceAdd,Nat.zero_add] at hO hA
    refine SO_ ?_
    refine loud_fn (first := []) (cap := []) (ps := [.ptr id 0, .sl 3 (M0 + 2) 0 6]) (l := [(id, rdObj bs (q' + 1 + 1)), ((M0 + 2), .cells 3 (ints [0, 0, 1, 2, 7, 1000000]))]) (num_ok id (M0 + 2) bs (q' + 1 + 1) [0, 0, 1, 2, 7, 1000000] 6 rfl (by omega) (by omega) (by omega) hbs (by omega) (by omega)) Tryz.call41 rfl rfl F_ (subG_spec (by simp -implicitDefEqProofs (disch := omega) only [go_sem, ints, List.map_cons, List.map_nil])) rfl ?_
    rintro out ⟨k3, rfl, hk3⟩
    refine ⟨rfl, ?_⟩
    refine SO_ ?_
    refine hK _ (S_ ?_);clear hK K hO hA O A
    refine g_ [0,2,3,4] ?_
    refine .of' _ _ ⟨n0 - 1, by omega, i0 + 1, _, ⟨m.i.set i0 k1, m.o.set i0 k2, m.v.set i0 k3⟩, q' + 1 + 1 + 1, by omega, M_, ?_, rfl⟩ L_ L_ L_
    exact ⟨⟨by simp [e1], by simp [e2], by simp [e3]⟩, by omega, by omega⟩
  refine n_ ?_
  obtain ⟨hm6, hqa, hqb⟩ := hv0
  refine wpM_frz [B + 1, B + 2, B + 3] (m.tb (B + 1) (B + 2) (B + 3)) (by intro q hq; simp at hq; rcases hq with rfl | rfl | rfl <;> simp -implicitDefEqProofs (disch := omega) only [go_sem]) (m.frz hm6 T_ T_ T_) ?_
  simp -implicitDefEqProofs (disch := omega) only [go_sem, MM.tb, rdObj]
  refine g_ [2] ?_
  refine wpM_ret ?_
  try refine S_ ?_
  refine hQ _ _ (ret0 [(id, some (rdObj bs q'))] rfl rfl rfl (by rw [Tryz.results78] <;> simp (maxSteps := 1000000) -implicitDefEqProofs (disch := omega) only [go_sem] <;> rfl) ⟨_, q', ⟨m, hm6, rfl⟩, hqa, by omega, rfl⟩ ?_ ?_ ?_ ?_)
  all_goals simp -implicitDefEqProofs (disch := omega) only [go_sem, rdObj, true_or, or_true]
def tb3 (x na : Nat) (a : List Int) (y nb : Nat) (b : List Int) (z nc : Nat) (c : List Int) : List (TypeId × Nat × Nat × Nat × List (List PV)) := [(3, x, 0, na, rowsI (a.take na)), (3, y, 0, nb, rowsI (b.take nb)), (3, z, 0, nc, rowsI (c.take nc))]
theorem rowsOf_intsP {f : Nat → Option AObj} {id n : Nat} {T : TypeId} {l : List Int} (h : f id = some (.cells T (ints l))) (hn : n ≤ l.length) : RowsOf Tryz.prog f 3 id 0 n (rowsI (l.take n)) := by
  refine ⟨by rw [cellsOf3]; omega, by simp [rowsI]; omega, ?_, T, _, h, ?_, ?_⟩
  · intro c hc
    simp only [rowsI, List.mem_map] at hc
    obtain ⟨x, _, rfl⟩ := hc
    rw [cellsOf3]; exact ⟨rfl, rfl⟩
  · rw [cellsOf3]; simp [ints]; omega
  · rw [cellsOf3, rowsI_flat]; simp [ints, List.map_take]
theorem frz3 {f : Nat → Option AObj} {x y z na nb nc : Nat} {a b c : List Int} (hx : f x = some (.cells 3 (ints a))) (hy : f y = some (.cells 3 (ints b))) (hz : f z = some (.cells 3 (ints c))) (ha : na ≤ a.length) (hb : nb ≤ b.length) (hc : nc ≤ c.length) :
    ∀ q ∈ tb3 x na a y nb b z nc c, q.2.1 ∈ [x, y, z] ∧ RowsOf Tryz.prog f q.1 q.2.1 q.2.2.1 q.2.2.2.1 q.2.2.2.2 := by
  intro q hq
  simp only [tb3, List.mem_cons, List.not_mem_nil, or_false] at hq
  rcases hq with rfl | rfl | rfl
  · exact ⟨by simp, rowsOf_intsP hx ha⟩
  · exact ⟨by simp, rowsOf_intsP hy hb⟩
  · exact ⟨by simp, rowsOf_intsP hz hc⟩
theorem l2MemBent_ok (id : Nat) (bs : List Nat) (q : Int) (hbs : Bs bs) (hq0 : 0 ≤ q) (hq : q + 13 ≤ 1000000000000) : RdF 40 [] id bs q 13 (fun v => ∃ m : MM, m.Sm ∧ v = .agg m.cs) := by
  refine callF_of' Tryz.func40 rfl Tryz.ntmps40 (by simp) ?_
  intro f0 B ns Q hB hns hQ
  have hid : id < B := hB id (by simp [hasKey, lk])
  obtain rfl : ns = [] := List.eq_nil_of_length_eq_zero hns
  refine g_ [0,2] ?_
  refine n_ ?_
  refine wpM_regionK [0,2,3] rfl fun Q1 hQ1 => ?_
  refine S_ ?_
  refine call_fn (l := [(id, rdObj bs q)]) (first := []) (cap := []) (ps := [.ptr id 0]) (l2Mem_ok id bs q hbs hq0 (by omega)) Tryz.call78 rfl rfl rfl G_ T_ ?_
  rintro out ⟨x', y', z', m, q', ⟨⟩, hm6, hqa, hqb, rfl⟩
  refine S_ ?_
  have e1 := hm6.i
  have e2 := hm6.o
  have e3 := hm6.v
  refine hQ1 _ _ (S_ ?_);clear hQ1 Q1
  refine n_ ?_
  refine wpM_regionK [2,3,7] rfl fun Q1 hQ1 => ?_
  refine S_ ?_
  refine call_fn (l := [(id, rdObj bs q')]) (first := []) (cap := []) (ps := [.ptr id 0, .int .i64 30]) (pick_ok id bs q' 30 hbs (by omega) (by omega) (by omega)) Tryz.call58 rfl rfl rfl G_ T_ ?_
  rintro out ⟨k1, rfl, h1, h2, h3⟩
  refine S_ ?_
  refine hQ1 _ _ (S_ ?_);clear hQ1 Q1
  refine g_ [2,3,7,8] ?_
  refine c_ (fun hc0 => ?_) fun hc0 => ?_
  ·
    refine g_ [2,3] ?_
    refine wpM_frz [B + 1, B + 2, B + 3] (tb3 (B + 1) 2 m.i (B + 2) 6 m.o (B + 3) 6 m.v) (by intro q hq; simp at hq; rcases hq with rfl | rfl | rfl <;> simp -implicitDefEqProofs (disch := omega) only [go_sem]) (frz3 T_ T_ T_ (by omega) (by omega) (by omega)) ?_
    simp -implicitDefEqProofs (disch := omega) only [go_sem, tb3, rdObj]
    refine g_ [2] ?_
    refine wpM_ret ?_
    try refine S_ ?_
    refine hQ _ _ (ret0 [(id, some (rdObj bs (q' + 1)))] rfl rfl rfl (by rw [Tryz.results40] <;> simp (maxSteps := 1000000) -implicitDefEqProofs (disch := omega) only [go_sem] <;> rfl) ⟨_, q' + 1, ⟨⟨_, _, _⟩, ⟨?_, ?_, ?_⟩, rfl⟩, by omega, by omega, rfl⟩ ?_ ?_ ?_ ?_)
    all_goals (first | (simp -implicitDefEqProofs (disch := omega) only [go_sem, rdObj, true_or, or_true]; done) | (simp only [List.length_take, List.length_set, List.length_append, List.length_cons, List.length_nil]; omega))
  refine g_ [2,3,7,14] ?_
  refine c_ (fun hc1 => ?_) fun hc1 => ?_
  ·
    refine g_ [2,3] ?_
    refine wpM_frz [B + 1, B + 2, B + 3] (tb3 (B + 1) 6 m.i (B + 2) 6 m.o (B + 3) 6 (m.v.set 0 1000001)) (by intro q hq; simp at hq; rcases hq with rfl | rfl | rfl <;> simp -implicitDefEqProofs (disch := omega) only [go_sem]) (frz3 T_ T_ T_ (by omega) (by omega) (by simp; omega)) ?_
    simp -implicitDefEqProofs (disch := omega) only [go_sem, tb3, rdObj]
    refine g_ [2] ?_
    refine wpM_ret ?_
    try refine S_ ?_
    refine hQ _ _ (ret0 [(id, some (rdObj bs (q' + 1)))] rfl rfl rfl (by rw [Tryz.results40] <;> simp (maxSteps := 1000000) -implicitDefEqProofs (disch := omega) only [go_sem] <;> rfl) ⟨_, q' + 1, ⟨⟨_, _, _⟩, ⟨?_, ?_, ?_⟩, rfl⟩, by omega, by omega, rfl⟩ ?_ ?_ ?_ ?_)
    all_goals (first | (simp -implicitDefEqProofs (disch := omega) only [go_sem, rdObj, true_or, or_true]; done) | (simp only [List.length_take, List.length_set, List.length_append, List.length_cons, List.length_nil]; omega))
  refine g_ [2,3,19] ?_
  refine c_ (fun hc2 => ?_) fun hc2 => ?_
  ·
    refine g_ [2,3] ?_
    refine wpM_frz [B + 1, B + 6, B + 3] (tb3 (B + 1) 6 m.i (B + 6) 7 (m.o ++ [0]) (B + 3) 6 m.v) (by intro q hq; simp at hq; rcases hq with rfl | rfl | rfl <;> simp -implicitDefEqProofs (disch := omega) only [go_sem]) (frz3 T_ T_ T_ (by omega) (by simp; omega) (by omega)) ?_
    simp -implicitDefEqProofs (disch := omega) only [go_sem, tb3, rdObj]
    refine g_ [2] ?_
    refine wpM_ret ?_
    try refine S_ ?_
    refine hQ _ _ (ret0 [(id, some (rdObj bs (q' + 1)))] rfl rfl rfl (by rw [Tryz.results40] <;> simp (maxSteps := 1000000) -implicitDefEqProofs (disch := omega) only [go_sem] <;> rfl) ⟨_, q' + 1, ⟨⟨_, _, _⟩, ⟨?_, ?_, ?_⟩, rfl⟩, by omega, by omega, rfl⟩ ?_ ?_ ?_ ?_)
    all_goals (first | (simp -implicitDefEqProofs (disch := omega) only [go_sem, rdObj, true_or, or_true]; done) | (simp only [List.length_take, List.length_set, List.length_append, List.length_cons, List.length_nil]; omega))
  refine wpM_frz [B + 1, B + 2, B + 3] (tb3 (B + 1) 6 m.i (B + 2) 6 m.o (B + 3) 6 m.v) (by intro q hq; simp at hq; rcases hq with rfl | rfl | rfl <;> simp -implicitDefEqProofs (disch := omega) only [go_sem]) (frz3 T_ T_ T_ (by omega) (by omega) (by omega)) ?_
  simp -implicitDefEqProofs (disch := omega) only [go_sem, tb3, rdObj]
  refine g_ [2] ?_
  refine wpM_ret ?_
  try refine S_ ?_
  refine hQ _ _ (ret0 [(id, some (rdObj bs (q' + 1)))] rfl rfl rfl (by rw [Tryz.results40] <;> simp (maxSteps := 1000000) -implicitDefEqProofs (disch := omega) only [go_sem] <;> rfl) ⟨_, q' + 1, ⟨⟨_, _, _⟩, ⟨?_, ?_, ?_⟩, rfl⟩, by omega, by omega, rfl⟩ ?_ ?_ ?_ ?_)
  all_goals (first | (simp -implicitDefEqProofs (disch := omega) only [go_sem, rdObj, true_or, or_true]; done) | (simp only [List.length_take, List.length_set, List.length_append, List.length_cons, List.length_nil]; omega))
theorem l2AddrBent_ok (id : Nat) (bs : List Nat) (q : Int) (hbs : Bs bs) (hq0 : 0 ≤ q) (hq : q + 4 ≤ 1000000000000) : RdF 75 [] id bs q 4 (fun v => ∃ a : AD, v = .agg a.cs) := by
  refine callF_of' Tryz.func75 rfl Tryz.ntmps75 (by simp) ?_
  intro f0 B ns Q hB hns hQ
  have hid : id < B := hB id (by simp [hasKey, lk])
  obtain rfl : ns = [] := List.eq_nil_of_length_eq_zero hns
  refine g_ [0,2] ?_
  refine n_ ?_
  refine wpM_regionK [0,2,3] rfl fun Q1 hQ1 => ?_
  refine S_ ?_
  refine call_fn (l := [(id, rdObj bs q)]) (first := []) (cap := []) (ps := [.ptr id 0]) (l2Addr_ok id bs q hbs hq0 (by omega)) Tryz.call108 rfl rfl rfl G_ T_ ?_
  rintro out ⟨_, q', ⟨a, rfl⟩, hqa, hqb, rfl⟩
  refine S_ ?_
  refine hQ1 _ _ (S_ ?_);clear hQ1 Q1
  refine n_ ?_
  refine wpM_regionK [0,2,3,7] rfl fun Q1 hQ1 => ?_
  refine S_ ?_
  refine call_fn (l := [(id, rdObj bs q')]) (first := []) (cap := []) (ps := [.ptr id 0, .int .i64 16]) (pick_ok id bs q' 16 hbs (by omega) (by omega) (by omega)) Tryz.call58 rfl rfl rfl G_ T_ ?_
  rintro out ⟨k1, rfl, h1, h2, h3⟩
  refine S_ ?_
  refine hQ1 _ _ (S_ ?_);clear hQ1 Q1
  refine g_ [0,2,3,7,8] ?_
  refine c_ (fun hc0 => ?_) fun hc0 => ?_
  ·
    refine wpM_regionK [2,3] rfl fun Q1 hQ1 => ?_
    refine S_ ?_
    refine call_fn (l := [(id, rdObj bs (q' + 1)), (B + 2, .cells 3 (ints [0, 4, -1]))]) (first := []) (cap := []) (ps := [.ptr id 0, .sl 3 (B + 2) 0 3]) (num_ok id (B + 2) bs (q' + 1) [0, 4, -1] 3 rfl (by omega) (by omega) (by omega) hbs (by omega) (by omega)) Tryz.call41 rfl rfl rfl G_ (by simp -implicitDefEqProofs (disch := omega) only [go_sem, ints, List.map_cons, List.map_nil]) ?_
    rintro out ⟨k2, rfl, h4⟩
    refine S_ ?_
    refine hQ1 _ _ (S_ ?_);clear hQ1 Q1
    refine g_ [2] ?_
    refine wpM_ret ?_
    try refine S_ ?_
    first
    | refine hQ _ _ (ret0 [(id, some (rdObj bs (q' + 1 + 1)))] rfl rfl rfl (by rw [Tryz.results75] <;> simp (maxSteps := 1000000) -implicitDefEqProofs (disch := omega) only [go_sem] <;> rfl) ⟨_, q' + 1 + 1, ⟨⟨_, _⟩, rfl⟩, by omega, by omega, rfl⟩ ?_ ?_ ?_ ?_) <;> (simp -implicitDefEqProofs (disch := omega) only [go_sem, rdObj, true_or, or_true]; done)
    | refine hQ _ _ (ret0 [(id, some (rdObj bs (q' + 1)))] rfl rfl rfl (by rw [Tryz.results75] <;> simp (maxSteps := 1000000) -implicitDefEqProofs (disch := omega) only [go_sem] <;> rfl) ⟨_, q' + 1, ⟨⟨_, _⟩, rfl⟩, by omega, by omega, rfl⟩ ?_ ?_ ?_ ?_) <;> (simp -implicitDefEqProofs (disch := omega) only [go_sem, rdObj, true_or, or_true]; done)
  refine g_ [0,2,3,14] ?_
  refine c_ (fun hc1 => ?_) fun hc1 => ?_
  ·
    refine wpM_regionK [2,3] rfl fun Q1 hQ1 => ?_
    refine S_ ?_
    refine call_fn (l := [(id, rdObj bs (q' + 1)), (B + 2, .cells 3 (ints [-1, 6, 5]))]) (first := []) (cap := []) (ps := [.ptr id 0, .sl 3 (B + 2) 0 3]) (num_ok id (B + 2) bs (q' + 1) [-1, 6, 5] 3 rfl (by omega) (by omega) (by omega) hbs (by omega) (by omega)) Tryz.call41 rfl rfl rfl G_ (by simp -implicitDefEqProofs (disch := omega) only [go_sem, ints, List.map_cons, List.map_nil]) ?_
    rintro out ⟨k2, rfl, h4⟩
    refine S_ ?_
    refine hQ1 _ _ (S_ ?_);clear hQ1 Q1
    refine g_ [2] ?_
    refine wpM_ret ?_
    try refine S_ ?_
    first
    | refine hQ _ _ (ret0 [(id, some (rdObj bs (q' + 1 + 1)))] rfl rfl rfl (by rw [Tryz.results75] <;> simp (maxSteps := 1000000) -implicitDefEqProofs (disch := omega) only [go_sem] <;> rfl) ⟨_, q' + 1 + 1, ⟨⟨_, _⟩, rfl⟩, by omega, by omega, rfl⟩ ?_ ?_ ?_ ?_) <;> (simp -implicitDefEqProofs (disch := omega) only [go_sem, rdObj, true_or, or_true]; done)
    | refine hQ _ _ (ret0 [(id, some (rdObj bs (q' + 1)))] rfl rfl rfl (by rw [Tryz.results75] <;> simp (maxSteps := 1000000) -implicitDefEqProofs (disch := omega) only [go_sem] <;> rfl) ⟨_, q' + 1, ⟨⟨_, _⟩, rfl⟩, by omega, by omega, rfl⟩ ?_ ?_ ?_ ?_) <;> (simp -implicitDefEqProofs (disch := omega) only [go_sem, rdObj, true_or, or_true]; done)
  refine g_ [2] ?_
  refine wpM_ret ?_
  try refine S_ ?_
  first
  | refine hQ _ _ (ret0 [(id, some (rdObj bs (q' + 1 + 1)))] rfl rfl rfl (by rw [Tryz.results75] <;> simp (maxSteps := 1000000) -implicitDefEqProofs (disch := omega) only [go_sem] <;> rfl) ⟨_, q' + 1 + 1, ⟨⟨_, _⟩, rfl⟩, by omega, by omega, rfl⟩ ?_ ?_ ?_ ?_) <;> (simp -implicitDefEqProofs (disch := omega) only [go_sem, rdObj, true_or, or_true]; done)
  | refine hQ _ _ (ret0 [(id, some (rdObj bs (q' + 1)))] rfl rfl rfl (by rw [Tryz.results75] <;> simp (maxSteps := 1000000) -implicitDefEqProofs (disch := omega) only [go_sem] <;> rfl) ⟨_, q' + 1, ⟨⟨_, _⟩, rfl⟩, by omega, by omega, rfl⟩ ?_ ?_ ?_ ?_) <;> (simp -implicitDefEqProofs (disch := omega) only [go_sem, rdObj, true_or, or_true]; done)
end Go.Proofs.YtmicbfojofcigaaGreatDoor
namespace Go.Proofs.YtmicbfojofcigaaGreatDoor
open Go Sg
set_option linter.unusedSectionVars false
variable [Glob]
set_option maxRecDepth 100000
set_option linter.unusedSimpArgs false
set_option linter.unusedVariables false
set_option maxHeartbeats 4000000
def exc (l : List Ex) : List PV := (Ex.csL l).flatten
@[go_sem] theorem exc_len (l : List Ex) : (exc l).length = l.length * 5 := by
  induction l with
  | nil => rfl
  | cons e l ih => simp only [exc, Ex.csL, List.flatten_cons, List.length_append, Ex.cs_eq, List.length_cons, List.length_nil] at ih ⊢; omega
theorem exc_app (l : List Ex) (e : Ex) : exc l ++ e.cs = exc (l ++ [e]) := by
  simp [exc, Ex.csL_map]
theorem exc_one (e : Ex) : e.cs = exc [e] := by simp [exc, Ex.csL]
theorem csL_idsL (p : Nat → Prop) (e : Ex) : PV.idsL p e.cs = True := by rw [Ex.cs_eq]; simp [PV.idsL, PV.ids]
theorem idsL_app (p : Nat → Prop) (a b : List PV) : PV.idsL p (a ++ b) = (PV.idsL p a ∧ PV.idsL p b) := by
  induction a with
  | nil => simp [PV.idsL]
  | cons x a ih => simp only [List.cons_append, PV.idsL, ih, and_assoc]
@[go_sem] theorem exc_ids (p : Nat → Prop) (l : List Ex) : PV.idsL p (exc l) = True := by
  induction l with
  | nil => simp [exc, Ex.csL, PV.idsL]
  | cons e l ih => simp only [exc, Ex.csL, List.flatten_cons] at ih ⊢; rw [idsL_app, ih, csL_idsL]; simp
theorem renL_app (p : Nat → Nat) (a b : List PV) : PV.renL p (a ++ b) = PV.renL p a ++ PV.renL p b := by
  induction a with
  | nil => simp [PV.renL]
  | cons x a ih => simp only [List.cons_append, PV.renL, ih]
@[go_sem] theorem exc_ren (p : Nat → Nat) (l : List Ex) : PV.renL p (exc l) = exc l := by
  induction l with
  | nil => simp [exc, Ex.csL, PV.renL]
  | cons e l ih =>
    simp only [exc, Ex.csL, List.flatten_cons] at ih ⊢; rw [renL_app, ih]
    congr 1; rw [Ex.cs_eq]; simp [PV.renL, PV.ren]
theorem subL_app (θ : TypeId → Nat → Nat → Nat → Option PV) (a b : List PV) : PV.subL θ (a ++ b) = PV.subL θ a ++ PV.subL θ b := by
  induction a with
  | nil => simp [PV.subL]
  | cons x a ih => simp only [List.cons_append, PV.subL, ih]
@[go_sem] theorem exc_sub (θ : TypeId → Nat → Nat → Nat → Option PV) (l : List Ex) : PV.subL θ (exc l) = exc l := by
  induction l with
  | nil => simp [exc, Ex.csL, PV.subL]
  | cons e l ih => simp only [exc, Ex.csL, List.flatten_cons] at ih ⊢; rw [subL_app, ih, sub_flatE]
theorem rowsOf_exc {f : Nat → Option AObj} {id : Nat} {T : TypeId} {l : List Ex} (h : f id = some (.cells T (exc l))) : RowsOf Tryz.prog f 50 id 0 l.length (Ex.csL l) := by
  refine ⟨by rw [cellsOf50]; omega, by rw [Ex.csL_len], ?_, T, _, h, ?_, ?_⟩
  · intro c hc
    rw [Ex.csL_map, List.mem_map] at hc
    obtain ⟨x, _, rfl⟩ := hc
    rw [cellsOf50, Ex.cs_eq]; exact ⟨rfl, rfl⟩
  · rw [cellsOf50, exc_len]; omega
  · rw [cellsOf50, List.drop_zero, List.take_of_length_le (by rw [exc_len]; omega)]; rfl
theorem Ex.szL_app (l : List Ex) (e : Ex) : Ex.szL (l ++ [e]) = Ex.szL l + e.sz := by
  induction l with
  | nil => simp [Ex.szL]
  | cons x l ih => simp only [List.cons_append, Ex.szL, ih]; omega
@[go_sem] theorem Ex.mk_kind (k n : Int) (a : AD) (l : List Ex) : (Ex.mk k n a l).kind = k := rfl
@[go_sem] theorem Ex.mk_n (k n : Int) (a : AD) (l : List Ex) : (Ex.mk k n a l).n = n := rfl
@[go_sem] theorem Ex.mk_a (k n : Int) (a : AD) (l : List Ex) : (Ex.mk k n a l).a = a := rfl
@[go_sem] theorem Ex.mk_kids (k n : Int) (a : AD) (l : List Ex) : (Ex.mk k n a l).kids = l := rfl
@[go_sem] theorem Ex.csL_nil : Ex.csL [] = [] := rfl
def eb : Nat → Int
  | 0 => 4
  | d + 1 => 4 + 2 * eb d
def es : Nat → Nat
  | 0 => 1
  | d + 1 => 1 + 2 * es d
theorem eb_pos : ∀ d, 4 ≤ eb d
  | 0 => by simp [eb]
  | d + 1 => by have := eb_pos d; simp only [eb]; omega
theorem es_pos : ∀ d, 1 ≤ es d
  | 0 => by simp [es]
  | d + 1 => by have := es_pos d; simp only [es]; omega
def ExprD (d : Nat) (id : Nat) (bs : List Nat) (q dep : Int) : Prop := RdF 77 [.int .i64 dep] id bs q (eb d) (fun v => ∃ e : Ex, e.sz ≤ es d ∧ v = .agg e.cs)
theorem expr_leaf (d : Nat) (id : Nat) (bs : List Nat) (q dep : Int) (hbs : Bs bs) (hq0 : 0 ≤ q) (hq : q + eb d ≤ 1000000000000) (hd : decide (dep ≤ 1) = true) : ExprD d id bs q dep := by
  have hb4 := eb_pos d
  have hs1 := es_pos d
  refine callF_of' Tryz.func77 rfl Tryz.ntmps77 (by simp) ?_
  intro f0 B ns Q hB hns hQ
  have hid : id < B := hB id (by simp [hasKey, lk])
  obtain rfl : ns = [] := List.eq_nil_of_length_eq_zero hns
  refine g_ [0,1,4] ?_
  refine n_ ?_
  refine wpM_regionK [0,1,4,13] rfl fun Q1 hQ1 => ?_
  simp -implicitDefEqProofs (disch := omega) only [go_sem, hd]
  refine hQ1 _ _ (S_ ?_);clear hQ1 Q1
  refine c1_ ?_
  refine n_ ?_
  refine wpM_regionK [0,4,16] rfl fun Q1 hQ1 => ?_
  refine S_ ?_
  refine call_fn (l := [(id, rdObj bs q)]) (first := []) (cap := []) (ps := [.ptr id 0, .int .i64 3]) (pick_ok id bs q 3 hbs (by omega) (by omega) (by omega)) Tryz.call58 rfl rfl rfl G_ T_ ?_
  rintro out ⟨k1, rfl, h1, h2, h3⟩
  refine S_ ?_
  refine hQ1 _ _ (S_ ?_);clear hQ1 Q1
  refine c_ (fun hc1 => ?_) fun hc1 => ?_
  ·
    refine n_ ?_
    refine wpM_regionK [4] rfl fun Q1 hQ1 => ?_
    refine S_ ?_
    refine call_fn (l := [(id, rdObj bs (q + 1)), (B + 1, .cells 3 (ints [0, 1, 2, 3, -1, 5, 1000000]))]) (first := []) (cap := []) (ps := [.ptr id 0, .sl 3 (B + 1) 0 7]) (num_ok id (B + 1) bs (q + 1) [0, 1, 2, 3, -1, 5, 1000000] 7 rfl (by omega) (by omega) (by omega) hbs (by omega) (by omega)) Tryz.call41 rfl rfl rfl G_ (by simp -implicitDefEqProofs (disch := omega) only [go_sem, ints, List.map_cons, List.map_nil]) ?_
    rintro out ⟨k2, rfl, h4⟩
    refine S_ ?_
    refine hQ1 _ _ (S_ ?_);clear hQ1 Q1
    refine wpM_le [(4, .ptr B 0)] [(B, .cells 50 (Ex.mk 1 k2 ⟨0, 0⟩ []).cs), (id, rdObj bs (q + 1 + 1))] T_ T_ T_ ?_
    refine wpM_ret ?_
    try refine S_ ?_
    first
    | refine hQ _ _ (ret0 [(id, some (rdObj bs (q + 1 + 1)))] rfl rfl rfl (by rw [Tryz.results77] <;> simp (maxSteps := 1000000) -implicitDefEqProofs (disch := omega) only [go_sem] <;> rfl) ⟨_, q + 1 + 1, ⟨Ex.mk 1 k2 ⟨0, 0⟩ [], by simpa [Ex.sz, Ex.szL] using hs1, rfl⟩, by omega, by omega, rfl⟩ ?_ ?_ ?_ ?_) <;> (simp -implicitDefEqProofs (disch := omega) only [go_sem, rdObj, true_or, or_true]; done)
    | refine hQ _ _ (ret0 [(id, some (rdObj bs q'))] rfl rfl rfl (by rw [Tryz.results77] <;> simp (maxSteps := 1000000) -implicitDefEqProofs (disch := omega) only [go_sem] <;> rfl) ⟨_, q', ⟨Ex.mk 2 0 a [], by simpa [Ex.sz, Ex.szL] using hs1, rfl⟩, by omega, by omega, rfl⟩ ?_ ?_ ?_ ?_) <;> (simp -implicitDefEqProofs (disch := omega) only [go_sem, rdObj, true_or, or_true]; done)
  refine n_ ?_
  refine wpM_regionK [4] rfl fun Q1 hQ1 => ?_
  refine S_ ?_
  refine call_fn (l := [(id, rdObj bs (q + 1))]) (first := []) (cap := []) (ps := [.ptr id 0]) (l2Addr_ok id bs (q + 1) hbs (by omega) (by omega)) Tryz.call108 rfl rfl rfl G_ T_ ?_
  rintro out ⟨_, q', ⟨a, rfl⟩, hqa, hqb, rfl⟩
  refine S_ ?_
  refine hQ1 _ _ (S_ ?_);clear hQ1 Q1
  refine wpM_le [(4, .ptr B 0)] [(B, .cells 50 (Ex.mk 2 0 a []).cs), (id, rdObj bs q')] T_ T_ T_ ?_
  refine wpM_ret ?_
  try refine S_ ?_
  first
  | refine hQ _ _ (ret0 [(id, some (rdObj bs (q + 1 + 1)))] rfl rfl rfl (by rw [Tryz.results77] <;> simp (maxSteps := 1000000) -implicitDefEqProofs (disch := omega) only [go_sem] <;> rfl) ⟨_, q + 1 + 1, ⟨Ex.mk 1 k2 ⟨0, 0⟩ [], by simpa [Ex.sz, Ex.szL] using hs1, rfl⟩, by omega, by omega, rfl⟩ ?_ ?_ ?_ ?_) <;> (simp -implicitDefEqProofs (disch := omega) only [go_sem, rdObj, true_or, or_true]; done)
  | refine hQ _ _ (ret0 [(id, some (rdObj bs q'))] rfl rfl rfl (by rw [Tryz.results77] <;> simp (maxSteps := 1000000) -implicitDefEqProofs (disch := omega) only [go_sem] <;> rfl) ⟨_, q', ⟨Ex.mk 2 0 a [], by simpa [Ex.sz, Ex.szL] using hs1, rfl⟩, by omega, by omega, rfl⟩ ?_ ?_ ?_ ?_) <;> (simp -implicitDefEqProofs (disch := omega) only [go_sem, rdObj, true_or, or_true]; done)
theorem expr_node (d : Nat) (id : Nat) (bs : List Nat) (q dep : Int) (hbs : Bs bs) (hq0 : 0 ≤ q) (hq : q + eb (d + 1) ≤ 1000000000000) (hd : decide (dep ≤ 1) = false) (hdep : dep ≤ 1000000)
    (ih : ∀ q', 0 ≤ q' → q' + eb d ≤ 1000000000000 → ExprD d id bs q' (dep - 1)) : ExprD (d + 1) id bs q dep := by
  have hb4 := eb_pos d
  have hs1 := es_pos d
  have hb5 : eb (d + 1) = 4 + 2 * eb d := rfl
  have hdep1 : 1 < dep := by simpa using hd
  have hs5 : es (d + 1) = 1 + 2 * es d := rfl
  refine callF_of' Tryz.func77 rfl Tryz.ntmps77 (by simp) ?_
  intro f0 B ns Q hB hns hQ
  have hid : id < B := hB id (by simp [hasKey, lk])
  obtain rfl : ns = [] := List.eq_nil_of_length_eq_zero hns
  refine g_ [0,1,4] ?_
  refine n_ ?_
  refine wpM_regionK [0,1,4,13] rfl fun Q1 hQ1 => ?_
  simp -implicitDefEqProofs (disch := omega) only [go_sem, hd]
  refine call_fn (l := [(id, rdObj bs q)]) (first := []) (cap := []) (ps := [.ptr id 0, .int .i64 4]) (pick_ok id bs q 4 hbs (by omega) (by omega) (by omega)) Tryz.call58 rfl rfl rfl G_ T_ ?_
  rintro out ⟨k0, rfl, h01, h02, h03⟩
  simp -implicitDefEqProofs (disch := omega) only [go_sem, hd]
  refine hQ1 _ _ (S_ ?_);clear hQ1 Q1
  refine c_ (fun hc0 => ?_) fun hc0 => ?_
  ·
    refine n_ ?_
    refine wpM_regionK [0,4,16] rfl fun Q1 hQ1 => ?_
    refine S_ ?_
    refine call_fn (l := [(id, rdObj bs (q + 1))]) (first := []) (cap := []) (ps := [.ptr id 0, .int .i64 3]) (pick_ok id bs (q + 1) 3 hbs (by omega) (by omega) (by omega)) Tryz.call58 rfl rfl rfl G_ T_ ?_
    rintro out ⟨k1, rfl, h1, h2, h3⟩
    refine S_ ?_
    refine hQ1 _ _ (S_ ?_);clear hQ1 Q1
    refine c_ (fun hc1 => ?_) fun hc1 => ?_
    ·
      refine n_ ?_
      refine wpM_regionK [4] rfl fun Q1 hQ1 => ?_
      refine S_ ?_
      refine call_fn (l := [(id, rdObj bs (q + 1 + 1)), (B + 1, .cells 3 (ints [0, 1, 2, 3, -1, 5, 1000000]))]) (first := []) (cap := []) (ps := [.ptr id 0, .sl 3 (B + 1) 0 7]) (num_ok id (B + 1) bs (q + 1 + 1) [0, 1, 2, 3, -1, 5, 1000000] 7 rfl (by omega) (by omega) (by omega) hbs (by omega) (by omega)) Tryz.call41 rfl rfl rfl G_ (by simp -implicitDefEqProofs (disch := omega) only [go_sem, ints, List.map_cons, List.map_nil]) ?_
      rintro out ⟨k2, rfl, h4⟩
      refine S_ ?_
      refine hQ1 _ _ (S_ ?_);clear hQ1 Q1
      refine wpM_le [(4, .ptr B 0)] [(B, .cells 50 (Ex.mk 1 k2 ⟨0, 0⟩ []).cs), (id, rdObj bs (q + 1 + 1 + 1))] T_ T_ T_ ?_
      refine wpM_ret ?_
      try refine S_ ?_
      first
      | refine hQ _ _ (ret0 [(id, some (rdObj bs (q + 1 + 1 + 1)))] rfl rfl rfl (by rw [Tryz.results77] <;> simp (maxSteps := 1000000) -implicitDefEqProofs (disch := omega) only [go_sem] <;> rfl) ⟨_, q + 1 + 1 + 1, ⟨Ex.mk 1 k2 ⟨0, 0⟩ [], by simp only [Ex.sz, Ex.szL]; omega, rfl⟩, by omega, by omega, rfl⟩ ?_ ?_ ?_ ?_) <;> (simp -implicitDefEqProofs (disch := omega) only [go_sem, rdObj, true_or, or_true]; done)
      | refine hQ _ _ (ret0 [(id, some (rdObj bs q'))] rfl rfl rfl (by rw [Tryz.results77] <;> simp (maxSteps := 1000000) -implicitDefEqProofs (disch := omega) only [go_sem] <;> rfl) ⟨_, q', ⟨Ex.mk 2 0 a [], by simp only [Ex.sz, Ex.szL]; omega, rfl⟩, by omega, by omega, rfl⟩ ?_ ?_ ?_ ?_) <;> (simp -implicitDefEqProofs (disch := omega) only [go_sem, rdObj, true_or, or_true]; done)
      | refine hQ _ _ (ret0 [(id, some (rdObj bs q'))] rfl rfl rfl (by rw [Tryz.results77] <;> simp (maxSteps := 1000000) -implicitDefEqProofs (disch := omega) only [go_sem] <;> rfl) ⟨_, q', ⟨Ex.mk k5 0 ⟨0, 0⟩ l, by (have : Ex.szL l ≤ 2 * es d := (by rcases hr with h | h <;> rw [h] at hsz <;> omega)); simp only [Ex.sz]; omega, rfl⟩, by omega, by omega, rfl⟩ ?_ ?_ ?_ ?_) <;> (simp -implicitDefEqProofs (disch := omega) only [go_sem, rdObj, true_or, or_true]; done)
    refine n_ ?_
    refine wpM_regionK [4] rfl fun Q1 hQ1 => ?_
    refine S_ ?_
    refine call_fn (l := [(id, rdObj bs (q + 1 + 1))]) (first := []) (cap := []) (ps := [.ptr id 0]) (l2Addr_ok id bs (q + 1 + 1) hbs (by omega) (by omega)) Tryz.call108 rfl rfl rfl G_ T_ ?_
    rintro out ⟨_, q', ⟨a, rfl⟩, hqa, hqb, rfl⟩
    refine S_ ?_
    refine hQ1 _ _ (S_ ?_);clear hQ1 Q1
    refine wpM_le [(4, .ptr B 0)] [(B, .cells 50 (Ex.mk 2 0 a []).cs), (id, rdObj bs q')] T_ T_ T_ ?_
    refine wpM_ret ?_
    try refine S_ ?_
    first
    | refine hQ _ _ (ret0 [(id, some (rdObj bs (q + 1 + 1 + 1)))] rfl rfl rfl (by rw [Tryz.results77] <;> simp (maxSteps := 1000000) -implicitDefEqProofs (disch := omega) only [go_sem] <;> rfl) ⟨_, q + 1 + 1 + 1, ⟨Ex.mk 1 k2 ⟨0, 0⟩ [], by simp only [Ex.sz, Ex.szL]; omega, rfl⟩, by omega, by omega, rfl⟩ ?_ ?_ ?_ ?_) <;> (simp -implicitDefEqProofs (disch := omega) only [go_sem, rdObj, true_or, or_true]; done)
    | refine hQ _ _ (ret0 [(id, some (rdObj bs q'))] rfl rfl rfl (by rw [Tryz.results77] <;> simp (maxSteps := 1000000) -implicitDefEqProofs (disch := omega) only [go_sem] <;> rfl) ⟨_, q', ⟨Ex.mk 2 0 a [], by simp only [Ex.sz, Ex.szL]; omega, rfl⟩, by omega, by omega, rfl⟩ ?_ ?_ ?_ ?_) <;> (simp -implicitDefEqProofs (disch := omega) only [go_sem, rdObj, true_or, or_true]; done)
    | refine hQ _ _ (ret0 [(id, some (rdObj bs q'))] rfl rfl rfl (by rw [Tryz.results77] <;> simp (maxSteps := 1000000) -implicitDefEqProofs (disch := omega) only [go_sem] <;> rfl) ⟨_, q', ⟨Ex.mk k5 0 ⟨0, 0⟩ l, by (have : Ex.szL l ≤ 2 * es d := (by rcases hr with h | h <;> rw [h] at hsz <;> omega)); simp only [Ex.sz]; omega, rfl⟩, by omega, by omega, rfl⟩ ?_ ?_ ?_ ?_) <;> (simp -implicitDefEqProofs (disch := omega) only [go_sem, rdObj, true_or, or_true]; done)
  refine n_ ?_
  refine wpM_regionK [0,1,4,5] rfl fun Q1 hQ1 => ?_
  refine S_ ?_
  refine call_fn (l := [(id, rdObj bs (q + 1)), (B + 1, .cells 3 (ints [3, 3, 4, 5, 6, 6, 7, 8, 9, 10]))]) (first := []) (cap := []) (ps := [.ptr id 0, .sl 3 (B + 1) 0 10]) (num_ok id (B + 1) bs (q + 1) [3, 3, 4, 5, 6, 6, 7, 8, 9, 10] 10 rfl (by omega) (by omega) (by omega) hbs (by omega) (by omega)) Tryz.call41 rfl rfl rfl G_ (by simp -implicitDefEqProofs (disch := omega) only [go_sem, ints, List.map_cons, List.map_nil]) ?_
  rintro out ⟨k5, rfl, h5⟩
  refine S_ ?_
  refine hQ1 _ _ (S_ ?_);clear hQ1 Q1
  refine n_ ?_
  refine wpM_regionK [0,1,4,5,6] rfl fun Q1 hQ1 => ?_
  refine S_ ?_
  refine cp_ (l3Kids_ok k5) Tryz.call110 ?_
  refine hQ1 _ _ (S_ ?_);clear hQ1 Q1
  obtain ⟨n, hkn, hn1, hn2⟩ : ∃ n : Nat, kidsN k5 = (n : Int) ∧ 1 ≤ n ∧ n ≤ 2 := by
    simp only [List.mem_cons, List.not_mem_nil, or_false] at h5
    rcases h5 with rfl | rfl | rfl | rfl | rfl | rfl | rfl | rfl | rfl | rfl <;> first | exact ⟨2, rfl, by omega, by omega⟩ | exact ⟨1, rfl, by omega, by omega⟩
  rw [hkn]
  refine n_ ?_
  refine wpM_loopS (fun s r s' => (r = n ∧ s' = s) ∨ ∃ (M0 y : Nat) (l : List Ex) (q' : Int), 0 < l.length ∧ l.length + r = n ∧ s.M ≤ y ∧ y < M0 ∧ Ex.szL l ≤ l.length * es d ∧ q + 2 ≤ q' ∧ q' ≤ q + 2 + (l.length : Int) * eb d ∧ s' = { s with env := setE 6 (.int .i64 (r : Nat)) s.env, l := (y, .cells 50 (exc l)) :: setl (B + 2) (.cells 50 [.int .i64 k5, .int .i64 0, .int .i64 0, .int .i64 0, .sl 50 y 0 l.length]) (setl id (rdObj bs q') s.l), M := M0 }) (n) ?_ ?_
  ·
    refine .of' _ _ (.inl ⟨rfl, rfl⟩) ?_ ?_ ?_ <;> exact L_
  rintro r s' (⟨rfl, rfl⟩ | ⟨M0, y, l, q', hl0, hlr, hy, hyM, hsz, hqa, hqb, rfl⟩)
  ·
    try refine S_ ?_
    refine g_ [0,1,4,5,6,32] ?_
    refine c_ (fun hc2 => ?_) fun hc2 => ?_
    ·
      skip
      refine n_ ?_
      refine dr_ mixed [0,1,4,5,6] 2 2 [B + 2, id, B + 3, B + 4] [⟨[5],[],[],[],false⟩,⟨[35],[0],[],[],false⟩,⟨[0],[],[],[],false⟩,⟨[1],[],[],[],false⟩,⟨[38],[],[],[],false⟩,⟨[37,39],[1],[1],[],true⟩,⟨[40],[],[],[2],false⟩,⟨[36,41],[2],[],[3],false⟩,⟨[5],[],[],[],false⟩,⟨[42,43],[0],[0],[],false⟩] [0,1,2,3,4,5,6,7,8,9] [[],[0],[],[],[3],[2,3,4],[2,3,4,5],[0,1,2,3,4,5,6],[0,1,2,3,4,5,6,7],[0,1,2,3,4,5,6,7,8]] 4 (htbl := by simp; omega) (hnm := by simp) ?_
      intro O A K hO hA hK;simp only [atL_cons,atL_nil,Nat.reduceAdd,Nat.zero_add] at hO hA
      refine SO_ ?_
      refine loud_fn (first := []) (cap := []) (ps := [.ptr id 0, .int .i64 (dep - 1)]) (l := [(id, rdObj bs (q + 1 + 1))]) (ih (q + 1 + 1) (by omega) (by omega)) Tryz.call77 rfl rfl F_ (subG_spec T_) rfl ?_
      rintro out ⟨_, q', ⟨e, hes, rfl⟩, hqa, hqb, rfl⟩
      refine ⟨rfl, ?_⟩
      refine SO_ ?_
      refine hK _ (S_ ?_);clear hK K hO hA O A
      refine g_ [0,1,4,5,6] ?_
      have e1 : [PV.int .i64 e.kind, .int .i64 e.n, .int .i64 e.a.kind, .int .i64 e.a.at', .rows 50 (Ex.csL e.kids)] = exc [e] := by rw [← exc_one, Ex.cs_eq]
      rw [e1, show ((r : Int) - 1) = ((r - 1 : Nat) : Int) by omega]
      refine .of' _ _ ⟨r - 1, by omega, .inr ⟨_, B + 4, [e], q', by simp, by simp; omega, ?_, ?_, by simp [Ex.szL]; omega, by omega, by simp; omega, rfl⟩⟩ ?_ ?_ ?_
      · first | omega | (simp -implicitDefEqProofs (disch := omega) only [go_sem]; done) | (simp -implicitDefEqProofs (disch := omega) only [go_sem]; omega)
      · first | omega | (simp -implicitDefEqProofs (disch := omega) only [go_sem]; done) | (simp -implicitDefEqProofs (disch := omega) only [go_sem]; omega)
      all_goals exact L_
    exfalso; omega
  dsimp only at hy
  have hr : l.length = 1 ∨ l.length = 2 := by omega
  have hqb2 : q' ≤ q + 2 + 2 * eb d := by rcases hr with h | h <;> rw [h] at hqb <;> omega
  try refine S_ ?_
  refine g_ [0,1,4,5,6,32] ?_
  refine c_ (fun hc2 => ?_) fun hc2 => ?_
  ·
    have hr1 : l.length = 1 := by omega
    have hqb3 : q' ≤ q + 2 + eb d := by rw [hr1] at hqb; omega
    refine n_ ?_
    refine dr_ mixed [0,1,4,5,6] 2 3 [B + 2, id, y, M0, M0 + 1] [⟨[5],[],[],[],false⟩,⟨[35],[0],[],[],false⟩,⟨[0],[],[],[],false⟩,⟨[1],[],[],[],false⟩,⟨[38],[],[],[],false⟩,⟨[37,39],[1],[1],[],true⟩,⟨[40],[],[],[3],false⟩,⟨[36,41],[2,3],[2],[4],false⟩,⟨[5],[],[],[],false⟩,⟨[42,43],[0],[0],[],false⟩] [0,1,2,3,4,5,6,7,8,9] [[],[0],[],[],[3],[2,3,4],[2,3,4,5],[0,1,2,3,4,5,6],[0,1,2,3,4,5,6,7],[0,1,2,3,4,5,6,7,8]] 5 (htbl := by simp; omega) (hnm := by simp) ?_
    intro O A K hO hA hK;simp only [atL_cons,atL_nil,Nat.reduceAdd,Nat.zero_add] at hO hA
    refine SO_ ?_
    refine loud_fn (first := []) (cap := []) (ps := [.ptr id 0, .int .i64 (dep - 1)]) (l := [(id, rdObj bs q')]) (ih q' (by omega) (by omega)) Tryz.call77 rfl rfl F_ (subG_spec T_) rfl ?_
    rintro out ⟨_, q2, ⟨e, hes, rfl⟩, hqc, hqd, rfl⟩
    refine ⟨rfl, ?_⟩
    refine SO_ ?_
    refine hK _ (S_ ?_);clear hK K hO hA O A
    refine g_ [0,1,4,5,6] ?_
    have e1 : exc l ++ [PV.int .i64 e.kind, .int .i64 e.n, .int .i64 e.a.kind, .int .i64 e.a.at', .rows 50 (Ex.csL e.kids)] = exc (l ++ [e]) := by rw [← exc_app, Ex.cs_eq e]
    rw [e1, show ((r : Int) - 1) = ((r - 1 : Nat) : Int) by omega]
    refine .of' _ _ ⟨r - 1, by omega, .inr ⟨_, M0 + 1, l ++ [e], q2, by simp, by simp; omega, ?_, ?_, by rw [Ex.szL_app, List.length_append, hr1]; rw [hr1] at hsz; simp; omega, by omega, by rw [List.length_append, hr1]; simp; omega, rfl⟩⟩ ?_ ?_ ?_
    · first | omega | (simp -implicitDefEqProofs (disch := omega) only [go_sem]; done) | (simp -implicitDefEqProofs (disch := omega) only [go_sem]; omega)
    · first | omega | (simp -implicitDefEqProofs (disch := omega) only [go_sem]; done) | (simp -implicitDefEqProofs (disch := omega) only [go_sem]; omega)
    all_goals exact L_
  refine n_ ?_
  have hr0 : r = 0 := by omega
  refine wpM_frz [y] [(50, y, 0, l.length, Ex.csL l)] (by intro q hq; simp at hq; subst hq; simp -implicitDefEqProofs (disch := omega) only [go_sem]) (by intro q hq; simp only [List.mem_cons, List.not_mem_nil, or_false] at hq; subst hq; exact ⟨by simp, rowsOf_exc (T := 50) T_⟩) ?_
  simp -implicitDefEqProofs (disch := omega) only [go_sem, rdObj]
  refine g_ [4] ?_
  refine wpM_ret ?_
  try refine S_ ?_
  first
  | refine hQ _ _ (ret0 [(id, some (rdObj bs (q + 1 + 1 + 1)))] rfl rfl rfl (by rw [Tryz.results77] <;> simp (maxSteps := 1000000) -implicitDefEqProofs (disch := omega) only [go_sem] <;> rfl) ⟨_, q + 1 + 1 + 1, ⟨Ex.mk 1 k2 ⟨0, 0⟩ [], by simp only [Ex.sz, Ex.szL]; omega, rfl⟩, by omega, by omega, rfl⟩ ?_ ?_ ?_ ?_) <;> (simp -implicitDefEqProofs (disch := omega) only [go_sem, rdObj, true_or, or_true]; done)
  | refine hQ _ _ (ret0 [(id, some (rdObj bs q'))] rfl rfl rfl (by rw [Tryz.results77] <;> simp (maxSteps := 1000000) -implicitDefEqProofs (disch := omega) only [go_sem] <;> rfl) ⟨_, q', ⟨Ex.mk 2 0 a [], by simp only [Ex.sz, Ex.szL]; omega, rfl⟩, by omega, by omega, rfl⟩ ?_ ?_ ?_ ?_) <;> (simp -implicitDefEqProofs (disch := omega) only [go_sem, rdObj, true_or, or_true]; done)
  | refine hQ _ _ (ret0 [(id, some (rdObj bs q'))] rfl rfl rfl (by rw [Tryz.results77] <;> simp (maxSteps := 1000000) -implicitDefEqProofs (disch := omega) only [go_sem] <;> rfl) ⟨_, q', ⟨Ex.mk k5 0 ⟨0, 0⟩ l, by (have : Ex.szL l ≤ 2 * es d := (by rcases hr with h | h <;> rw [h] at hsz <;> omega)); simp only [Ex.sz]; omega, rfl⟩, by omega, by omega, rfl⟩ ?_ ?_ ?_ ?_) <;> (simp -implicitDefEqProofs (disch := omega) only [go_sem, rdObj, true_or, or_true]; done)
theorem l3Expr_ok (id : Nat) (bs : List Nat) (hbs : Bs bs) (d : Nat) : ∀ (q dep : Int), 0 ≤ q → q + eb d ≤ 1000000000000 → dep ≤ (d : Int) + 1 → dep ≤ 1000000 → ExprD d id bs q dep := by
  induction d with
  | zero => intro q dep h1 h2 h3 h4; exact expr_leaf 0 id bs q dep hbs h1 h2 (by simp; omega)
  | succ d ih =>
    intro q dep h1 h2 h3 h4
    by_cases hd : dep ≤ 1
    · exact expr_leaf (d + 1) id bs q dep hbs h1 h2 (by simp [hd])
    · exact expr_node d id bs q dep hbs h1 h2 (by simp [hd]) h4 (fun q' g1 g2 => ih q' (dep - 1) g1 g2 (by omega) (by omega))
end Go.Proofs.YtmicbfojofcigaaGreatDoor
namespace Go.Proofs.YtmicbfojofcigaaGreatDoor
open Go Sg
set_option linter.unusedSectionVars false
variable [Glob]
set_option maxRecDepth 100000
set_option linter.unusedSimpArgs false
set_option linter.unusedVariables false
set_option maxHeartbeats 4000000
theorem l3Copy_ok : ∀ (N : Nat) (e : Ex), e.sz ≤ N → e.sz ≤ 1099511627776 → PureF Tryz.prog 66 [.agg e.cs] [.agg e.cs] := by
  intro N
  induction N with
  | zero => intro e h; have := e.sz_pos; omega
  | succ N ih =>
    intro e hN hs
    have hlen := e.kids_len
    refine pureF_of Tryz.func66 rfl Tryz.ntmps66 (by simp) T_ ?_
    intro f0 B Q hQ
    refine g_ [1,2] ?_
    refine g_ [1,2,3] ?_
    refine g_ [1,2,3,4] ?_
    refine n_ ?_
    refine wpM_loopS (fun s r s' => (r = e.kids.length ∧ s' = s) ∨ ∃ (i0 M0 y : Nat), 0 < i0 ∧ i0 + r = e.kids.length ∧ s.M ≤ y ∧ y < M0 ∧ s' = { s with env := setE 4 (.int .i64 (i0 : Nat)) s.env, l := (y, .cells 50 (exc (e.kids.take i0))) :: setl (B + 2) (.cells 50 [.int .i64 e.kind, .int .i64 e.n, .int .i64 e.a.kind, .int .i64 e.a.at', .sl 50 y 0 i0]) s.l, M := M0 }) (e.kids.length) ?_ ?_
    ·
      refine .of' _ _ (.inl ⟨rfl, rfl⟩) ?_ ?_ ?_ <;> exact L_
    rintro r s' (⟨rfl, rfl⟩ | ⟨i0, M0, y, hi0, hir, hy, hyM, rfl⟩)
    ·
      try refine S_ ?_
      refine g_ [1,2,3,4,16] ?_
      refine c_ (fun hc0 => ?_) fun hc0 => ?_
      ·
        have hks := Ex.kid_sz (e := e) (k := 0) (by omega)
        refine n_ ?_
        refine dr_ mixed [1,2,3,4] 2 2 [B + 2, B, B + 3, B + 4] [⟨[3],[],[],[],false⟩,⟨[19],[0],[],[],false⟩,⟨[1],[],[],[],false⟩,⟨[21],[1],[],[],false⟩,⟨[4],[],[],[],false⟩,⟨[22,23],[],[],[],false⟩,⟨[24],[],[],[],false⟩,⟨[25],[],[],[],true⟩,⟨[26],[],[],[2],false⟩,⟨[20,27],[2],[],[3],false⟩,⟨[3],[],[],[],false⟩,⟨[28,29],[0],[0],[],false⟩] [0,1,2,3,4,5,6,7,8,9,10,11] [[],[0],[],[2],[],[2,3,4],[2,3,4,5],[2,3,4,5,6],[2,3,4,5,6,7],[0,1,2,3,4,5,6,7,8],[0,1,2,3,4,5,6,7,8,9],[0,1,2,3,4,5,6,7,8,9,10]] 4 ?_
        intro O A K hO hA hK;simp only [atL_cons,atL_nil,Nat.reduceAdd,Nat.zero_add] at hO hA
        simp -implicitDefEqProofs (disch := omega) only [go_sem, exc_len, hO, hA]
        refine loud_p (ih (e.kids.getD 0 default) (by omega) (by omega)) Tryz.call66 rfl rfl (by first | rfl | (simp -implicitDefEqProofs (disch := omega) only [go_sem] <;> rfl)) rfl ?_
        simp -implicitDefEqProofs (disch := omega) only [go_sem, exc_len, hO, hA]
        refine hK _ (S_ ?_);clear hK K hO hA O A
        refine g_ [1,2,3,4] ?_
        have e1 : [PV.int .i64 (e.kids.getD 0 default).kind, .int .i64 (e.kids.getD 0 default).n, .int .i64 (e.kids.getD 0 default).a.kind, .int .i64 (e.kids.getD 0 default).a.at', .rows 50 (Ex.csL (e.kids.getD 0 default).kids)] = exc (e.kids.take 1) := by
          have this0 : e.kids.getD 0 default = e.kids[0] := by simp [List.getD, show 0 < e.kids.length by omega]
          rw [List.take_succ_eq_append_getElem (by omega), List.take_zero, List.nil_append, ← exc_one, ← this0, Ex.cs_eq]
        rw [e1]
        refine .of' _ _ ⟨e.kids.length - 1, by omega, .inr ⟨1, _, B + 4, by omega, by omega, ?_, ?_, rfl⟩⟩ ?_ ?_ ?_
        · first | omega | (simp -implicitDefEqProofs (disch := omega) only [go_sem]; done) | (simp -implicitDefEqProofs (disch := omega) only [go_sem]; omega)
        · first | omega | (simp -implicitDefEqProofs (disch := omega) only [go_sem]; done) | (simp -implicitDefEqProofs (disch := omega) only [go_sem]; omega)
        all_goals exact L_
      refine n_ ?_
      have hk0 : e.kids = [] := List.eq_nil_of_length_eq_zero (by omega)
      refine wpM_le [(2, .ptr (B + 1) 0), (3, .ptr (B + 2) 0)] [(B + 2, .cells 50 e.cs), (B + 1, .cells 50 [.int .i64 0, .int .i64 0, .int .i64 0, .int .i64 0, .emp])] (by simp -implicitDefEqProofs (disch := omega) only [go_sem, hk0]) (by simp -implicitDefEqProofs (disch := omega) only [go_sem, hk0]) T_ ?_
      refine g_ [2] ?_
      refine e_ Tryz.results66 ?_
      first
      | exact True.intro
      | rfl
    dsimp only at hy
    try refine S_ ?_
    refine g_ [1,2,3,4,16] ?_
    refine c_ (fun hc0 => ?_) fun hc0 => ?_
    ·
      have hks := Ex.kid_sz (e := e) (k := i0) (by omega)
      have htl : (e.kids.take i0).length = i0 := by simp; omega
      refine n_ ?_
      refine dr_ mixed [1,2,3,4] 2 3 [B + 2, B, y, M0, M0 + 1] [⟨[3],[],[],[],false⟩,⟨[19],[0],[],[],false⟩,⟨[1],[],[],[],false⟩,⟨[21],[1],[],[],false⟩,⟨[4],[],[],[],false⟩,⟨[22,23],[],[],[],false⟩,⟨[24],[],[],[],false⟩,⟨[25],[],[],[],true⟩,⟨[26],[],[],[3],false⟩,⟨[20,27],[2,3],[2],[4],false⟩,⟨[3],[],[],[],false⟩,⟨[28,29],[0],[0],[],false⟩] [0,1,2,3,4,5,6,7,8,9,10,11] [[],[0],[],[2],[],[2,3,4],[2,3,4,5],[2,3,4,5,6],[2,3,4,5,6,7],[0,1,2,3,4,5,6,7,8],[0,1,2,3,4,5,6,7,8,9],[0,1,2,3,4,5,6,7,8,9,10]] 5 (htbl := by simp; omega) (hnm := by simp) ?_
      intro O A K hO hA hK;simp only [atL_cons,atL_nil,Nat.reduceAdd,Nat.zero_add] at hO hA
      simp -implicitDefEqProofs (disch := omega) only [go_sem, htl, hO, hA]
      refine loud_p (ih (e.kids.getD i0 default) (by omega) (by omega)) Tryz.call66 rfl rfl (by first | rfl | (simp -implicitDefEqProofs (disch := omega) only [go_sem] <;> rfl)) rfl ?_
      simp -implicitDefEqProofs (disch := omega) only [go_sem, htl, hO, hA]
      refine hK _ (S_ ?_);clear hK K hO hA O A
      refine g_ [1,2,3,4] ?_
      have e1 : exc (e.kids.take i0) ++ [.int .i64 (e.kids.getD i0 default).kind, .int .i64 (e.kids.getD i0 default).n, .int .i64 (e.kids.getD i0 default).a.kind, .int .i64 (e.kids.getD i0 default).a.at', .rows 50 (Ex.csL (e.kids.getD i0 default).kids)] = exc (e.kids.take (i0 + 1)) := by
        rw [List.take_succ_eq_append_getElem (by omega), ← exc_app, Ex.cs_eq]
        have : e.kids.getD i0 default = e.kids[i0] := by simp [List.getD, show i0 < e.kids.length by omega]
        rw [this]
      rw [e1]
      refine .of' _ _ ⟨r - 1, by omega, .inr ⟨i0 + 1, _, M0 + 1, by omega, by omega, ?_, ?_, rfl⟩⟩ ?_ ?_ ?_
      · first | omega | (simp -implicitDefEqProofs (disch := omega) only [go_sem]; done) | (simp -implicitDefEqProofs (disch := omega) only [go_sem]; omega)
      · first | omega | (simp -implicitDefEqProofs (disch := omega) only [go_sem]; done) | (simp -implicitDefEqProofs (disch := omega) only [go_sem]; omega)
      all_goals exact L_
    refine n_ ?_
    have hie : i0 = e.kids.length := by omega
    have htl : e.kids.take i0 = e.kids := by rw [hie, List.take_of_length_le (Nat.le_refl _)]
    rw [htl]
    refine wpM_frz [y] [(50, y, 0, i0, Ex.csL e.kids)] (by intro q hq; simp at hq; subst hq; simp -implicitDefEqProofs (disch := omega) only [go_sem]) (by intro q hq; simp only [List.mem_cons, List.not_mem_nil, or_false] at hq; subst hq; rw [hie]; exact ⟨by simp, rowsOf_exc (T := 50) T_⟩) ?_
    simp -implicitDefEqProofs (disch := omega) only [go_sem]
    refine g_ [2] ?_
    refine e_ Tryz.results66 ?_
    first
    | exact True.intro
    | rfl
theorem l3Some_ok (id : Nat) (bs : List Nat) (q : Int) (hbs : Bs bs) (hq0 : 0 ≤ q) (hq : q + 153 ≤ 1000000000000) : RdF 109 [] id bs q 153 (fun v => ∃ e : Ex, e.sz ≤ 31 ∧ v = .agg e.cs) := by
  refine callF_of' Tryz.func109 rfl Tryz.ntmps109 (by simp) ?_
  intro f0 B ns Q hB hns hQ
  have hid : id < B := hB id (by simp [hasKey, lk])
  obtain rfl : ns = [] := List.eq_nil_of_length_eq_zero hns
  have b4 : eb 4 = 124 := rfl
  have b2 : eb 2 = 28 := rfl
  have s4 : es 4 = 31 := rfl
  have s2 : es 2 = 7 := rfl
  refine g_ [0,2] ?_
  refine n_ ?_
  refine wpM_regionK [0,2,3] rfl fun Q1 hQ1 => ?_
  refine S_ ?_
  refine call_fn (l := [(id, rdObj bs q)]) (first := []) (cap := []) (ps := [.ptr id 0, .int .i64 4]) (pick_ok id bs q 4 hbs (by omega) (by omega) (by omega)) Tryz.call58 rfl rfl rfl G_ T_ ?_
  rintro out ⟨k1, rfl, h1, h2, h3⟩
  refine S_ ?_
  refine call_fn (l := [(id, rdObj bs (q + 1))]) (first := []) (cap := []) (ps := [.ptr id 0, .int .i64 (1 + k1)]) (l3Expr_ok id bs hbs 4 (q + 1) (1 + k1) (by omega) (by omega) (by omega) (by omega)) Tryz.call77 rfl rfl rfl G_ T_ ?_
  rintro out ⟨_, q', ⟨e, hes, rfl⟩, hqa, hqb, rfl⟩
  refine S_ ?_
  refine hQ1 _ _ (S_ ?_);clear hQ1 Q1
  refine n_ ?_
  refine wpM_regionK [0,2,3,11] rfl fun Q1 hQ1 => ?_
  refine S_ ?_
  refine cp_ (exprOk_ok e (by omega)) Tryz.call72 ?_
  refine hQ1 _ _ (S_ ?_);clear hQ1 Q1
  refine c_ (fun hc0 => ?_) fun hc0 => ?_
  ·
    refine n_ ?_
    refine wpM_regionK [2] rfl fun Q1 hQ1 => ?_
    refine S_ ?_
    refine call_fn (l := [(id, rdObj bs q')]) (first := []) (cap := []) (ps := [.ptr id 0, .int .i64 2]) (l3Expr_ok id bs hbs 2 q' 2 (by omega) (by omega) (by omega) (by omega)) Tryz.call77 rfl rfl rfl G_ T_ ?_
    rintro out ⟨_, q2, ⟨e2, hes2, rfl⟩, hqc, hqd, rfl⟩
    refine S_ ?_
    refine hQ1 _ _ (S_ ?_);clear hQ1 Q1
    refine wpM_ret ?_
    try refine S_ ?_
    first
    | refine hQ _ _ (ret0 [(id, some (rdObj bs q2))] rfl rfl rfl (by rw [Tryz.results109] <;> simp (maxSteps := 1000000) -implicitDefEqProofs (disch := omega) only [go_sem] <;> rfl) ⟨_, q2, ⟨e2, by omega, rfl⟩, by omega, by omega, rfl⟩ ?_ ?_ ?_ ?_) <;> (simp -implicitDefEqProofs (disch := omega) only [go_sem, rdObj, true_or, or_true]; done)
    | refine hQ _ _ (ret0 [(id, some (rdObj bs q'))] rfl rfl rfl (by rw [Tryz.results109] <;> simp (maxSteps := 1000000) -implicitDefEqProofs (disch := omega) only [go_sem] <;> rfl) ⟨_, q', ⟨e, by omega, rfl⟩, by omega, by omega, rfl⟩ ?_ ?_ ?_ ?_) <;> (simp -implicitDefEqProofs (disch := omega) only [go_sem, rdObj, true_or, or_true]; done)
  refine g_ [2] ?_
  refine wpM_ret ?_
  try refine S_ ?_
  first
  | refine hQ _ _ (ret0 [(id, some (rdObj bs q2))] rfl rfl rfl (by rw [Tryz.results109] <;> simp (maxSteps := 1000000) -implicitDefEqProofs (disch := omega) only [go_sem] <;> rfl) ⟨_, q2, ⟨e2, by omega, rfl⟩, by omega, by omega, rfl⟩ ?_ ?_ ?_ ?_) <;> (simp -implicitDefEqProofs (disch := omega) only [go_sem, rdObj, true_or, or_true]; done)
  | refine hQ _ _ (ret0 [(id, some (rdObj bs q'))] rfl rfl rfl (by rw [Tryz.results109] <;> simp (maxSteps := 1000000) -implicitDefEqProofs (disch := omega) only [go_sem] <;> rfl) ⟨_, q', ⟨e, by omega, rfl⟩, by omega, by omega, rfl⟩ ?_ ?_ ?_ ?_) <;> (simp -implicitDefEqProofs (disch := omega) only [go_sem, rdObj, true_or, or_true]; done)
theorem l3Bent_ok (id : Nat) (bs : List Nat) (q : Int) (hbs : Bs bs) (hq0 : 0 ≤ q) (hq : q + 158 ≤ 1000000000000) : RdF 76 [] id bs q 158 (fun v => ∃ e : Ex, e.sz ≤ 1000 ∧ v = .agg e.cs) := by
  refine callF_of' Tryz.func76 rfl Tryz.ntmps76 (by simp) ?_
  intro f0 B ns Q hB hns hQ
  have hid : id < B := hB id (by simp [hasKey, lk])
  obtain rfl : ns = [] := List.eq_nil_of_length_eq_zero hns
  refine g_ [0,2] ?_
  refine n_ ?_
  refine wpM_regionK [0,2,3] rfl fun Q1 hQ1 => ?_
  refine S_ ?_
  refine call_fn (l := [(id, rdObj bs q)]) (first := []) (cap := []) (ps := [.ptr id 0]) (l3Some_ok id bs q hbs (by omega) (by omega)) Tryz.call109 rfl rfl rfl G_ T_ ?_
  rintro out ⟨_, q', ⟨e, hes, rfl⟩, hqa, hqb, rfl⟩
  refine S_ ?_
  refine hQ1 _ _ (S_ ?_);clear hQ1 Q1
  refine n_ ?_
  refine wpM_regionK [0,2,3,9] rfl fun Q1 hQ1 => ?_
  refine S_ ?_
  refine call_fn (l := [(id, rdObj bs q')]) (first := []) (cap := []) (ps := [.ptr id 0, .int .i64 60]) (pick_ok id bs q' 60 hbs (by omega) (by omega) (by omega)) Tryz.call58 rfl rfl rfl G_ T_ ?_
  rintro out ⟨k1, rfl, h1, h2, h3⟩
  refine S_ ?_
  refine hQ1 _ _ (S_ ?_);clear hQ1 Q1
  refine g_ [0,2,3,9,10] ?_
  refine c_ (fun hc0 => ?_) fun hc0 => ?_
  ·
    refine wpM_regionK [2,3] rfl fun Q1 hQ1 => ?_
    refine S_ ?_
    refine call_fn (l := [(id, rdObj bs (q' + 1)), (B + 2, .cells 3 (ints [0, 11, 3, 10]))]) (first := []) (cap := []) (ps := [.ptr id 0, .sl 3 (B + 2) 0 4]) (num_ok id (B + 2) bs (q' + 1) [0, 11, 3, 10] 4 rfl (by omega) (by omega) (by omega) hbs (by omega) (by omega)) Tryz.call41 rfl rfl rfl G_ (by simp -implicitDefEqProofs (disch := omega) only [go_sem, ints, List.map_cons, List.map_nil]) ?_
    rintro out ⟨k2, rfl, h4⟩
    refine S_ ?_
    refine hQ1 _ _ (S_ ?_);clear hQ1 Q1
    refine g_ [2] ?_
    refine wpM_ret ?_
    try refine S_ ?_
    first
    | refine hQ _ _ (ret0 [(id, some (rdObj bs (q' + 1 + 1)))] rfl rfl rfl (by rw [Tryz.results76] <;> simp (maxSteps := 1000000) -implicitDefEqProofs (disch := omega) only [go_sem] <;> rfl) ⟨_, q' + 1 + 1, ⟨Ex.mk k2 e.n e.a e.kids, by rw [Ex.sz_eq] at hes; simp only [Ex.sz]; omega, by first | rfl | (rw [Ex.cs_eq]; done)⟩, by omega, by omega, rfl⟩ ?_ ?_ ?_ ?_) <;> (simp -implicitDefEqProofs (disch := omega) only [go_sem, rdObj, true_or, or_true]; done)
    | refine hQ _ _ (ret0 [(id, some (rdObj bs (q' + 1 + 1)))] rfl rfl rfl (by rw [Tryz.results76] <;> simp (maxSteps := 1000000) -implicitDefEqProofs (disch := omega) only [go_sem] <;> rfl) ⟨_, q' + 1 + 1, ⟨Ex.mk e.kind k3 e.a e.kids, by rw [Ex.sz_eq] at hes; simp only [Ex.sz]; omega, by first | rfl | (rw [Ex.cs_eq]; done)⟩, by omega, by omega, rfl⟩ ?_ ?_ ?_ ?_) <;> (simp -implicitDefEqProofs (disch := omega) only [go_sem, rdObj, true_or, or_true]; done)
    | refine hQ _ _ (ret0 [(id, some (rdObj bs (q2)))] rfl rfl rfl (by rw [Tryz.results76] <;> simp (maxSteps := 1000000) -implicitDefEqProofs (disch := omega) only [go_sem] <;> rfl) ⟨_, q2, ⟨Ex.mk e.kind e.n a e.kids, by rw [Ex.sz_eq] at hes; simp only [Ex.sz]; omega, by first | rfl | (rw [Ex.cs_eq]; done)⟩, by omega, by omega, rfl⟩ ?_ ?_ ?_ ?_) <;> (simp -implicitDefEqProofs (disch := omega) only [go_sem, rdObj, true_or, or_true]; done)
    | refine hQ _ _ (ret0 [(id, some (rdObj bs (q' + 1)))] rfl rfl rfl (by rw [Tryz.results76] <;> simp (maxSteps := 1000000) -implicitDefEqProofs (disch := omega) only [go_sem] <;> rfl) ⟨_, q' + 1, ⟨e0, by omega, by first | rfl | (rw [Ex.cs_eq]; done)⟩, by omega, by omega, rfl⟩ ?_ ?_ ?_ ?_) <;> (simp -implicitDefEqProofs (disch := omega) only [go_sem, rdObj, true_or, or_true]; done)
    | refine hQ _ _ (ret0 [(id, some (rdObj bs (q' + 1)))] rfl rfl rfl (by rw [Tryz.results76] <;> simp (maxSteps := 1000000) -implicitDefEqProofs (disch := omega) only [go_sem] <;> rfl) ⟨_, q' + 1, ⟨e0, by (have h4 : i1 = 4 := by omega); subst h4; omega, by first | rfl | (rw [Ex.cs_eq]; done)⟩, by omega, by omega, rfl⟩ ?_ ?_ ?_ ?_) <;> (simp -implicitDefEqProofs (disch := omega) only [go_sem, rdObj, true_or, or_true]; done)
    | refine hQ _ _ (ret0 [(id, some (rdObj bs (q' + 1)))] rfl rfl rfl (by rw [Tryz.results76] <;> simp (maxSteps := 1000000) -implicitDefEqProofs (disch := omega) only [go_sem] <;> rfl) ⟨_, q' + 1, ⟨e, by omega, by first | rfl | (rw [Ex.cs_eq]; done)⟩, by omega, by omega, rfl⟩ ?_ ?_ ?_ ?_) <;> (simp -implicitDefEqProofs (disch := omega) only [go_sem, rdObj, true_or, or_true]; done)
  refine g_ [0,2,3,9,16] ?_
  refine c_ (fun hc1 => ?_) fun hc1 => ?_
  ·
    refine wpM_regionK [2,3] rfl fun Q1 hQ1 => ?_
    refine S_ ?_
    refine call_fn (l := [(id, rdObj bs (q' + 1)), (B + 2, .cells 3 (ints [1, 1000001]))]) (first := []) (cap := []) (ps := [.ptr id 0, .sl 3 (B + 2) 0 2]) (num_ok id (B + 2) bs (q' + 1) [1, 1000001] 2 rfl (by omega) (by omega) (by omega) hbs (by omega) (by omega)) Tryz.call41 rfl rfl rfl G_ (by simp -implicitDefEqProofs (disch := omega) only [go_sem, ints, List.map_cons, List.map_nil]) ?_
    rintro out ⟨k3, rfl, h4⟩
    refine S_ ?_
    refine hQ1 _ _ (S_ ?_);clear hQ1 Q1
    refine g_ [2] ?_
    refine wpM_ret ?_
    try refine S_ ?_
    first
    | refine hQ _ _ (ret0 [(id, some (rdObj bs (q' + 1 + 1)))] rfl rfl rfl (by rw [Tryz.results76] <;> simp (maxSteps := 1000000) -implicitDefEqProofs (disch := omega) only [go_sem] <;> rfl) ⟨_, q' + 1 + 1, ⟨Ex.mk k2 e.n e.a e.kids, by rw [Ex.sz_eq] at hes; simp only [Ex.sz]; omega, by first | rfl | (rw [Ex.cs_eq]; done)⟩, by omega, by omega, rfl⟩ ?_ ?_ ?_ ?_) <;> (simp -implicitDefEqProofs (disch := omega) only [go_sem, rdObj, true_or, or_true]; done)
    | refine hQ _ _ (ret0 [(id, some (rdObj bs (q' + 1 + 1)))] rfl rfl rfl (by rw [Tryz.results76] <;> simp (maxSteps := 1000000) -implicitDefEqProofs (disch := omega) only [go_sem] <;> rfl) ⟨_, q' + 1 + 1, ⟨Ex.mk e.kind k3 e.a e.kids, by rw [Ex.sz_eq] at hes; simp only [Ex.sz]; omega, by first | rfl | (rw [Ex.cs_eq]; done)⟩, by omega, by omega, rfl⟩ ?_ ?_ ?_ ?_) <;> (simp -implicitDefEqProofs (disch := omega) only [go_sem, rdObj, true_or, or_true]; done)
    | refine hQ _ _ (ret0 [(id, some (rdObj bs (q2)))] rfl rfl rfl (by rw [Tryz.results76] <;> simp (maxSteps := 1000000) -implicitDefEqProofs (disch := omega) only [go_sem] <;> rfl) ⟨_, q2, ⟨Ex.mk e.kind e.n a e.kids, by rw [Ex.sz_eq] at hes; simp only [Ex.sz]; omega, by first | rfl | (rw [Ex.cs_eq]; done)⟩, by omega, by omega, rfl⟩ ?_ ?_ ?_ ?_) <;> (simp -implicitDefEqProofs (disch := omega) only [go_sem, rdObj, true_or, or_true]; done)
    | refine hQ _ _ (ret0 [(id, some (rdObj bs (q' + 1)))] rfl rfl rfl (by rw [Tryz.results76] <;> simp (maxSteps := 1000000) -implicitDefEqProofs (disch := omega) only [go_sem] <;> rfl) ⟨_, q' + 1, ⟨e0, by omega, by first | rfl | (rw [Ex.cs_eq]; done)⟩, by omega, by omega, rfl⟩ ?_ ?_ ?_ ?_) <;> (simp -implicitDefEqProofs (disch := omega) only [go_sem, rdObj, true_or, or_true]; done)
    | refine hQ _ _ (ret0 [(id, some (rdObj bs (q' + 1)))] rfl rfl rfl (by rw [Tryz.results76] <;> simp (maxSteps := 1000000) -implicitDefEqProofs (disch := omega) only [go_sem] <;> rfl) ⟨_, q' + 1, ⟨e0, by (have h4 : i1 = 4 := by omega); subst h4; omega, by first | rfl | (rw [Ex.cs_eq]; done)⟩, by omega, by omega, rfl⟩ ?_ ?_ ?_ ?_) <;> (simp -implicitDefEqProofs (disch := omega) only [go_sem, rdObj, true_or, or_true]; done)
    | refine hQ _ _ (ret0 [(id, some (rdObj bs (q' + 1)))] rfl rfl rfl (by rw [Tryz.results76] <;> simp (maxSteps := 1000000) -implicitDefEqProofs (disch := omega) only [go_sem] <;> rfl) ⟨_, q' + 1, ⟨e, by omega, by first | rfl | (rw [Ex.cs_eq]; done)⟩, by omega, by omega, rfl⟩ ?_ ?_ ?_ ?_) <;> (simp -implicitDefEqProofs (disch := omega) only [go_sem, rdObj, true_or, or_true]; done)
  refine g_ [0,2,3,9,22] ?_
  refine c_ (fun hc2 => ?_) fun hc2 => ?_
  ·
    refine wpM_regionK [2,3] rfl fun Q1 hQ1 => ?_
    refine S_ ?_
    refine call_fn (l := [(id, rdObj bs (q' + 1))]) (first := []) (cap := []) (ps := [.ptr id 0]) (l2AddrBent_ok id bs (q' + 1) hbs (by omega) (by omega)) Tryz.call75 rfl rfl rfl G_ T_ ?_
    rintro out ⟨_, q2, ⟨a, rfl⟩, hqc, hqd, rfl⟩
    refine S_ ?_
    refine hQ1 _ _ (S_ ?_);clear hQ1 Q1
    refine g_ [2] ?_
    refine wpM_ret ?_
    try refine S_ ?_
    first
    | refine hQ _ _ (ret0 [(id, some (rdObj bs (q' + 1 + 1)))] rfl rfl rfl (by rw [Tryz.results76] <;> simp (maxSteps := 1000000) -implicitDefEqProofs (disch := omega) only [go_sem] <;> rfl) ⟨_, q' + 1 + 1, ⟨Ex.mk k2 e.n e.a e.kids, by rw [Ex.sz_eq] at hes; simp only [Ex.sz]; omega, by first | rfl | (rw [Ex.cs_eq]; done)⟩, by omega, by omega, rfl⟩ ?_ ?_ ?_ ?_) <;> (simp -implicitDefEqProofs (disch := omega) only [go_sem, rdObj, true_or, or_true]; done)
    | refine hQ _ _ (ret0 [(id, some (rdObj bs (q' + 1 + 1)))] rfl rfl rfl (by rw [Tryz.results76] <;> simp (maxSteps := 1000000) -implicitDefEqProofs (disch := omega) only [go_sem] <;> rfl) ⟨_, q' + 1 + 1, ⟨Ex.mk e.kind k3 e.a e.kids, by rw [Ex.sz_eq] at hes; simp only [Ex.sz]; omega, by first | rfl | (rw [Ex.cs_eq]; done)⟩, by omega, by omega, rfl⟩ ?_ ?_ ?_ ?_) <;> (simp -implicitDefEqProofs (disch := omega) only [go_sem, rdObj, true_or, or_true]; done)
    | refine hQ _ _ (ret0 [(id, some (rdObj bs (q2)))] rfl rfl rfl (by rw [Tryz.results76] <;> simp (maxSteps := 1000000) -implicitDefEqProofs (disch := omega) only [go_sem] <;> rfl) ⟨_, q2, ⟨Ex.mk e.kind e.n a e.kids, by rw [Ex.sz_eq] at hes; simp only [Ex.sz]; omega, by first | rfl | (rw [Ex.cs_eq]; done)⟩, by omega, by omega, rfl⟩ ?_ ?_ ?_ ?_) <;> (simp -implicitDefEqProofs (disch := omega) only [go_sem, rdObj, true_or, or_true]; done)
    | refine hQ _ _ (ret0 [(id, some (rdObj bs (q' + 1)))] rfl rfl rfl (by rw [Tryz.results76] <;> simp (maxSteps := 1000000) -implicitDefEqProofs (disch := omega) only [go_sem] <;> rfl) ⟨_, q' + 1, ⟨e0, by omega, by first | rfl | (rw [Ex.cs_eq]; done)⟩, by omega, by omega, rfl⟩ ?_ ?_ ?_ ?_) <;> (simp -implicitDefEqProofs (disch := omega) only [go_sem, rdObj, true_or, or_true]; done)
    | refine hQ _ _ (ret0 [(id, some (rdObj bs (q' + 1)))] rfl rfl rfl (by rw [Tryz.results76] <;> simp (maxSteps := 1000000) -implicitDefEqProofs (disch := omega) only [go_sem] <;> rfl) ⟨_, q' + 1, ⟨e0, by (have h4 : i1 = 4 := by omega); subst h4; omega, by first | rfl | (rw [Ex.cs_eq]; done)⟩, by omega, by omega, rfl⟩ ?_ ?_ ?_ ?_) <;> (simp -implicitDefEqProofs (disch := omega) only [go_sem, rdObj, true_or, or_true]; done)
    | refine hQ _ _ (ret0 [(id, some (rdObj bs (q' + 1)))] rfl rfl rfl (by rw [Tryz.results76] <;> simp (maxSteps := 1000000) -implicitDefEqProofs (disch := omega) only [go_sem] <;> rfl) ⟨_, q' + 1, ⟨e, by omega, by first | rfl | (rw [Ex.cs_eq]; done)⟩, by omega, by omega, rfl⟩ ?_ ?_ ?_ ?_) <;> (simp -implicitDefEqProofs (disch := omega) only [go_sem, rdObj, true_or, or_true]; done)
  refine g_ [2,3,9,27] ?_
  refine c_ (fun hc3 => ?_) fun hc3 => ?_
  ·
    refine g_ [2,3,4] ?_
    refine n_ ?_
    refine wpM_loopS (fun s n s' => ∃ (i0 M0 : Nat) (e0 : Ex), i0 + n = 6 ∧ s.M ≤ M0 ∧ (e0.sz ≤ 31 + i0) ∧ s' = { s with env := setE 4 (.int .i64 (i0 : Nat)) s.env, l := setl (B + 1) (.cells 50 e0.cs) s.l, M := M0 }) (6) ?_ ?_
    ·
      refine .of' _ _ ⟨0, _, e, by omega, Nat.le_refl _, by omega, rfl⟩ ?_ ?_ ?_ <;> exact L_
    rintro n0 s' ⟨i0, M0, e0, hi0, hM0, hv0, rfl⟩
    try dsimp only at hM0
    try refine S_ ?_
    refine g_ [2,3,4,30] ?_
    refine c_ (fun hc4 => ?_) fun hc4 => ?_
    ·
      have hl0 : i0 < 6 := by omega
      refine g_ [2,3,4] ?_
      refine wpM_frz [M0] [(50, M0, 0, 1, Ex.csL [e0])] (by intro q hq; simp at hq; subst hq; simp -implicitDefEqProofs (disch := omega) only [go_sem]) (by intro q hq; simp only [List.mem_cons, List.not_mem_nil, or_false] at hq; subst hq; exact ⟨by simp, rowsOf_exc (T := 50) (l := [e0]) (by rw [← exc_one, Ex.cs_eq]; simp -implicitDefEqProofs (disch := omega) only [go_sem])⟩) ?_
      simp -implicitDefEqProofs (disch := omega) only [go_sem, rdObj]
      refine g_ [2,3,4] ?_
      refine .of' _ _ ⟨n0 - 1, by omega, i0 + 1, _, Ex.mk 10 0 ⟨0, 0⟩ [e0], by omega, M_, ?_, rfl⟩ L_ L_ L_
      simp only [Ex.sz, Ex.szL]; omega
    refine g_ [2] ?_
    refine wpM_ret ?_
    try refine S_ ?_
    first
    | refine hQ _ _ (ret0 [(id, some (rdObj bs (q' + 1 + 1)))] rfl rfl rfl (by rw [Tryz.results76] <;> simp (maxSteps := 1000000) -implicitDefEqProofs (disch := omega) only [go_sem] <;> rfl) ⟨_, q' + 1 + 1, ⟨Ex.mk k2 e.n e.a e.kids, by rw [Ex.sz_eq] at hes; simp only [Ex.sz]; omega, by first | rfl | (rw [Ex.cs_eq]; done)⟩, by omega, by omega, rfl⟩ ?_ ?_ ?_ ?_) <;> (simp -implicitDefEqProofs (disch := omega) only [go_sem, rdObj, true_or, or_true]; done)
    | refine hQ _ _ (ret0 [(id, some (rdObj bs (q' + 1 + 1)))] rfl rfl rfl (by rw [Tryz.results76] <;> simp (maxSteps := 1000000) -implicitDefEqProofs (disch := omega) only [go_sem] <;> rfl) ⟨_, q' + 1 + 1, ⟨Ex.mk e.kind k3 e.a e.kids, by rw [Ex.sz_eq] at hes; simp only [Ex.sz]; omega, by first | rfl | (rw [Ex.cs_eq]; done)⟩, by omega, by omega, rfl⟩ ?_ ?_ ?_ ?_) <;> (simp -implicitDefEqProofs (disch := omega) only [go_sem, rdObj, true_or, or_true]; done)
    | refine hQ _ _ (ret0 [(id, some (rdObj bs (q2)))] rfl rfl rfl (by rw [Tryz.results76] <;> simp (maxSteps := 1000000) -implicitDefEqProofs (disch := omega) only [go_sem] <;> rfl) ⟨_, q2, ⟨Ex.mk e.kind e.n a e.kids, by rw [Ex.sz_eq] at hes; simp only [Ex.sz]; omega, by first | rfl | (rw [Ex.cs_eq]; done)⟩, by omega, by omega, rfl⟩ ?_ ?_ ?_ ?_) <;> (simp -implicitDefEqProofs (disch := omega) only [go_sem, rdObj, true_or, or_true]; done)
    | refine hQ _ _ (ret0 [(id, some (rdObj bs (q' + 1)))] rfl rfl rfl (by rw [Tryz.results76] <;> simp (maxSteps := 1000000) -implicitDefEqProofs (disch := omega) only [go_sem] <;> rfl) ⟨_, q' + 1, ⟨e0, by omega, by first | rfl | (rw [Ex.cs_eq]; done)⟩, by omega, by omega, rfl⟩ ?_ ?_ ?_ ?_) <;> (simp -implicitDefEqProofs (disch := omega) only [go_sem, rdObj, true_or, or_true]; done)
    | refine hQ _ _ (ret0 [(id, some (rdObj bs (q' + 1)))] rfl rfl rfl (by rw [Tryz.results76] <;> simp (maxSteps := 1000000) -implicitDefEqProofs (disch := omega) only [go_sem] <;> rfl) ⟨_, q' + 1, ⟨e0, by (have h4 : i1 = 4 := by omega); subst h4; omega, by first | rfl | (rw [Ex.cs_eq]; done)⟩, by omega, by omega, rfl⟩ ?_ ?_ ?_ ?_) <;> (simp -implicitDefEqProofs (disch := omega) only [go_sem, rdObj, true_or, or_true]; done)
    | refine hQ _ _ (ret0 [(id, some (rdObj bs (q' + 1)))] rfl rfl rfl (by rw [Tryz.results76] <;> simp (maxSteps := 1000000) -implicitDefEqProofs (disch := omega) only [go_sem] <;> rfl) ⟨_, q' + 1, ⟨e, by omega, by first | rfl | (rw [Ex.cs_eq]; done)⟩, by omega, by omega, rfl⟩ ?_ ?_ ?_ ?_) <;> (simp -implicitDefEqProofs (disch := omega) only [go_sem, rdObj, true_or, or_true]; done)
  refine g_ [2,3,36] ?_
  refine c_ (fun hc5 => ?_) fun hc5 => ?_
  ·
    refine g_ [2,3,5] ?_
    refine n_ ?_
    refine wpM_loopS (fun s n s' => ∃ (i1 M1 : Nat) (e0 : Ex), i1 + n = 4 ∧ s.M ≤ M1 ∧ (e0.sz + 1 ≤ 32 * 2 ^ i1) ∧ s' = { s with env := setE 5 (.int .i64 (i1 : Nat)) s.env, l := setl (B + 1) (.cells 50 e0.cs) s.l, M := M1 }) (4) ?_ ?_
    ·
      refine .of' _ _ ⟨0, _, e, by omega, Nat.le_refl _, by simp; omega, rfl⟩ ?_ ?_ ?_ <;> exact L_
    rintro n1 s' ⟨i1, M1, e0, hi1, hM1, hv1, rfl⟩
    try dsimp only at hM1
    try refine S_ ?_
    refine g_ [2,3,5,39] ?_
    refine c_ (fun hc6 => ?_) fun hc6 => ?_
    ·
      have hl1 : i1 < 4 := by omega
      have hp2 : 2 ^ i1 ≤ 8 := by
        have : i1 = 0 ∨ i1 = 1 ∨ i1 = 2 ∨ i1 = 3 := by omega
        rcases this with rfl | rfl | rfl | rfl <;> simp
      have hsz : e0.sz ≤ 1000 := by omega
      refine n_ ?_
      refine dr_ mixed [2,3,5] 1 1 [B + 1, M1] [⟨[3],[0],[],[],false⟩,⟨[3],[0],[],[],false⟩,⟨[43],[],[],[],true⟩,⟨[42,44],[],[],[1],false⟩,⟨[45],[],[],[],false⟩,⟨[3,46],[0],[0],[],false⟩] [0,1,2,3,4,5] [[],[],[1],[0,1,2],[0,1,2,3],[0,1,2,3,4]] 2 (htbl := by simp; omega) (hnm := by simp) ?_
      intro O A K hO hA hK;simp only [atL_cons,atL_nil,Nat.reduceAdd,Nat.zero_add] at hO hA
      refine SO_ ?_
      refine lp_ (l3Copy_ok e0.sz e0 (Nat.le_refl _) (by omega)) Tryz.call66 ?_
      refine hK _ (S_ ?_);clear hK K hO hA O A
      refine wpM_frz [M1] [(50, M1, 0, 2, Ex.csL [e0, e0])] (by intro q hq; simp at hq; subst hq; simp -implicitDefEqProofs (disch := omega) only [go_sem]) (by intro q hq; simp only [List.mem_cons, List.not_mem_nil, or_false] at hq; subst hq; exact ⟨by simp, rowsOf_exc (T := 50) (l := [e0, e0]) (by rw [show [e0, e0] = [e0] ++ [e0] from rfl, ← exc_app, ← exc_one, Ex.cs_eq]; simp -implicitDefEqProofs (disch := omega) only [go_sem])⟩) ?_
      simp -implicitDefEqProofs (disch := omega) only [go_sem, rdObj]
      refine g_ [2,3,5] ?_
      refine .of' _ _ ⟨n1 - 1, by omega, i1 + 1, _, Ex.mk 3 0 ⟨0, 0⟩ [e0, e0], by omega, M_, ?_, rfl⟩ L_ L_ L_
      simp only [Ex.sz, Ex.szL, Nat.pow_succ]; omega
    refine g_ [2] ?_
    refine wpM_ret ?_
    try refine S_ ?_
    first
    | refine hQ _ _ (ret0 [(id, some (rdObj bs (q' + 1 + 1)))] rfl rfl rfl (by rw [Tryz.results76] <;> simp (maxSteps := 1000000) -implicitDefEqProofs (disch := omega) only [go_sem] <;> rfl) ⟨_, q' + 1 + 1, ⟨Ex.mk k2 e.n e.a e.kids, by rw [Ex.sz_eq] at hes; simp only [Ex.sz]; omega, by first | rfl | (rw [Ex.cs_eq]; done)⟩, by omega, by omega, rfl⟩ ?_ ?_ ?_ ?_) <;> (simp -implicitDefEqProofs (disch := omega) only [go_sem, rdObj, true_or, or_true]; done)
    | refine hQ _ _ (ret0 [(id, some (rdObj bs (q' + 1 + 1)))] rfl rfl rfl (by rw [Tryz.results76] <;> simp (maxSteps := 1000000) -implicitDefEqProofs (disch := omega) only [go_sem] <;> rfl) ⟨_, q' + 1 + 1, ⟨Ex.mk e.kind k3 e.a e.kids, by rw [Ex.sz_eq] at hes; simp only [Ex.sz]; omega, by first | rfl | (rw [Ex.cs_eq]; done)⟩, by omega, by omega, rfl⟩ ?_ ?_ ?_ ?_) <;> (simp -implicitDefEqProofs (disch := omega) only [go_sem, rdObj, true_or, or_true]; done)
    | refine hQ _ _ (ret0 [(id, some (rdObj bs (q2)))] rfl rfl rfl (by rw [Tryz.results76] <;> simp (maxSteps := 1000000) -implicitDefEqProofs (disch := omega) only [go_sem] <;> rfl) ⟨_, q2, ⟨Ex.mk e.kind e.n a e.kids, by rw [Ex.sz_eq] at hes; simp only [Ex.sz]; omega, by first | rfl | (rw [Ex.cs_eq]; done)⟩, by omega, by omega, rfl⟩ ?_ ?_ ?_ ?_) <;> (simp -implicitDefEqProofs (disch := omega) only [go_sem, rdObj, true_or, or_true]; done)
    | refine hQ _ _ (ret0 [(id, some (rdObj bs (q' + 1)))] rfl rfl rfl (by rw [Tryz.results76] <;> simp (maxSteps := 1000000) -implicitDefEqProofs (disch := omega) only [go_sem] <;> rfl) ⟨_, q' + 1, ⟨e0, by omega, by first | rfl | (rw [Ex.cs_eq]; done)⟩, by omega, by omega, rfl⟩ ?_ ?_ ?_ ?_) <;> (simp -implicitDefEqProofs (disch := omega) only [go_sem, rdObj, true_or, or_true]; done)
    | refine hQ _ _ (ret0 [(id, some (rdObj bs (q' + 1)))] rfl rfl rfl (by rw [Tryz.results76] <;> simp (maxSteps := 1000000) -implicitDefEqProofs (disch := omega) only [go_sem] <;> rfl) ⟨_, q' + 1, ⟨e0, by (have h4 : i1 = 4 := by omega); subst h4; omega, by first | rfl | (rw [Ex.cs_eq]; done)⟩, by omega, by omega, rfl⟩ ?_ ?_ ?_ ?_) <;> (simp -implicitDefEqProofs (disch := omega) only [go_sem, rdObj, true_or, or_true]; done)
    | refine hQ _ _ (ret0 [(id, some (rdObj bs (q' + 1)))] rfl rfl rfl (by rw [Tryz.results76] <;> simp (maxSteps := 1000000) -implicitDefEqProofs (disch := omega) only [go_sem] <;> rfl) ⟨_, q' + 1, ⟨e, by omega, by first | rfl | (rw [Ex.cs_eq]; done)⟩, by omega, by omega, rfl⟩ ?_ ?_ ?_ ?_) <;> (simp -implicitDefEqProofs (disch := omega) only [go_sem, rdObj, true_or, or_true]; done)
  refine g_ [2] ?_
  refine wpM_ret ?_
  try refine S_ ?_
  first
  | refine hQ _ _ (ret0 [(id, some (rdObj bs (q' + 1 + 1)))] rfl rfl rfl (by rw [Tryz.results76] <;> simp (maxSteps := 1000000) -implicitDefEqProofs (disch := omega) only [go_sem] <;> rfl) ⟨_, q' + 1 + 1, ⟨Ex.mk k2 e.n e.a e.kids, by rw [Ex.sz_eq] at hes; simp only [Ex.sz]; omega, by first | rfl | (rw [Ex.cs_eq]; done)⟩, by omega, by omega, rfl⟩ ?_ ?_ ?_ ?_) <;> (simp -implicitDefEqProofs (disch := omega) only [go_sem, rdObj, true_or, or_true]; done)
  | refine hQ _ _ (ret0 [(id, some (rdObj bs (q' + 1 + 1)))] rfl rfl rfl (by rw [Tryz.results76] <;> simp (maxSteps := 1000000) -implicitDefEqProofs (disch := omega) only [go_sem] <;> rfl) ⟨_, q' + 1 + 1, ⟨Ex.mk e.kind k3 e.a e.kids, by rw [Ex.sz_eq] at hes; simp only [Ex.sz]; omega, by first | rfl | (rw [Ex.cs_eq]; done)⟩, by omega, by omega, rfl⟩ ?_ ?_ ?_ ?_) <;> (simp -implicitDefEqProofs (disch := omega) only [go_sem, rdObj, true_or, or_true]; done)
  | refine hQ _ _ (ret0 [(id, some (rdObj bs (q2)))] rfl rfl rfl (by rw [Tryz.results76] <;> simp (maxSteps := 1000000) -implicitDefEqProofs (disch := omega) only [go_sem] <;> rfl) ⟨_, q2, ⟨Ex.mk e.kind e.n a e.kids, by rw [Ex.sz_eq] at hes; simp only [Ex.sz]; omega, by first | rfl | (rw [Ex.cs_eq]; done)⟩, by omega, by omega, rfl⟩ ?_ ?_ ?_ ?_) <;> (simp -implicitDefEqProofs (disch := omega) only [go_sem, rdObj, true_or, or_true]; done)
  | refine hQ _ _ (ret0 [(id, some (rdObj bs (q' + 1)))] rfl rfl rfl (by rw [Tryz.results76] <;> simp (maxSteps := 1000000) -implicitDefEqProofs (disch := omega) only [go_sem] <;> rfl) ⟨_, q' + 1, ⟨e0, by omega, by first | rfl | (rw [Ex.cs_eq]; done)⟩, by omega, by omega, rfl⟩ ?_ ?_ ?_ ?_) <;> (simp -implicitDefEqProofs (disch := omega) only [go_sem, rdObj, true_or, or_true]; done)
  | refine hQ _ _ (ret0 [(id, some (rdObj bs (q' + 1)))] rfl rfl rfl (by rw [Tryz.results76] <;> simp (maxSteps := 1000000) -implicitDefEqProofs (disch := omega) only [go_sem] <;> rfl) ⟨_, q' + 1, ⟨e0, by (have h4 : i1 = 4 := by omega); subst h4; omega, by first | rfl | (rw [Ex.cs_eq]; done)⟩, by omega, by omega, rfl⟩ ?_ ?_ ?_ ?_) <;> (simp -implicitDefEqProofs (disch := omega) only [go_sem, rdObj, true_or, or_true]; done)
  | refine hQ _ _ (ret0 [(id, some (rdObj bs (q' + 1)))] rfl rfl rfl (by rw [Tryz.results76] <;> simp (maxSteps := 1000000) -implicitDefEqProofs (disch := omega) only [go_sem] <;> rfl) ⟨_, q' + 1, ⟨e, by omega, by first | rfl | (rw [Ex.cs_eq]; done)⟩, by omega, by omega, rfl⟩ ?_ ?_ ?_ ?_) <;> (simp -implicitDefEqProofs (disch := omega) only [go_sem, rdObj, true_or, or_true]; done)
end Go.Proofs.YtmicbfojofcigaaGreatDoor
namespace Go.Proofs.YtmicbfojofcigaaGreatDoor
open Go Sg
set_option linter.unusedSectionVars false
variable [Glob]
set_option maxRecDepth 100000
set_option linter.unusedSimpArgs false
set_option linter.unusedVariables false
set_option maxHeartbeats 4000000
end Go.Proofs.YtmicbfojofcigaaGreatDoor
namespace Go.Proofs.YtmicbfojofcigaaGreatDoor
open Go Sg
set_option linter.unusedSectionVars false
variable [Glob]
set_option maxRecDepth 100000
set_option linter.unusedSimpArgs false
set_option linter.unusedVariables false
set_option maxHeartbeats 4000000
@[go_sem high] theorem rdObj_sub (θ : TypeId → Nat → Nat → Nat → Option PV) (bs : List Nat) (q : Int) : subObj θ (rdObj bs q) = rdObj bs q := by simp [rdObj, subObj, PV.subL, PV.sub]
def trc (l : List Trn) : List PV := (rowsT l).flatten
def acc (l : List GAct) : List PV := (rowsA l).flatten
@[go_sem] theorem trc_len (l : List Trn) : (trc l).length = l.length * 7 := by
  induction l with
  | nil => rfl
  | cons e l ih => simp only [trc, rowsT, List.map_cons, List.flatten_cons, List.length_append, Trn.cs, List.length_cons, List.length_nil] at ih ⊢; omega
@[go_sem] theorem acc_len (l : List GAct) : (acc l).length = l.length * 4 := by
  induction l with
  | nil => rfl
  | cons e l ih => simp only [acc, rowsA, List.map_cons, List.flatten_cons, List.length_append, GAct.cs, List.length_cons, List.length_nil] at ih ⊢; omega
@[go_sem] theorem trc_nil : trc [] = [] := rfl
@[go_sem] theorem acc_nil : acc [] = [] := rfl
theorem trc_app (l : List Trn) (e : Trn) : trc l ++ e.cs = trc (l ++ [e]) := by simp [trc, rowsT]
theorem acc_app (l : List GAct) (e : GAct) : acc l ++ e.cs = acc (l ++ [e]) := by simp [acc, rowsA]
theorem trc_one (e : Trn) : e.cs = trc [e] := by simp [trc, rowsT]
theorem acc_one (e : GAct) : e.cs = acc [e] := by simp [acc, rowsA]
@[go_sem] theorem trc_ids (p : Nat → Prop) (l : List Trn) : PV.idsL p (trc l) = True := by
  induction l with
  | nil => simp [trc, rowsT, PV.idsL]
  | cons e l ih => simp only [trc, rowsT, List.map_cons, List.flatten_cons] at ih ⊢; rw [idsL_app, ih]; simp [Trn.cs, PV.idsL, PV.ids]
@[go_sem] theorem acc_ids (p : Nat → Prop) (l : List GAct) : PV.idsL p (acc l) = True := by
  induction l with
  | nil => simp [acc, rowsA, PV.idsL]
  | cons e l ih => simp only [acc, rowsA, List.map_cons, List.flatten_cons] at ih ⊢; rw [idsL_app, ih]; simp [GAct.cs, PV.idsL, PV.ids]
@[go_sem] theorem trc_ren (p : Nat → Nat) (l : List Trn) : PV.renL p (trc l) = trc l := by
  induction l with
  | nil => simp [trc, rowsT, PV.renL]
  | cons e l ih => simp only [trc, rowsT, List.map_cons, List.flatten_cons] at ih ⊢; rw [renL_app, ih]; simp [Trn.cs, PV.renL, PV.ren]
@[go_sem] theorem acc_ren (p : Nat → Nat) (l : List GAct) : PV.renL p (acc l) = acc l := by
  induction l with
  | nil => simp [acc, rowsA, PV.renL]
  | cons e l ih => simp only [acc, rowsA, List.map_cons, List.flatten_cons] at ih ⊢; rw [renL_app, ih]; simp [GAct.cs, PV.renL, PV.ren]
@[go_sem] theorem trc_sub (θ : TypeId → Nat → Nat → Nat → Option PV) (l : List Trn) : PV.subL θ (trc l) = trc l := by
  induction l with
  | nil => simp [trc, rowsT, PV.subL]
  | cons e l ih => simp only [trc, rowsT, List.map_cons, List.flatten_cons] at ih ⊢; rw [subL_app, ih]; simp [Trn.cs, PV.subL, PV.sub]
@[go_sem] theorem acc_sub (θ : TypeId → Nat → Nat → Nat → Option PV) (l : List GAct) : PV.subL θ (acc l) = acc l := by
  induction l with
  | nil => simp [acc, rowsA, PV.subL]
  | cons e l ih => simp only [acc, rowsA, List.map_cons, List.flatten_cons] at ih ⊢; rw [subL_app, ih]; simp [GAct.cs, PV.subL, PV.sub]
def TSm (l : List Trn) : Prop := l.length ≤ 10 ∧ ∀ t ∈ l, t.Sm
theorem TSm.app {l : List Trn} {t : Trn} (h : TSm l) (hl : l.length < 10) (ht : t.Sm) : TSm (l ++ [t]) := ⟨by simp; omega, fun x hx => by
  rcases List.mem_append.1 hx with h1 | h1
  · exact h.2 x h1
  · rw [List.mem_singleton.1 h1]; exact ht⟩
theorem TSm.nil : TSm [] := ⟨by simp, fun x hx => by simp at hx⟩
end Go.Proofs.YtmicbfojofcigaaGreatDoor
namespace Go.Proofs.YtmicbfojofcigaaGreatDoor
open Go Sg
set_option linter.unusedSectionVars false
variable [Glob]
set_option maxRecDepth 100000
set_option linter.unusedSimpArgs false
set_option linter.unusedVariables false
set_option maxHeartbeats 4000000
theorem leL_app (c a b : List PV) : PV.leL (c ++ a) (c ++ b) = PV.leL a b := by
  induction c with
  | nil => rfl
  | cons x c ih => simp only [List.cons_append, PV.leL, ih, le_same, true_and]
theorem TSm.cht (st : Int) {ts : List Trn} {acs : List GAct} (h : TSm ts) (ha : acs.length ≤ 10) : (⟨st, ts, acs⟩ : Cht).Sm :=
  ⟨by have := h.1; show ts.length ≤ _; omega, by show acs.length ≤ _; omega, fun i hi => h.2 _ (by rw [List.getD_eq_getElem?_getD, List.getElem?_eq_getElem hi]; exact List.getElem_mem hi)⟩
theorem frzI {r : Option Nat} {N : Nat} {c : Code} {s : MS} {Q : ExitA → MS → Prop} (x n : Nat) (l : List Int) (hn : l.length = n) (hx : s.B ≤ x) (h1 : s.f x = some (.cells 3 (ints l)))
    (h : wpM Tryz.prog r N c (s.frz [x] [(3, x, 0, n, rowsI l)]) Q) : wpM Tryz.prog r N c s Q := by
  refine wpM_frz [x] _ (by intro q hq; simp at hq; subst hq; assumption) (by
      intro q hq
      simp only [List.mem_cons, List.not_mem_nil, or_false] at hq
      subst hq
      exact ⟨by simp, rowsOf_ints' (T := 3) (l := l) h1 hn⟩) h
end Go.Proofs.YtmicbfojofcigaaGreatDoor
namespace Go.Proofs.YtmicbfojofcigaaGreatDoor
open Go Sg
set_option linter.unusedSectionVars false
variable [Glob]
set_option maxRecDepth 100000
set_option linter.unusedSimpArgs false
set_option linter.unusedVariables false
set_option maxHeartbeats 4000000
@[go_sem] theorem flat_bls (l : List Bool) : PV.flatL (bls l) = true := by
  induction l with
  | nil => rfl
  | cons x l ih => simp only [bls, List.map_cons, PV.flatL, PV.flat, Bool.true_and] at ih ⊢; exact ih
@[go_sem] theorem flat_ints (l : List Int) : PV.flatL (ints l) = true := by
  induction l with
  | nil => rfl
  | cons x l ih => simp only [ints, List.map_cons, PV.flatL, PV.flat, Bool.true_and] at ih ⊢; exact ih
@[go_sem high] theorem sub_bls (θ : TypeId → Nat → Nat → Nat → Option PV) (l : List Bool) : PV.subL θ (bls l) = bls l := by
  induction l with
  | nil => rfl
  | cons x l ih => simp only [bls, List.map_cons, PV.subL, PV.sub] at ih ⊢; rw [ih]
@[go_sem high] theorem sub_ints (θ : TypeId → Nat → Nat → Nat → Option PV) (l : List Int) : PV.subL θ (ints l) = ints l := by
  induction l with
  | nil => rfl
  | cons x l ih => simp only [ints, List.map_cons, PV.subL, PV.sub] at ih ⊢; rw [ih]
theorem frzB {r : Option Nat} {N : Nat} {c : Code} {s : MS} {Q : ExitA → MS → Prop} (x n : Nat) (l : List Bool) (hn : l.length = n) (hx : s.B ≤ x) (h1 : s.f x = some (.cells 4 (bls l)))
    (h : wpM Tryz.prog r N c (s.frz [x] [(4, x, 0, n, rowsB l)]) Q) : wpM Tryz.prog r N c s Q := by
  refine wpM_frz [x] _ (by intro q hq; simp at hq; subst hq; assumption) (frz_bls (T := 4) h1 hn) h
end Go.Proofs.YtmicbfojofcigaaGreatDoor
namespace Go.Proofs.YtmicbfojofcigaaGreatDoor
open Go Sg
set_option linter.unusedSectionVars false
variable [Glob]
set_option maxRecDepth 100000
set_option linter.unusedSimpArgs false
set_option linter.unusedVariables false
set_option maxHeartbeats 4000000
end Go.Proofs.YtmicbfojofcigaaGreatDoor
namespace Go.Proofs.YtmicbfojofcigaaGreatDoor
open Go Sg
set_option linter.unusedSectionVars false
variable [Glob]
set_option maxRecDepth 100000
set_option linter.unusedSimpArgs false
set_option linter.unusedVariables false
set_option maxHeartbeats 4000000
theorem frzBP {r : Option Nat} {N : Nat} {c : Code} {s : MS} {Q : ExitA → MS → Prop} (x n : Nat) (l : List Bool) (hn : n ≤ l.length) (hx : s.B ≤ x) (h1 : s.f x = some (.cells 4 (bls l)))
    (h : wpM Tryz.prog r N c (s.frz [x] [(4, x, 0, n, rowsB (l.take n))]) Q) : wpM Tryz.prog r N c s Q := by
  refine wpM_frz [x] _ (by intro q hq; simp at hq; subst hq; assumption) (by
    intro q hq
    simp only [List.mem_cons, List.not_mem_nil, or_false] at hq
    subst hq
    refine ⟨by simp, by rw [cellsOf4]; omega, by simp [rowsB]; omega, ?_, 4, _, h1, ?_, ?_⟩
    · intro c hc
      simp only [rowsB, List.mem_map] at hc
      obtain ⟨x, _, rfl⟩ := hc
      rw [cellsOf4]; exact ⟨rfl, rfl⟩
    · rw [cellsOf4]; simp [bls]; omega
    · rw [cellsOf4, rowsB_flat]; simp [bls, List.map_take]) h
structure KI (c : Cht) (k : Mrk) : Prop where
  ok : c.ok = true → k.on.length = c.steps.toNat ∧ k.kept.length = 6
  on : k.on.length ≤ 6
  kp : k.kept.length ≤ 6
theorem KI.new (c : Cht) : KI c (chtNew c) := by
  unfold chtNew
  cases h : c.ok with
  | true =>
    have h1 := Cht.ok_st h
    simp only [if_true]
    exact ⟨fun _ => ⟨by simp [newM], by simp [newM]⟩, by simp [newM]; omega, by simp [newM]⟩
  | false => exact ⟨fun h' => (by rw [h] at h'; cases h'), by simp, by simp⟩
theorem KI.step {c : Cht} {k : Mrk} (h : KI c k) (m : MM) : KI c (stepM c k m).1 := by
  obtain ⟨h1, h2⟩ := stepM_len c k m
  exact ⟨fun hc => by rw [h1, h2]; exact h.ok hc, by rw [h1]; exact h.on, by rw [h2]; exact h.kp⟩
theorem KI.set {c : Cht} {k : Mrk} (h : KI c k) (i : Nat) (b : Bool) : KI c ⟨k.on.set i b, k.kept⟩ :=
  ⟨fun hc => by simpa using h.ok hc, by simpa using h.on, h.kp⟩
theorem KI.go {c : Cht} {k : Mrk} (h : KI c k) (hc : c.ok = true) : c.Go k.on.length := by rw [(h.ok hc).1]; exact Cht.ok_Go hc
def DStep (c : Cht) (k : Mrk) (m : MM) : Prop := c.Sm ∧ m.Sm ∧ k.on.length ≤ 6 ∧ k.kept.length ≤ 6
end Go.Proofs.YtmicbfojofcigaaGreatDoor
namespace Go.Proofs.YtmicbfojofcigaaGreatDoor
open Go Sg
set_option linter.unusedSectionVars false
variable [Glob]
set_option maxRecDepth 100000
set_option linter.unusedSimpArgs false
set_option linter.unusedVariables false
set_option maxHeartbeats 4000000
@[go_sem] theorem eqlB (x y : Operand) (a b : Bool) : binOpA Tryz.prog .eql 4 x y (.bool a) (.bool b) = some (.bool (a == b)) := by
  simp [binOpA, eqPair, eqA, Tryz.underlying4]
@[go_sem] theorem neqB (x y : Operand) (a b : Bool) : binOpA Tryz.prog .neq 4 x y (.bool a) (.bool b) = some (.bool (a != b)) := by
  simp [binOpA, eqPair, eqA, Tryz.underlying4]; cases a <;> cases b <;> rfl
theorem chtStep_sm (c : Cht) (k : Mrk) (m : MM) : (chtStep c k m).2.Sm := by
  unfold chtStep
  split
  · rename_i h
    simp only [Bool.and_eq_true] at h
    exact MM.Six.sm (stepM_six (MM.ok_six h.2))
  · exact ⟨by simp, by simp, by simp⟩
theorem chtStep_len (c : Cht) (k : Mrk) (m : MM) (h : k.on.length ≤ 6 ∧ k.kept.length ≤ 6) : (chtStep c k m).1.on.length ≤ 6 ∧ (chtStep c k m).1.kept.length ≤ 6 := by
  unfold chtStep
  split
  · have := stepM_len c k m; omega
  · simp
end Go.Proofs.YtmicbfojofcigaaGreatDoor
namespace Go.Proofs.YtmicbfojofcigaaGreatDoor
open Go Sg
set_option linter.unusedSectionVars false
variable [Glob]
set_option maxRecDepth 100000
set_option linter.unusedSimpArgs false
set_option linter.unusedVariables false
set_option maxHeartbeats 4000000
inductive Sm where
  | mk (kind : Int) (to' : AD) (e : Ex) (th el : List Sm)
  deriving Inhabited
def Sm.kind : Sm → Int | .mk k _ _ _ _ => k
def Sm.to' : Sm → AD | .mk _ a _ _ _ => a
def Sm.e : Sm → Ex | .mk _ _ e _ _ => e
def Sm.th : Sm → List Sm | .mk _ _ _ l _ => l
def Sm.el : Sm → List Sm | .mk _ _ _ _ l => l
mutual
def Sm.cs : Sm → List PV
  | .mk k a e th el => [.int .i64 k, .int .i64 a.kind, .int .i64 a.at', .int .i64 e.kind, .int .i64 e.n, .int .i64 e.a.kind, .int .i64 e.a.at', .rows 50 (Ex.csL e.kids), .rows 52 (Sm.csL th), .rows 52 (Sm.csL el)]
def Sm.csL : List Sm → List (List PV)
  | [] => []
  | s :: l => s.cs :: Sm.csL l
end
mutual
def Sm.sz : Sm → Nat | .mk _ _ e th el => 1 + e.sz + Sm.szL th + Sm.szL el
def Sm.szL : List Sm → Nat | [] => 0 | s :: l => s.sz + Sm.szL l
end
@[go_sem] theorem Sm.cs_eq (s : Sm) : s.cs = [.int .i64 s.kind, .int .i64 s.to'.kind, .int .i64 s.to'.at', .int .i64 s.e.kind, .int .i64 s.e.n, .int .i64 s.e.a.kind, .int .i64 s.e.a.at', .rows 50 (Ex.csL s.e.kids), .rows 52 (Sm.csL s.th), .rows 52 (Sm.csL s.el)] := by cases s; simp only [Sm.cs, Sm.kind, Sm.to', Sm.e, Sm.th, Sm.el]
theorem Sm.csL_map (l : List Sm) : Sm.csL l = l.map Sm.cs := by
  induction l with
  | nil => rfl
  | cons e l ih => simp [Sm.csL, ih]
@[go_sem] theorem Sm.csL_len (l : List Sm) : (Sm.csL l).length = l.length := by simp [Sm.csL_map]
@[go_sem] theorem Sm.csL_get (l : List Sm) (k : Nat) (h : k < l.length) : (Sm.csL l).getD k [] = (l.getD k default).cs := by simp [Sm.csL_map, List.getD, h]
theorem Sm.sz_eq (s : Sm) : s.sz = 1 + s.e.sz + Sm.szL s.th + Sm.szL s.el := by cases s; simp only [Sm.sz, Sm.e, Sm.th, Sm.el]
theorem Sm.len_szL (l : List Sm) : l.length ≤ Sm.szL l := by
  induction l with
  | nil => simp
  | cons s l ih => simp only [List.length_cons, Sm.szL]; have := s.sz_eq; omega
theorem Sm.get_szL (l : List Sm) (k : Nat) (h : k < l.length) : (l.getD k default).sz ≤ Sm.szL l := by
  induction l generalizing k with
  | nil => simp at h
  | cons e l ih =>
    simp only [Sm.szL]
    cases k with
    | zero => simp
    | succ k =>
      have := ih k (by simpa using h)
      simp only [List.getD_cons_succ]; omega
theorem Sm.get_in {l : List Sm} {k : Nat} (h : k < l.length) : (l.getD k default).e.sz + Sm.szL (l.getD k default).th + Sm.szL (l.getD k default).el < Sm.szL l := by
  have h1 := Sm.get_szL l k h
  have h2 := (l.getD k default).sz_eq
  omega
def manyS : Nat → List Sm → Nat
  | 0, l => l.length
  | d + 1, l => l.length + (l.map fun s => manyS d s.th + manyS d s.el).sum
theorem manyS_le (d : Nat) : ∀ l : List Sm, manyS d l ≤ Sm.szL l := by
  induction d with
  | zero => intro l; exact Sm.len_szL l
  | succ d ih =>
    intro l
    simp only [manyS]
    induction l with
    | nil => simp
    | cons s l ihl => simp only [List.length_cons, List.map_cons, List.sum_cons, Sm.szL]; have h1 := ih s.th; have h2 := ih s.el; have := s.sz_eq; omega
theorem l4Many_ok (d : Nat) : ∀ (l : List Sm) (deep : Int), deep.toNat = d → deep ≤ 1000000 → Sm.szL l ≤ 1099511627776 → PureF Tryz.prog 36 [.rows 52 (Sm.csL l), .int .i64 deep] [.int .i64 (manyS d l : Nat)] := by
  induction d with
  | zero =>
    intro l deep hd hdl hs
    have hlen := Sm.len_szL l
    refine pureF_of Tryz.func36 rfl Tryz.ntmps36 (by simp) T_ ?_
    intro f0 B Q hQ
    have hlt : decide (deep > 0) = false := by simp; omega
    refine g_ [0,1] ?_
    refine g_ [0,1,5] ?_
    refine g_ [0,1,5,6] ?_
    refine n_ ?_
    refine wpM_loopS (fun s n s' => s' = s) (0) ?_ ?_
    ·
      exact .here rfl
    rintro n s' rfl
    try refine S_ ?_
    refine gD_ [0,1,5,6,16] ?_
    refine c_ (fun hc0 => ?_) fun hc0 => ?_
    · simp [hlt] at hc0
    refine g_ [4] ?_
    refine e_ Tryz.results36 ?_
    first
    | exact True.intro
    | rfl
  | succ d ih =>
    intro l deep hd hdl hs
    have hlen := Sm.len_szL l
    refine pureF_of Tryz.func36 rfl Tryz.ntmps36 (by simp) T_ ?_
    intro f0 B Q hQ
    have hlt : decide (deep > 0) = true := by simp; omega
    have hmx := manyS_le (d + 1) l
    refine g_ [0,1] ?_
    refine g_ [0,1,5] ?_
    refine g_ [0,1,5,6] ?_
    refine n_ ?_
    refine wpM_loopS (fun s n s' => ∃ i M : Nat, i + n = l.length ∧ s.M ≤ M ∧ s' = { s with env := setE 6 (.int .i64 (i : Nat)) (setE 5 (.int .i64 ((l.length + ((l.take i).map fun s => manyS d s.th + manyS d s.el).sum : Nat) : Int)) s.env), M := M }) (l.length) ?_ ?_
    ·
      refine .of ⟨0, _, by omega, Nat.le_refl _, rfl⟩ ?_ ?_ ?_ rfl rfl (Nat.le_refl _) rfl <;> exact L_
    rintro n s' ⟨i, M, hi, hM, rfl⟩
    try refine S_ ?_
    refine n_ ?_
    refine wpM_regionK [0,1,5,6,16] rfl fun Q1 hQ1 => ?_
    simp (contextual := true) (maxSteps := 1000000) (implicitDefEqProofs := false) (disch := first | omega | (simp only [decide_eq_true_eq, decide_eq_false_iff_not, Bool.and_eq_true, Bool.or_eq_false_iff, Bool.not_eq_true'] at *; omega)) only [go_sem, hlt, Bool.and_true]
    refine hQ1 _ _ (S_ ?_);clear hQ1 Q1
    refine c_ (fun hc0 => ?_) fun hc0 => ?_
    ·
      have hi2 : i < l.length := by omega
      have hin := Sm.get_in hi2
      have hsum := take_sum (fun s : Sm => manyS d s.th + manyS d s.el) l i hi2
      have hle := take_sum_le (fun s : Sm => manyS d s.th + manyS d s.el) l (i + 1)
      simp only [manyS] at hmx
      rw [hsum] at hle
      refine n_ ?_
      refine dr_ mixed [0,1,5,6] 0 0 [] [⟨[5],[],[],[],false⟩,⟨[0],[],[],[],false⟩,⟨[6],[],[],[],false⟩,⟨[20,21],[],[],[],false⟩,⟨[22],[],[],[],false⟩,⟨[23],[],[],[],false⟩,⟨[1],[],[],[],false⟩,⟨[25],[],[],[],false⟩,⟨[24,26],[],[],[],true⟩,⟨[19,27],[],[],[],false⟩,⟨[0],[],[],[],false⟩,⟨[6],[],[],[],false⟩,⟨[29,30],[],[],[],false⟩,⟨[31],[],[],[],false⟩,⟨[32],[],[],[],false⟩,⟨[1],[],[],[],false⟩,⟨[34],[],[],[],false⟩,⟨[33,35],[],[],[],true⟩,⟨[28,36],[],[],[],false⟩,⟨[37],[],[],[],false⟩] [0,1,2,3,4,5,6,7,10,11,12,13,14,15,16,8,9,17,18,19] [[],[],[],[1,2],[1,2,3],[1,2,3,4],[],[6],[1,2,3,4,5,6,7],[0,1,2,3,4,5,6,7,8],[],[],[10,11],[10,11,12],[10,11,12,13],[],[15],[1,2,3,4,5,6,7,8,10,11,12,13,14,15,16],[0,1,2,3,4,5,6,7,8,9,10,11,12,13,14,15,16,17],[0,1,2,3,4,5,6,7,8,9,10,11,12,13,14,15,16,17,18]] 0 ?_
      intro O A K hO hA hK;simp only [atL_cons,atL_nil,Nat.reduceAdd,Nat.zero_add] at hO hA
      refine SO_ ?_
      refine lp_ (ih (l.getD i default).th (deep - 1) (by omega) (by omega) (by omega)) Tryz.call36 ?_
      refine lp_ (ih (l.getD i default).el (deep - 1) (by omega) (by omega) (by omega)) Tryz.call36 ?_
      refine hK _ (S_ ?_);clear hK K hO hA O A
      refine g_ [0,1,5,6] ?_
      refine .of ⟨n - 1, by omega, i + 1, M, by omega, hM, rfl⟩ ?_ ?_ ?_ rfl rfl (Nat.le_refl _) rfl
      · simp -implicitDefEqProofs (disch := omega) only [go_sem, PV.int.injEq]
        rw [hsum]
        constructor <;> omega
      all_goals exact L_
    refine g_ [4] ?_
    refine e_ Tryz.results36 ?_
    first
    | exact True.intro
    | have hie : i = l.length := by omega
      simp only [manyS]
      rw [hie, List.take_of_length_le (Nat.le_refl _)]
def Sm.plain (s : Sm) : Bool := if s.kind == 1 then s.to'.ok && s.to'.kind != 1 && (s.th.length : Int) == 0 && (s.el.length : Int) == 0
  else if s.kind == 2 then s.to'.kind == 0 && s.to'.at' == 0
  else if s.kind == 3 then s.to'.kind == 0 && s.to'.at' == 0 && (s.el.length : Int) == 0 else false
def formS : Nat → List Sm → Bool
  | 0, l => l.length == 0
  | d + 1, l => l.all fun s => s.plain && s.e.ok && formS d s.th && formS d s.el
theorem l4Form_ok (d : Nat) : ∀ (l : List Sm) (deep : Int), deep.toNat = d → deep ≤ 1000000 → Sm.szL l ≤ 1099511627776 → PureF Tryz.prog 37 [.rows 52 (Sm.csL l), .int .i64 deep] [.bool (formS d l)] := by
  induction d with
  | zero =>
    intro l deep hd hdl hs
    have hlen := Sm.len_szL l
    refine pureF_of Tryz.func37 rfl Tryz.ntmps37 (by simp) T_ ?_
    intro f0 B Q hQ
    have hlt : decide (deep < 1) = true := by simp; omega
    refine g_ [0,1] ?_
    refine n_ ?_
    refine wpM_regionK [0,1,14] rfl fun Q1 hQ1 => ?_
    simp (contextual := true) (maxSteps := 1000000) (implicitDefEqProofs := false) (disch := first | omega | (simp only [decide_eq_true_eq, decide_eq_false_iff_not, Bool.and_eq_true, Bool.or_eq_false_iff, Bool.not_eq_true'] at *; omega)) only [go_sem, hlt, Bool.and_true]
    refine hQ1 _ _ (S_ ?_);clear hQ1 Q1
    refine c_ (fun hc0 => ?_) fun hc0 => ?_
    ·
      refine g_ [4] ?_
      refine e_ Tryz.results37 ?_
      first
      | exact True.intro
      | first | rfl | (simp only [formS]; symm; rw [beq_eq_false_iff_ne]; omega)
    have hl0 : l = [] := by cases l with
      | nil => rfl
      | cons x y => simp at hc0
    subst hl0
    refine g_ [0,1,5] ?_
    refine n_ ?_
    refine wpM_loopS (fun s n s' => s' = s) (0) ?_ ?_
    ·
      exact .here rfl
    rintro n s' rfl
    try refine S_ ?_
    refine g_ [0,1,5,18] ?_
    refine c_ (fun hc1 => ?_) fun hc1 => ?_
    · simp at hc1
    refine g_ [4] ?_
    refine e_ Tryz.results37 ?_
    first
    | exact True.intro
    | first | rfl | (simp only [formS]; symm; rw [beq_eq_false_iff_ne]; omega)
  | succ d ih =>
    intro l deep hd hdl hs
    have hlen := Sm.len_szL l
    refine pureF_of Tryz.func37 rfl Tryz.ntmps37 (by simp) T_ ?_
    intro f0 B Q hQ
    have hlt : decide (deep < 1) = false := by simp; omega
    refine g_ [0,1] ?_
    refine n_ ?_
    refine wpM_regionK [0,1,14] rfl fun Q1 hQ1 => ?_
    simp (contextual := true) (maxSteps := 1000000) (implicitDefEqProofs := false) (disch := first | omega | (simp only [decide_eq_true_eq, decide_eq_false_iff_not, Bool.and_eq_true, Bool.or_eq_false_iff, Bool.not_eq_true'] at *; omega)) only [go_sem, hlt, Bool.and_false]
    refine hQ1 _ _ (S_ ?_);clear hQ1 Q1
    refine c1_ ?_
    refine g_ [0,1,5] ?_
    refine n_ ?_
    refine wpM_loopS (fun s n s' => ∃ i M : Nat, i + n = l.length ∧ s.M ≤ M ∧ (l.take i).all (fun s => s.plain && s.e.ok && formS d s.th && formS d s.el) = true ∧ s' = { s with env := setE 5 (.int .i64 i) s.env, M := M }) (l.length) ?_ ?_
    ·
      refine .of ⟨0, _, by omega, Nat.le_refl _, by simp, rfl⟩ ?_ ?_ ?_ rfl rfl (Nat.le_refl _) rfl <;> exact L_
    rintro n s' ⟨i, M, hi, hM, hall, rfl⟩
    try refine S_ ?_
    refine g_ [0,1,5,18] ?_
    refine c_ (fun hc1 => ?_) fun hc1 => ?_
    ·
      have hi2 : i < l.length := by omega
      have hin := Sm.get_in hi2
      refine g_ [0,1,5,6] ?_
      refine g_ [0,1,5,6,7] ?_
      refine g_ [0,1,5,6,7,26] ?_
      refine g_ [0,1,5,6,7,26,27] ?_
      refine c_ (fun hc2 => ?_) fun hc2 => ?_
      ·
        refine wpM_regionK [0,1,5,6,7] rfl fun Q1 hQ1 => ?_
        refine SD_ ?_
        refine cpD_ (addrOk_ok (l.getD i default).to') Tryz.call71 ?_
        refine hQ1 _ _ (S_ ?_);clear hQ1 Q1
        refine n_ ?_
        refine wpM_regionK [0,1,5,91] rfl fun Q1 hQ1 => ?_
        refine SD_ ?_
        first | refine cg_ (fun hb => exprOk_ok (l.getD i default).e (by omega)) Tryz.call72 ?_ | refine cpD_ (exprOk_ok (l.getD i default).e (by omega)) Tryz.call72 ?_
        first | refine cg_ (fun hb => ih (l.getD i default).th (deep - 1) (by omega) (by omega) (by omega)) Tryz.call37 ?_ | refine cpD_ (ih (l.getD i default).th (deep - 1) (by omega) (by omega) (by omega)) Tryz.call37 ?_
        first | refine cg_ (fun hb => ih (l.getD i default).el (deep - 1) (by omega) (by omega) (by omega)) Tryz.call37 ?_ | refine cpD_ (ih (l.getD i default).el (deep - 1) (by omega) (by omega) (by omega)) Tryz.call37 ?_
        refine hQ1 _ _ (S_ ?_);clear hQ1 Q1
        refine c_ (fun hc3 => ?_) fun hc3 => ?_
        ·
          refine g_ [4] ?_
          refine e_ Tryz.results37 ?_
          first
          | exact True.intro
          | first
            | (simp only [formS]; exact (all_yes hi hc1 hall).symm)
            | (simp only [formS]; refine (all_no hi2 ?_).symm
               try simp only [Bool.not_and, Bool.or_assoc] at hc3
               try simp only [Bool.not_and, Bool.or_assoc] at hc5
               try simp only [Bool.not_and, Bool.or_assoc] at hc7
               simp only [Sm.plain, *, ↓reduceIte, Bool.false_eq_true, Bool.not_and, Bool.or_assoc])
        refine g_ [0,1,5] ?_
        refine .of ⟨n - 1, by omega, i + 1, M + 1, by omega, Nat.le_succ_of_le hM, ?_, rfl⟩ ?_ ?_ ?_ rfl rfl (Nat.le_refl _) rfl
        · rw [take_all _ _ _ hi2, hall, Bool.true_and]
          try simp only [Bool.or_eq_false_iff, Bool.not_eq_false', Bool.and_eq_true] at hc3
          try simp only [Bool.or_eq_false_iff, Bool.not_eq_false', Bool.and_eq_true] at hc5
          try simp only [Bool.or_eq_false_iff, Bool.not_eq_false', Bool.and_eq_true] at hc7
          simp only [Sm.plain, *, ↓reduceIte, Bool.false_eq_true, Bool.and_self]
        all_goals exact L_
      refine g_ [0,1,5,6,7,26,50] ?_
      refine c_ (fun hc4 => ?_) fun hc4 => ?_
      ·
        refine g_ [0,1,5,6,7] ?_
        refine n_ ?_
        refine wpM_regionK [0,1,5,91] rfl fun Q1 hQ1 => ?_
        refine SD_ ?_
        first | refine cg_ (fun hb => exprOk_ok (l.getD i default).e (by omega)) Tryz.call72 ?_ | refine cpD_ (exprOk_ok (l.getD i default).e (by omega)) Tryz.call72 ?_
        first | refine cg_ (fun hb => ih (l.getD i default).th (deep - 1) (by omega) (by omega) (by omega)) Tryz.call37 ?_ | refine cpD_ (ih (l.getD i default).th (deep - 1) (by omega) (by omega) (by omega)) Tryz.call37 ?_
        first | refine cg_ (fun hb => ih (l.getD i default).el (deep - 1) (by omega) (by omega) (by omega)) Tryz.call37 ?_ | refine cpD_ (ih (l.getD i default).el (deep - 1) (by omega) (by omega) (by omega)) Tryz.call37 ?_
        refine hQ1 _ _ (S_ ?_);clear hQ1 Q1
        refine c_ (fun hc5 => ?_) fun hc5 => ?_
        ·
          refine g_ [4] ?_
          refine e_ Tryz.results37 ?_
          first
          | exact True.intro
          | first
            | (simp only [formS]; exact (all_yes hi hc1 hall).symm)
            | (simp only [formS]; refine (all_no hi2 ?_).symm
               try simp only [Bool.not_and, Bool.or_assoc] at hc3
               try simp only [Bool.not_and, Bool.or_assoc] at hc5
               try simp only [Bool.not_and, Bool.or_assoc] at hc7
               simp only [Sm.plain, *, ↓reduceIte, Bool.false_eq_true, Bool.not_and, Bool.or_assoc])
        refine g_ [0,1,5] ?_
        refine .of ⟨n - 1, by omega, i + 1, M + 1, by omega, Nat.le_succ_of_le hM, ?_, rfl⟩ ?_ ?_ ?_ rfl rfl (Nat.le_refl _) rfl
        · rw [take_all _ _ _ hi2, hall, Bool.true_and]
          try simp only [Bool.or_eq_false_iff, Bool.not_eq_false', Bool.and_eq_true] at hc3
          try simp only [Bool.or_eq_false_iff, Bool.not_eq_false', Bool.and_eq_true] at hc5
          try simp only [Bool.or_eq_false_iff, Bool.not_eq_false', Bool.and_eq_true] at hc7
          simp only [Sm.plain, *, ↓reduceIte, Bool.false_eq_true, Bool.and_self]
        all_goals exact L_
      refine g_ [0,1,5,6,7,56] ?_
      refine c_ (fun hc6 => ?_) fun hc6 => ?_
      ·
        refine gD_ [0,1,5,6,7] ?_
        refine n_ ?_
        refine wpM_regionK [0,1,5,91] rfl fun Q1 hQ1 => ?_
        refine SD_ ?_
        first | refine cg_ (fun hb => exprOk_ok (l.getD i default).e (by omega)) Tryz.call72 ?_ | refine cpD_ (exprOk_ok (l.getD i default).e (by omega)) Tryz.call72 ?_
        first | refine cg_ (fun hb => ih (l.getD i default).th (deep - 1) (by omega) (by omega) (by omega)) Tryz.call37 ?_ | refine cpD_ (ih (l.getD i default).th (deep - 1) (by omega) (by omega) (by omega)) Tryz.call37 ?_
        first | refine cg_ (fun hb => ih (l.getD i default).el (deep - 1) (by omega) (by omega) (by omega)) Tryz.call37 ?_ | refine cpD_ (ih (l.getD i default).el (deep - 1) (by omega) (by omega) (by omega)) Tryz.call37 ?_
        refine hQ1 _ _ (S_ ?_);clear hQ1 Q1
        refine c_ (fun hc7 => ?_) fun hc7 => ?_
        ·
          refine g_ [4] ?_
          refine e_ Tryz.results37 ?_
          first
          | exact True.intro
          | first
            | (simp only [formS]; exact (all_yes hi hc1 hall).symm)
            | (simp only [formS]; refine (all_no hi2 ?_).symm
               try simp only [Bool.not_and, Bool.or_assoc] at hc3
               try simp only [Bool.not_and, Bool.or_assoc] at hc5
               try simp only [Bool.not_and, Bool.or_assoc] at hc7
               simp only [Sm.plain, *, ↓reduceIte, Bool.false_eq_true, Bool.not_and, Bool.or_assoc])
        refine g_ [0,1,5] ?_
        refine .of ⟨n - 1, by omega, i + 1, M + 1, by omega, Nat.le_succ_of_le hM, ?_, rfl⟩ ?_ ?_ ?_ rfl rfl (Nat.le_refl _) rfl
        · rw [take_all _ _ _ hi2, hall, Bool.true_and]
          try simp only [Bool.or_eq_false_iff, Bool.not_eq_false', Bool.and_eq_true] at hc3
          try simp only [Bool.or_eq_false_iff, Bool.not_eq_false', Bool.and_eq_true] at hc5
          try simp only [Bool.or_eq_false_iff, Bool.not_eq_false', Bool.and_eq_true] at hc7
          simp only [Sm.plain, *, ↓reduceIte, Bool.false_eq_true, Bool.and_self]
        all_goals exact L_
      refine wpM_skip ?_
      refine S_ ?_
      refine wpM_seq ?_
      refine wpM_regionK [0, 1, 5, 91] rfl ?_; intro Q1 hQ1
      refine SD_ ?_
      refine hQ1 _ _ ?_; clear hQ1 Q1
      refine S_ ?_
      refine wpM_condK ?_
      refine S_ ?_
      refine wpM_seq ?_
      refine wpM_regionK [4] rfl ?_; intro Q1 hQ1
      refine S_ ?_
      refine hQ1 _ _ ?_; clear hQ1 Q1
      refine S_ ?_
      refine wpM_ret ?_
      try refine S_ ?_
      refine hQ _ _ rfl rfl rfl (by simp -implicitDefEqProofs (disch := omega) only [go_sem, le_yes, true_or]) ?_ (.inl rfl)
      rw [Tryz.results37]
      try simp -implicitDefEqProofs (disch := omega) only [go_sem, List.cons.injEq, PV.bool.injEq, PV.int.injEq, PV.agg.injEq]
      all_goals
        simp only [formS]; refine (all_no hi2 ?_).symm
        simp only [Sm.plain, hc2, hc4, hc6, ↓reduceIte, Bool.false_eq_true, Bool.false_and, Bool.not_false]
    refine g_ [4] ?_
    refine e_ Tryz.results37 ?_
    first
    | exact True.intro
    | first
      | (simp only [formS]; exact (all_yes hi hc1 hall).symm)
      | (simp only [formS]; refine (all_no hi2 ?_).symm
         try simp only [Bool.not_and, Bool.or_assoc] at hc3
         try simp only [Bool.not_and, Bool.or_assoc] at hc5
         try simp only [Bool.not_and, Bool.or_assoc] at hc7
         simp only [Sm.plain, *, ↓reduceIte, Bool.false_eq_true, Bool.not_and, Bool.or_assoc])
def okS (l : List Sm) : Bool := decide (manyS 4 l ≤ 16) && formS 4 l
theorem stmtsOk_ok (l : List Sm) (hs : Sm.szL l ≤ 1099511627776) : PureF Tryz.prog 13 [.rows 52 (Sm.csL l)] [.bool (okS l)] := by
  refine pureF_of Tryz.func13 rfl Tryz.ntmps13 (by simp) T_ ?_
  intro f0 B Q hQ
  refine g_ [0] ?_
  refine n_ ?_
  refine wpM_regionK [2] rfl fun Q1 hQ1 => ?_
  refine SD_ ?_
  refine cpD_ (l4Many_ok 4 l 4 rfl (by omega) hs) Tryz.call36 ?_
  first | refine cg_ (fun hb => l4Form_ok 4 l 4 rfl (by omega) hs) Tryz.call37 ?_ | refine cpD_ (l4Form_ok 4 l 4 rfl (by omega) hs) Tryz.call37 ?_
  refine hQ1 _ _ (S_ ?_);clear hQ1 Q1
  refine e_ Tryz.results13 ?_
  first
  | exact True.intro
  | have : decide ((manyS 4 l : Int) ≤ 16) = decide (manyS 4 l ≤ 16) := by simp; omega
    simp only [okS, this]
end Go.Proofs.YtmicbfojofcigaaGreatDoor
namespace Go.Proofs.YtmicbfojofcigaaGreatDoor
open Go Sg
set_option linter.unusedSectionVars false
variable [Glob]
set_option maxRecDepth 100000
set_option linter.unusedSimpArgs false
set_option linter.unusedVariables false
set_option maxHeartbeats 4000000
def doOf (s : Sm) : PV :=
  if s.kind == 1 then .iface 149 (.agg [.int .i64 s.to'.kind, .int .i64 s.to'.at', .int .i64 s.e.kind, .int .i64 s.e.n, .int .i64 s.e.a.kind, .int .i64 s.e.a.at', .rows 50 (Ex.csL s.e.kids)])
  else if s.kind == 2 then .iface 151 (.agg [.int .i64 s.e.kind, .int .i64 s.e.n, .int .i64 s.e.a.kind, .int .i64 s.e.a.at', .rows 50 (Ex.csL s.e.kids), .rows 52 (Sm.csL s.th), .rows 52 (Sm.csL s.el)])
  else if s.kind == 3 then .iface 153 (.agg [.int .i64 s.e.kind, .int .i64 s.e.n, .int .i64 s.e.a.kind, .int .i64 s.e.a.at', .rows 50 (Ex.csL s.e.kids), .rows 52 (Sm.csL s.th)]) else .nilif
theorem doOf_pure (s : Sm) : (doOf s).pure = true := by
  unfold doOf
  repeat' split
  all_goals rfl
theorem doOf_ok (s : Sm) : PureF Tryz.prog 64 [.agg s.cs] [doOf s] := by
  refine pureF_of Tryz.func64 rfl Tryz.ntmps64 (by simp) (by simp [PV.pureL, doOf_pure]) ?_
  intro f0 B Q hQ
  refine g_ [1] ?_
  refine g_ [1,4] ?_
  refine g_ [1,4,5] ?_
  refine c_ (fun hc0 => ?_) fun hc0 => ?_
  ·
    refine g_ [2] ?_
    refine e_ Tryz.results64 ?_
    first
    | exact True.intro
    | simp only [doOf, *, ↓reduceIte, Bool.false_eq_true]
  refine g_ [1,4,13] ?_
  refine c_ (fun hc1 => ?_) fun hc1 => ?_
  ·
    refine g_ [2] ?_
    refine e_ Tryz.results64 ?_
    first
    | exact True.intro
    | simp only [doOf, *, ↓reduceIte, Bool.false_eq_true]
  refine g_ [1,23] ?_
  refine c_ (fun hc2 => ?_) fun hc2 => ?_
  ·
    refine g_ [2] ?_
    refine e_ Tryz.results64 ?_
    first
    | exact True.intro
    | simp only [doOf, *, ↓reduceIte, Bool.false_eq_true]
  refine g_ [2] ?_
  refine e_ Tryz.results64 ?_
  first
  | exact True.intro
  | simp only [doOf, *, ↓reduceIte, Bool.false_eq_true]
theorem plain1_ok (s : Sm) (v : List PV) (hv : v.all PV.cell = true) : PureF Tryz.prog 192 [.agg v, .agg s.cs] [.bool (s.to'.ok && s.to'.kind != 1 && (s.th.length : Int) == 0 && (s.el.length : Int) == 0)] := by
  refine pureF_of Tryz.func192 rfl Tryz.ntmps192 (by simp) T_ ?_
  intro f0 B Q hQ
  refine n_ ?_
  refine wpM_regionK [3] rfl fun Q1 hQ1 => ?_
  simp -implicitDefEqProofs (disch := omega) only [go_sem, hv, true_and]
  refine hQ1 _ _ (S_ ?_);clear hQ1 Q1
  refine n_ ?_
  refine wpM_regionK [4] rfl fun Q1 hQ1 => ?_
  refine SD_ ?_
  refine cpD_ (puts_ok s.to') Tryz.call121 ?_
  refine hQ1 _ _ (S_ ?_);clear hQ1 Q1
  refine e_ Tryz.results192 ?_
  first
  | exact True.intro
  | rfl
theorem plain2_ok (s : Sm) (v : List PV) (hv : v.all PV.cell = true) : PureF Tryz.prog 196 [.agg v, .agg s.cs] [.bool (s.to'.kind == 0 && s.to'.at' == 0)] := by
  refine pureF_of Tryz.func196 rfl Tryz.ntmps196 (by simp) T_ ?_
  intro f0 B Q hQ
  refine n_ ?_
  refine wpM_regionK [3] rfl fun Q1 hQ1 => ?_
  simp -implicitDefEqProofs (disch := omega) only [go_sem, hv, true_and]
  refine hQ1 _ _ (S_ ?_);clear hQ1 Q1
  refine g_ [4] ?_
  refine e_ Tryz.results196 ?_
  first
  | exact True.intro
  | rfl
theorem plain3_ok (s : Sm) (v : List PV) (hv : v.all PV.cell = true) : PureF Tryz.prog 200 [.agg v, .agg s.cs] [.bool (s.to'.kind == 0 && s.to'.at' == 0 && (s.el.length : Int) == 0)] := by
  refine pureF_of Tryz.func200 rfl Tryz.ntmps200 (by simp) T_ ?_
  intro f0 B Q hQ
  refine n_ ?_
  refine wpM_regionK [3] rfl fun Q1 hQ1 => ?_
  simp -implicitDefEqProofs (disch := omega) only [go_sem, hv, true_and]
  refine hQ1 _ _ (S_ ?_);clear hQ1 Q1
  refine gD_ [4] ?_
  refine e_ Tryz.results200 ?_
  first
  | exact True.intro
  | rfl
def doNil (s : Sm) : Bool := !(s.kind == 1 || s.kind == 2 || s.kind == 3)
@[go_sem] theorem eql_do (x : Operand) (v : Value) (s : Sm) : binOpA Tryz.prog .eql 106 x (.const v) (doOf s) .nilif = some (.bool (doNil s)) := by
  unfold doOf doNil
  cases h1 : s.kind == 1 <;> cases h2 : s.kind == 2 <;> cases h3 : s.kind == 3 <;> simp [binOpA, eqPair, eqA, Tryz.underlying106, isConstOp]
theorem do_plain (s : Sm) (hn : doNil s = false) : ∃ t v fp, doOf s = .iface t v ∧ (∀ args w, (callFunc fp args).run Tryz.prog w = .ok (.enter fp args) w) ∧
    (∀ (u : Value) w, (method (Tryz.prog.types.size + Made.depth) t u "loop.example/stopgate/impl.plain").run Tryz.prog w = .ok (fp, u) w) ∧ PureF Tryz.prog fp [v, .agg s.cs] [.bool s.plain] := by
  by_cases h1 : s.kind = 1
  · refine ⟨149, _, 192, by simp only [doOf, h1, beq_self_eq_true, if_true]; rfl, Tryz.call192, method_run info149 Tryz.underlying149 (by simp) (by rfl) rfl rfl, ?_⟩
    have := plain1_ok s
    simp only [Sm.plain, h1, beq_self_eq_true, if_true]
    exact this _ (by rfl)
  by_cases h2 : s.kind = 2
  · refine ⟨151, _, 196, by simp only [doOf, h2, beq_self_eq_true, if_true]; rfl, Tryz.call196, method_run info151 Tryz.underlying151 (by simp) (by rfl) rfl rfl, ?_⟩
    have := plain2_ok s
    simp only [Sm.plain, h2, beq_self_eq_true, if_true]
    exact this _ (by rfl)
  have h3 : s.kind = 3 := by simpa [doNil, h1, h2] using hn
  refine ⟨153, _, 200, by simp only [doOf, h3, beq_self_eq_true, if_true]; rfl, Tryz.call200, method_run info153 Tryz.underlying153 (by simp) (by rfl) rfl rfl, ?_⟩
  have := plain3_ok s
  simp only [Sm.plain, h3, beq_self_eq_true, if_true]
  exact this _ (by rfl)
def badS (n : Int) (deep : Int) (s : Sm) : Bool := decide (n > 16) || decide (deep ≥ 4) || doNil s || !s.plain || !(vis s.e 0 0).isSome
mutual
def Sm.vis : Sm → Nat → Nat → Option Nat
  | .mk k a e th el, d, c => if badS ((c : Int) + 1) (d : Int) (.mk k a e th el) then none else match Sm.visL th (d + 1) (c + 1) with
    | some c2 => Sm.visL el (d + 1) c2
    | none => none
def Sm.visL : List Sm → Nat → Nat → Option Nat
  | [], _, c => some c
  | s :: l, d, c => match s.vis d c with
    | some c2 => Sm.visL l d c2
    | none => none
end
end Go.Proofs.YtmicbfojofcigaaGreatDoor
namespace Go.Proofs.YtmicbfojofcigaaGreatDoor
open Go Sg
set_option linter.unusedSectionVars false
variable [Glob]
set_option maxRecDepth 100000
set_option linter.unusedSimpArgs false
set_option linter.unusedVariables false
set_option maxHeartbeats 4000000
theorem Sm.vis_eq (s : Sm) (d c : Nat) : s.vis d c = if badS ((c : Int) + 1) (d : Int) s then none else match Sm.visL s.th (d + 1) (c + 1) with
    | some c2 => Sm.visL s.el (d + 1) c2
    | none => none := by cases s; simp only [Sm.vis, Sm.th, Sm.el] <;> rfl
theorem Sm.visL_app (l : List Sm) : ∀ (r : List Sm) (d c : Nat), Sm.visL (l ++ r) d c = match Sm.visL l d c with
    | some c2 => Sm.visL r d c2
    | none => none := by
  induction l with
  | nil => intro r d c; rfl
  | cons s l ih =>
    intro r d c
    simp only [List.cons_append, Sm.visL]
    cases s.vis d c with
    | none => rfl
    | some c2 => exact ih r d c2
theorem Sm.visL_take (l : List Sm) (d c i : Nat) (h : i < l.length) : Sm.visL (l.take (i + 1)) d c = match Sm.visL (l.take i) d c with
    | some c2 => (l.getD i default).vis d c2
    | none => none := by
  rw [List.take_succ_eq_append_getElem h, Sm.visL_app]
  cases Sm.visL (l.take i) d c with
  | none => rfl
  | some c2 =>
    simp only [Sm.visL, List.getD, List.getElem?_eq_getElem h, Option.getD_some]
    cases (l[i]).vis d c2 <;> rfl
theorem Sm.visL_none {l : List Sm} {d c i : Nat} (h : Sm.visL (l.take i) d c = none) : Sm.visL l d c = none := by
  have := Sm.visL_app (l.take i) (l.drop i) d c
  rw [List.take_append_drop, h] at this
  exact this
def CntO (id : Nat) (l : List Sm) (d c : Nat) (_ : List Nat) (o : COut) : Prop :=
  ∃ (r : Option Nat) (c' : Nat), Sm.visL l d c = r ∧ c' ≤ 17 ∧ (∀ k, r = some k → c' = k ∧ k ≤ 16) ∧ o = { rs := [.bool r.isSome], u := [(id, some (.cells 3 [.int .i64 (c' : Nat)]))] }
def CntF (id : Nat) (l : List Sm) (d c : Nat) : Prop := CallF Tryz.prog 46 [.rows 52 (Sm.csL l), .int .i64 (d : Nat), .ptr id 0] [(id, .cells 3 [.int .i64 (c : Nat)])] 0 (CntO id l d c)
end Go.Proofs.YtmicbfojofcigaaGreatDoor
namespace Go.Proofs.YtmicbfojofcigaaGreatDoor
open Go Sg
set_option linter.unusedSectionVars false
variable [Glob]
set_option maxRecDepth 100000
set_option linter.unusedSimpArgs false
set_option linter.unusedVariables false
set_option maxHeartbeats 4000000
theorem count_ok (id : Nat) : ∀ (N : Nat) (l : List Sm), Sm.szL l ≤ N → Sm.szL l ≤ 1099511627776 → ∀ d c : Nat, d ≤ 4 → c ≤ 16 → CntF id l d c := by
  intro N
  induction N with
  | zero =>
    intro l hN
    have h0 : l.length = 0 := by have := Sm.len_szL l; omega
    obtain rfl : l = [] := List.eq_nil_of_length_eq_zero h0
    intro hs d c hd hc
    refine callF_of' Tryz.func46 rfl Tryz.ntmps46 (by simp) ?_
    intro f0 B ns Q hB hns hQ
    have hid : id < B := hB id (by simp [hasKey, lk])
    obtain rfl : ns = [] := List.eq_nil_of_length_eq_zero hns
    refine g_ [0,1,2] ?_
    refine g_ [1,2,10,11,12] ?_
    refine n_ ?_
    refine wpM_loopS (fun s n s' => s' = s) (0) ?_ ?_
    ·
      exact .here rfl
    rintro n s' rfl
    try refine S_ ?_
    refine g_ [1,2,10,11,12,13] ?_
    refine c_ (fun hc0 => ?_) fun hc0 => ?_
    · simp at hc0
    refine g_ [6] ?_
    refine wpM_ret ?_
    try refine S_ ?_
    refine hQ _ _ (ret0 [(id, some (.cells 3 [.int .i64 (c : Nat)]))] rfl rfl rfl (by rw [Tryz.results46] <;> simp (maxSteps := 1000000) -implicitDefEqProofs (disch := omega) only [go_sem] <;> rfl) ⟨some c, c, rfl, by omega, fun k hk => (by injection hk with hk; omega), rfl⟩ ?_ ?_ ?_ ?_)
    all_goals simp -implicitDefEqProofs (disch := omega) only [go_sem, true_or, or_true]
  | succ N ih =>
    intro l hN hs d c hd hc
    have hlen := Sm.len_szL l
    refine callF_of' Tryz.func46 rfl Tryz.ntmps46 (by simp) ?_
    intro f0 B ns Q hB hns hQ
    have hid : id < B := hB id (by simp [hasKey, lk])
    obtain rfl : ns = [] := List.eq_nil_of_length_eq_zero hns
    have hT : Tryz.prog.cellsOf 3 = 1 := cellsOf3
    refine g_ [0,1,2] ?_
    refine g_ [1,2,10,11,12] ?_
    refine n_ ?_
    refine wpM_loopS (fun s n s' => ∃ (i M ci : Nat), i + n = l.length ∧ B ≤ M ∧ Sm.visL (l.take i) d c = some ci ∧ ci ≤ 16 ∧ s' = { s with env := setE 12 (.int .i64 (i : Nat)) s.env, l := [(id, .cells 3 [.int .i64 (ci : Nat)])], M := M }) (l.length) ?_ ?_
    ·
      refine .of' _ _ ⟨0, _, c, by omega, Nat.le_refl _, rfl, hc, rfl⟩ ?_ ?_ ?_ <;> exact L_
    rintro n s' ⟨i, M, ci, hi, hM, hv, hci, rfl⟩
    try refine S_ ?_
    refine g_ [1,2,10,11,12,13] ?_
    refine c_ (fun hc0 => ?_) fun hc0 => ?_
    ·
      have hi2 : i < l.length := by omega
      have hin := Sm.get_in hi2
      refine g_ [1,2,8,10,11,12] ?_
      refine g_ [1,2,8,10,11,12] ?_
      refine n_ ?_
      refine wpM_regionK [1,2,8,9,10,11,12] rfl fun Q1 hQ1 => ?_
      refine S_ ?_
      refine cp_ (doOf_ok (l.getD i default)) Tryz.call64 ?_
      refine hQ1 _ _ (S_ ?_);clear hQ1 Q1
      refine n_ ?_
      refine wpM_regionK [1,2,8,10,11,12,46] rfl fun Q1 hQ1 => ?_
      refine SD_ ?_
      refine callG (v := .bool (l.getD i default).plain) (fun _ _ hb hk' => ?_) ?_
      · have hb2 := hb
        simp only [Bool.not_eq_true', Bool.or_eq_false_iff] at hb2
        obtain ⟨t, v, fp, hr, q1, q2, q3⟩ := do_plain _ hb2.2
        exact inv_p (args := [.agg (l.getD i default).cs]) q3 q1 q2 rfl rfl (by simp -implicitDefEqProofs (disch := omega) only [go_sem, hb, gd_of hb, hr]) (by simp -implicitDefEqProofs (disch := omega) only [go_sem, hb, gd_of hb]) hk'
      refine SD_ ?_
      first | refine cg_ (fun hb => iexprOk_ok (l.getD i default).e (by omega)) Tryz.call84 ?_ | refine cpD_ (iexprOk_ok (l.getD i default).e (by omega)) Tryz.call84 ?_
      refine hQ1 _ _ (S_ ?_);clear hQ1 Q1
      refine c_ (fun hc1 => ?_) fun hc1 => ?_
      ·
        refine g_ [6] ?_
        refine wpM_ret ?_
        try refine S_ ?_
        refine hQ _ _ (ret0 [(id, some (.cells 3 [.int .i64 ((ci + 1 : Nat) : Int)]))] rfl rfl rfl (by rw [Tryz.results46] <;> simp (maxSteps := 1000000) -implicitDefEqProofs (disch := omega) only [go_sem] <;> rfl) ⟨none, ci + 1, ?_, by omega, fun k hk => (by cases hk), rfl⟩ ?_ ?_ ?_ ?_)
        · refine Sm.visL_none (i := i + 1) ?_
          rw [Sm.visL_take l d c i hi2, hv]
          have hbad : badS ((ci : Int) + 1) (d : Int) (l.getD i default) = true := hc1
          simp only [Sm.vis_eq, hbad, if_true]
        all_goals simp -implicitDefEqProofs (disch := omega) only [go_sem, true_or, or_true]
        rfl
      have hbad : badS ((ci : Int) + 1) (d : Int) (l.getD i default) = false := hc1
      have hdd : d + 1 ≤ 4 := by
        simp only [badS, Bool.or_eq_false_iff, decide_eq_false_iff_not] at hbad; omega
      have hcc : ci + 1 ≤ 16 := by
        simp only [badS, Bool.or_eq_false_iff, decide_eq_false_iff_not] at hbad; omega
      refine n_ ?_
      refine wpM_regionK [1,2,10,11,12,62] rfl fun Q1 hQ1 => ?_
      refine SD_ ?_
      refine call_fn (l := [(id, .cells 3 [.int .i64 ((ci + 1 : Nat) : Int)])]) (first := []) (cap := []) (ps := [.rows 52 (Sm.csL (l.getD i default).th), .int .i64 ((d + 1 : Nat) : Int), .ptr id 0]) (ih (l.getD i default).th (by omega) (by omega) (d + 1) (ci + 1) hdd hcc) Tryz.call46 rfl rfl rfl (by simp -implicitDefEqProofs (disch := omega) only [go_sem] <;> rfl) (by simp -implicitDefEqProofs (disch := omega) only [go_sem] <;> rfl) ?_
      rintro out ⟨r1, c1, hr1, hc1', hk1, rfl⟩
      rcases r1 with _ | k1
      · refine S_ ?_
        refine hQ1 _ _ (S_ ?_)
        refine c1_ ?_
        refine g_ [6] ?_
        refine n_ ?_
        refine wpM_ret ?_
        try refine S_ ?_
        refine hQ _ _ (ret0 [(id, some (.cells 3 [.int .i64 (c1 : Nat)]))] rfl rfl rfl (by rw [Tryz.results46] <;> simp (maxSteps := 1000000) -implicitDefEqProofs (disch := omega) only [go_sem] <;> rfl) ⟨none, c1, ?_, hc1', fun k hk => (by cases hk), rfl⟩ ?_ ?_ ?_ ?_)
        · refine Sm.visL_none (i := i + 1) ?_
          rw [Sm.visL_take l d c i hi2, hv]
          simp only [Sm.vis_eq, hbad, hr1, Bool.false_eq_true, if_false]
        all_goals simp -implicitDefEqProofs (disch := omega) only [go_sem, true_or, or_true]
      obtain ⟨rfl, hk1⟩ := hk1 k1 rfl
      refine SD_ ?_
      refine call_fn (l := [(id, .cells 3 [.int .i64 (c1 : Nat)])]) (first := []) (cap := []) (ps := [.rows 52 (Sm.csL (l.getD i default).el), .int .i64 ((d + 1 : Nat) : Int), .ptr id 0]) (ih (l.getD i default).el (by omega) (by omega) (d + 1) c1 hdd hk1) Tryz.call46 rfl rfl rfl (by simp -implicitDefEqProofs (disch := omega) only [go_sem] <;> rfl) T_ ?_
      rintro out ⟨r2, c2, hr2, hc2', hk2, rfl⟩
      refine SD_ ?_
      refine hQ1 _ _ (S_ ?_);clear hQ1 Q1
      refine c_ (fun hc2 => ?_) fun hc2 => ?_
      ·
        refine g_ [6] ?_
        refine wpM_ret ?_
        try refine S_ ?_
        obtain rfl : r2 = none := by
          cases r2 with
          | none => rfl
          | some k2 => simp at hc2
        refine hQ _ _ (ret0 [(id, some (.cells 3 [.int .i64 (c2 : Nat)]))] rfl rfl rfl (by rw [Tryz.results46] <;> simp (maxSteps := 1000000) -implicitDefEqProofs (disch := omega) only [go_sem] <;> rfl) ⟨none, c2, ?_, hc2', fun k hk => (by cases hk), rfl⟩ ?_ ?_ ?_ ?_)
        · refine Sm.visL_none (i := i + 1) ?_
          rw [Sm.visL_take l d c i hi2, hv]
          simp only [Sm.vis_eq, hbad, hr1, hr2, Bool.false_eq_true, if_false]
        all_goals simp -implicitDefEqProofs (disch := omega) only [go_sem, true_or, or_true]
      refine g_ [1,2,10,11,12] ?_
      obtain ⟨k2, rfl⟩ : ∃ k2, r2 = some k2 := by
        cases r2 with
        | none => simp at hc2
        | some k2 => exact ⟨k2, rfl⟩
      obtain ⟨rfl, hk2⟩ := hk2 k2 rfl
      refine .of' _ _ ⟨n - 1, by omega, i + 1, _, c2, by omega, ?_, ?_, hk2, rfl⟩ ?_ ?_ ?_
      · exact M_
      · rw [Sm.visL_take l d c i hi2, hv]
        simp only [Sm.vis_eq, hbad, hr1, hr2, Bool.false_eq_true, if_false]
      all_goals exact L_
    refine g_ [6] ?_
    refine wpM_ret ?_
    try refine S_ ?_
    obtain rfl : i = l.length := by omega
    rw [List.take_of_length_le (Nat.le_refl _)] at hv
    refine hQ _ _ (ret0 [(id, some (.cells 3 [.int .i64 (ci : Nat)]))] rfl rfl rfl (by rw [Tryz.results46] <;> simp (maxSteps := 1000000) -implicitDefEqProofs (disch := omega) only [go_sem] <;> rfl) ⟨some ci, ci, hv, by omega, fun k hk => (by injection hk with hk; omega), rfl⟩ ?_ ?_ ?_ ?_)
    all_goals simp -implicitDefEqProofs (disch := omega) only [go_sem, true_or, or_true]
end Go.Proofs.YtmicbfojofcigaaGreatDoor
namespace Go.Proofs.YtmicbfojofcigaaGreatDoor
open Go Sg
set_option maxRecDepth 100000
set_option linter.unusedSimpArgs false
set_option linter.unusedVariables false
set_option linter.unusedSectionVars false
set_option maxHeartbeats 4000000
class ErrL extends Glob where
  eb : Nat
  eo : Nat
  tab0 : tab 0 = some [.iface 212 (.kptr eb eo)]
variable [ErrL]
def errL : PV := .iface 212 (.kptr ErrL.eb ErrL.eo)
@[go_sem] theorem tab_err : Glob.tab 0 = some [errL] := ErrL.tab0
theorem errL_eq : errL = .iface 212 (.kptr ErrL.eb ErrL.eo) := rfl
@[go_sem] theorem errL_cell : errL.cell = true := rfl
@[go_sem] theorem errL_pure : errL.pure = true := rfl
@[go_sem] theorem errL_ren (ρ : Nat → Nat) : errL.ren ρ = errL := rfl
@[go_sem] theorem errL_ids (p : Nat → Prop) : errL.ids p = True := rfl
def errV (b : Bool) : PV := if b then errL else .nilif
@[go_sem] theorem errV_true : errV true = errL := rfl
@[go_sem] theorem errV_false : errV false = .nilif := rfl
theorem errV_pure (b : Bool) : (errV b).pure = true := by cases b <;> rfl
@[go_sem] theorem errV_ren (b : Bool) (ρ : Nat → Nat) : (errV b).ren ρ = errV b := by cases b <;> rfl
@[go_sem] theorem errV_ids (b : Bool) (p : Nat → Prop) : (errV b).ids p = True := by cases b <;> rfl
theorem kp_err : kpT Tryz.prog 212 = true := by
  unfold kpT
  rw [Tryz.underlying212]
  kernel_rfl
@[go_sem] theorem eql_err (x y : Operand) : binOpA Tryz.prog .eql 70 x y errL errL = some (.bool true) := by
  simp [binOpA, errL, eqPair, eqA, Tryz.underlying70, kp_err]
@[go_sem] theorem eql_nil2 (x : Operand) (v : Value) : binOpA Tryz.prog .eql 70 x (.const v) .nilif .nilif = some (.bool true) := by
  simp [binOpA, isConstOp, Tryz.underlying70]
@[go_sem] theorem neq_nil2 (x : Operand) (v : Value) : binOpA Tryz.prog .neq 70 x (.const v) .nilif .nilif = some (.bool false) := by
  simp [binOpA, isConstOp, Tryz.underlying70]
@[go_sem] theorem eql_errn (x y : Operand) : binOpA Tryz.prog .eql 70 x y errL .nilif = some (.bool false) := by
  simp [binOpA, errL, eqPair, eqA, Tryz.underlying70]
@[go_sem] theorem eql_nerr (x y : Operand) : binOpA Tryz.prog .eql 70 x y .nilif errL = some (.bool false) := by
  simp [binOpA, errL, eqPair, eqA, Tryz.underlying70]
@[go_sem] theorem neq_errn (x y : Operand) : binOpA Tryz.prog .neq 70 x y errL .nilif = some (.bool true) := by
  simp [binOpA, errL, eqPair, eqA, Tryz.underlying70]
theorem typeOf_err : InPlace Tryz.prog 113 [errL] (.iface 184 (.agg [.kptr 1 212])) := by
  intro g w vals h
  obtain ⟨hs, h1⟩ := h
  have h0 := h1 0 (by simp)
  have : vals = #[vals.getD 0 undef] := by
    apply Array.ext
    · simpa using hs
    · intro i h2 h3
      obtain rfl : i = 0 := by simpa using h3
      simp [Array.getD, h2]
  generalize vals.getD 0 undef = v at h0 this
  subst this
  simp only [List.getElem_cons_zero, errL] at h0
  cases h0 with
  | iface _ _ u hu =>
    refine ⟨.iface 184 (.agg #[.pointer (some ⟨1, 212, none⟩)]), ?_, ?_⟩
    · rw [run_callFunc_extern Tryz.func113 (by kernel_rfl) (by kernel_rfl) (by kernel_rfl) (e := Extern.ReflectliteType.typeOf) (by kernel_rfl)]
      have : (Extern.ReflectliteType.typeOf #[.iface 212 u]).run Tryz.prog w = .ok (.iface 184 (.agg #[.pointer (some ⟨1, 212, none⟩)])) w := by kernel_rfl
      rw [this]; rfl
    · refine .iface _ _ _ (.agg _ _ rfl fun j hj => ?_)
      obtain rfl : j = 0 := by simpa using hj
      exact .kptr 1 _
theorem comparable_err : InPlace Tryz.prog 206 [.agg [.kptr 1 212]] (.bool true) := by
  intro g w vals h
  obtain ⟨hs, h1⟩ := h
  have h0 := h1 0 (by simp)
  have : vals = #[vals.getD 0 undef] := by
    apply Array.ext
    · simpa using hs
    · intro i h2 h3
      obtain rfl : i = 0 := by simpa using h3
      simp [Array.getD, h2]
  generalize vals.getD 0 undef = v at h0 this
  subst this
  simp only [List.getElem_cons_zero] at h0
  cases h0 with
  | agg _ vs hl hr =>
    have h2 := hr 0 (by simp)
    have : vs = #[vs.getD 0 undef] := by
      apply Array.ext
      · simpa using hl
      · intro i h2 h3
        obtain rfl : i = 0 := by simpa using h3
        simp [Array.getD, h2]
    generalize vs.getD 0 undef = v2 at h2 this
    subst this
    simp only [List.getElem_cons_zero] at h2
    cases h2
    refine ⟨.bool true, ?_, .bool _⟩
    rw [run_callFunc_extern Tryz.func206 (by kernel_rfl) (by kernel_rfl) (by kernel_rfl) (e := Extern.ReflectliteType.method fun t => do Extern.Rtype.noPackHeld "Comparable" t; pure (.bool (← typeInfo t).comparable)) (by kernel_rfl)]
    have : ((Extern.ReflectliteType.method fun t => do Extern.Rtype.noPackHeld "Comparable" t; pure (.bool (← typeInfo t).comparable)) #[.agg #[.pointer (some ⟨1, 212, none⟩)]]).run Tryz.prog w = .ok (.bool true) w := by kernel_rfl
    rw [this]; rfl
theorem method_cmp (v : Value) (w : World) : (method (Tryz.prog.types.size + Made.depth) 184 v "Comparable").run Tryz.prog w = .ok (206, v) w := method_run info184 Tryz.underlying184 (by simp) (by rfl) rfl rfl v w
theorem eis_ok : PureF Tryz.prog 114 [errL, errL, .bool true] [.bool true] := by
  refine pureF_of Tryz.func114 rfl Tryz.ntmps114 (by simp) T_ ?_
  intro f0 B Q hQ
  refine g_ [0,1,2] ?_
  refine n_ ?_
  refine wpM_loopS (fun s n s' => s' = s) (0) ?_ ?_
  ·
    exact .here rfl
  rintro n s' rfl
  try refine S_ ?_
  refine gD_ [0,1,2,19] ?_
  refine c1_ ?_
  refine g_ [6] ?_
  exact e_ Tryz.results114 True.intro
theorem errIs_ok (b : Bool) : PureF Tryz.prog 82 [errV b, errL] [.bool b] := by
  cases b
  · refine pureF_of Tryz.func82 rfl Tryz.ntmps82 (by simp) T_ ?_
    intro f0 B Q hQ
    refine g_ [0,1] ?_
    refine gD_ [0,1,11] ?_
    refine c1_ ?_
    refine g_ [4] ?_
    refine e_ Tryz.results82 ?_
    first
    | exact True.intro
    | rfl
  · refine pureF_of Tryz.func82 rfl Tryz.ntmps82 (by simp) T_ ?_
    intro f0 B Q hQ
    refine g_ [0,1] ?_
    refine gD_ [0,1,11] ?_
    refine c1_ ?_
    refine n_ ?_
    refine wpM_regionK [0,1,5] rfl fun Q1 hQ1 => ?_
    refine S_ ?_
    refine OpM_vcall typeOf_err rfl rfl T_ T_ ?_
    refine S_ ?_
    refine OpM_vinvoke comparable_err method_cmp rfl rfl T_ T_ ?_
    refine S_ ?_
    refine hQ1 _ _ (S_ ?_);clear hQ1 Q1
    refine n_ ?_
    refine wpM_regionK [4] rfl fun Q1 hQ1 => ?_
    refine S_ ?_
    refine cp_ (eis_ok) Tryz.call114 ?_
    refine hQ1 _ _ (S_ ?_);clear hQ1 Q1
    refine e_ Tryz.results82 ?_
    first
    | exact True.intro
    | rfl
end Go.Proofs.YtmicbfojofcigaaGreatDoor
namespace Go.Proofs.YtmicbfojofcigaaGreatDoor
open Go Sg
set_option maxRecDepth 100000
set_option linter.unusedSimpArgs false
set_option linter.unusedVariables false
set_option linter.unusedSectionVars false
set_option maxHeartbeats 4000000
variable [ErrL]
def wh (c : MM → Bool) (b : MM → Nat → MM × Nat × Bool) : Nat → MM → Nat → MM × Nat × Bool
  | 0, m, _ => (m, 0, true)
  | g + 1, m, F => if c m then (if (b m F).2.2 then b m F else if (b m F).2.1 = 0 then ((b m F).1, 0, true) else wh c b g (b m F).1 ((b m F).2.1 - 1)) else (m, F, false)
mutual
def Sm.ex : Sm → MM → Nat → MM × Nat × Bool
  | .mk k a e th el, m, F => if k == 1 then (m.put a (e.of m), F, false)
    else if k == 3 then wh (fun m => e.of m != 0) (fun m F => Sm.exL th m F) (F + 1) m F
    else if e.of m != 0 then Sm.exL th m F else Sm.exL el m F
def Sm.exL : List Sm → MM → Nat → MM × Nat × Bool
  | [], m, F => (m, F, false)
  | s :: l, m, F => if (s.ex m F).2.2 then s.ex m F else Sm.exL l (s.ex m F).1 (s.ex m F).2.1
end
@[go_sem] theorem Sm.exL_nil (m : MM) (F : Nat) : Sm.exL [] m F = (m, F, false) := by simp only [Sm.exL]
theorem Sm.ex_eq (s : Sm) (m : MM) (F : Nat) : s.ex m F = if s.kind == 1 then (m.put s.to' (s.e.of m), F, false)
    else if s.kind == 3 then wh (fun m => s.e.of m != 0) (fun m F => Sm.exL s.th m F) (F + 1) m F
    else if s.e.of m != 0 then Sm.exL s.th m F else Sm.exL s.el m F := by cases s; simp only [Sm.ex, Sm.kind, Sm.to', Sm.e, Sm.th, Sm.el] <;> rfl
theorem wh_le {c : MM → Bool} {b : MM → Nat → MM × Nat × Bool} (h : ∀ m F, (b m F).2.1 ≤ F) : ∀ g m F, (wh c b g m F).2.1 ≤ F
  | 0, m, F => by simp [wh]
  | g + 1, m, F => by
    simp only [wh]
    split
    · split
      · exact h m F
      · split
        · simp
        · exact Nat.le_trans (wh_le h g _ _) (by have := h m F; omega)
    · simp
theorem wh_six {c : MM → Bool} {b : MM → Nat → MM × Nat × Bool} (h : ∀ m F, m.Six → (b m F).1.Six) : ∀ g m F, m.Six → (wh c b g m F).1.Six
  | 0, m, F => fun hm => hm
  | g + 1, m, F => fun hm => by
    simp only [wh]
    split
    · split
      · exact h m F hm
      · split
        · exact h m F hm
        · exact wh_six h g _ _ (h m F hm)
    · exact hm
mutual
theorem Sm.ex_le : (s : Sm) → (m : MM) → (F : Nat) → (s.ex m F).2.1 ≤ F
  | .mk k a e th el, m, F => by
    simp only [Sm.ex]
    split
    · simp
    · split
      · exact wh_le (fun m F => Sm.exL_le th m F) _ _ _
      · split
        · exact Sm.exL_le th m F
        · exact Sm.exL_le el m F
theorem Sm.exL_le : (l : List Sm) → (m : MM) → (F : Nat) → (Sm.exL l m F).2.1 ≤ F
  | [], m, F => by simp [Sm.exL]
  | s :: l, m, F => by
    simp only [Sm.exL]
    split
    · exact Sm.ex_le s m F
    · exact Nat.le_trans (Sm.exL_le l _ _) (Sm.ex_le s m F)
end
mutual
theorem Sm.ex_six : (s : Sm) → (m : MM) → (F : Nat) → m.Six → (s.ex m F).1.Six
  | .mk k a e th el, m, F => fun hm => by
    simp only [Sm.ex]
    split
    · exact MM.put_six hm _ _
    · split
      · exact wh_six (fun m F hm => Sm.exL_six th m F hm) _ _ _ hm
      · split
        · exact Sm.exL_six th m F hm
        · exact Sm.exL_six el m F hm
theorem Sm.exL_six : (l : List Sm) → (m : MM) → (F : Nat) → m.Six → (Sm.exL l m F).1.Six
  | [], m, F => fun hm => hm
  | s :: l, m, F => fun hm => by
    simp only [Sm.exL]
    split
    · exact Sm.ex_six s m F hm
    · exact Sm.exL_six l _ _ (Sm.ex_six s m F hm)
end
theorem pair3 {x : MM × Nat × Bool} (h : x.2.2 = false) : (x.1, x.2.1, false) = x := by rw [← h]
theorem Sm.exL_app (l r : List Sm) (m : MM) (F : Nat) : Sm.exL (l ++ r) m F = if (Sm.exL l m F).2.2 then Sm.exL l m F else Sm.exL r (Sm.exL l m F).1 (Sm.exL l m F).2.1 := by
  induction l generalizing m F with
  | nil => simp [Sm.exL]
  | cons s l ih =>
    simp only [List.cons_append, Sm.exL]
    split
    · rfl
    · rw [ih]
theorem Sm.exL_take (l : List Sm) (m : MM) (F i : Nat) (h : i < l.length) : Sm.exL (l.take (i + 1)) m F = if (Sm.exL (l.take i) m F).2.2 then Sm.exL (l.take i) m F else (l.getD i default).ex (Sm.exL (l.take i) m F).1 (Sm.exL (l.take i) m F).2.1 := by
  rw [List.take_succ_eq_append_getElem h, Sm.exL_app]
  split
  · rfl
  · simp only [Sm.exL, List.getD, List.getElem?_eq_getElem h, Option.getD_some]
    split
    · rfl
    · rename_i h1; rw [Bool.not_eq_true] at h1; exact pair3 h1
theorem Sm.exL_long {l : List Sm} {m : MM} {F i : Nat} (h : (Sm.exL (l.take i) m F).2.2 = true) : Sm.exL l m F = Sm.exL (l.take i) m F := by
  have := Sm.exL_app (l.take i) (l.drop i) m F
  rw [List.take_append_drop, if_pos h] at this
  exact this
theorem formS_at {d : Nat} {l : List Sm} (h : formS d l = true) {i : Nat} (hi : i < l.length) : (l.getD i default).plain = true ∧ (l.getD i default).e.ok = true ∧ ∃ d', formS d' (l.getD i default).th = true ∧ formS d' (l.getD i default).el = true := by
  cases d with
  | zero => simp only [formS, beq_iff_eq] at h; omega
  | succ d =>
    simp only [formS, List.all_eq_true] at h
    have := h (l.getD i default) (by simp [List.getD, hi])
    simp only [Bool.and_eq_true] at this
    exact ⟨this.1.1.1, this.1.1.2, d, this.1.2, this.2⟩
theorem ok_form {e : Ex} (h : e.ok = true) : formD 6 e = true := by
  simp only [Ex.ok, Bool.and_eq_true] at h; first | exact h.1 | exact h.2
theorem put_flat {m : MM} (hm : m.Six) {a : AD} (ha : a.ok = true) (h1 : a.kind ≠ 1) (n : Int) : (m.put a n).flat = m.flat.set (pos a) (cut n) := by
  have hk : 1 ≤ a.kind ∧ a.kind ≤ 3 ∧ 0 ≤ a.at' ∧ a.at' < 6 := by simp only [AD.ok, Bool.and_eq_true, decide_eq_true_eq] at ha; omega
  have e1 := hm.i
  have e2 := hm.o
  have h23 : a.kind = 2 ∨ a.kind = 3 := by omega
  rcases h23 with h2 | h2
  · rw [MM.put2 (by rw [h2]; rfl)]
    unfold MM.flat pos
    rw [h2]
    show m.i ++ (m.o.set a.at'.toNat (cut n) ++ m.v) = (m.i ++ (m.o ++ m.v)).set (1 * 6 + a.at'.toNat) (cut n)
    rw [List.set_append_right _ _ (by omega), List.set_append_left _ _ (by omega)]
    congr 3; omega
  · rw [MM.put3 (by rw [h2]; rfl) (by rw [h2]; rfl)]
    unfold MM.flat pos
    rw [h2]
    show m.i ++ (m.o ++ m.v.set a.at'.toNat (cut n)) = (m.i ++ (m.o ++ m.v)).set (2 * 6 + a.at'.toNat) (cut n)
    rw [List.set_append_right _ _ (by omega), List.set_append_right _ _ (by omega)]
    congr 3; omega
def rfoot (r id F : Nat) (m : MM) : List (Nat × AObj) := [(r, .cells 68 [.ptr id 0, .int .i64 (F : Int)]), (id, .cells 122 (ints m.flat))]
@[go_sem] theorem rfoot_eq (r id F : Nat) (m : MM) : rfoot r id F m = [(r, .cells 68 [.ptr id 0, .int .i64 (F : Int)]), (id, .cells 122 (ints m.flat))] := rfl
def ru (r id : Nat) (x : MM × Nat × Bool) : List (Nat × Option AObj) := [(r, some (.cells 68 [.ptr id 0, .int .i64 (x.2.1 : Int)])), (id, some (.cells 122 (ints x.1.flat)))]
@[go_sem] theorem ru_eq (r id : Nat) (x : MM × Nat × Bool) : ru r id x = [(r, some (.cells 68 [.ptr id 0, .int .i64 (x.2.1 : Int)])), (id, some (.cells 122 (ints x.1.flat)))] := rfl
def ROut (r id : Nat) (x : MM × Nat × Bool) (_ : List Nat) (o : COut) : Prop := o = { rs := [errV x.2.2], u := ru r id x }
def AllK (r id : Nat) (l : List Sm) : Prop := ∀ (m : MM) (F : Nat), m.Six → F ≤ 1000 → CallF Tryz.prog 43 [.ptr r 0, .rows 52 (Sm.csL l)] (rfoot r id F m) 0 (ROut r id (Sm.exL l m F))
def DoK (r id : Nat) (s : Sm) (fo : Nat) (v : PV) : Prop := ∀ (m : MM) (F : Nat), m.Six → F ≤ 1000 → CallF Tryz.prog fo [v, .ptr r 0] (rfoot r id F m) 0 (ROut r id (s.ex m F))
theorem take_ok (r id F : Nat) (m : MM) (hrd : r ≠ id) (hF : F ≤ 1000) : CallF Tryz.prog 190 [.ptr r 0] (rfoot r id F m) 0 (ROut r id (m, F - 1, decide (F = 0))) := by
  refine callF_of' Tryz.func190 rfl Tryz.ntmps190 (by simp) ?_
  intro f0 B ns Q hB hns hQ
  have hid : r < B := hB r (by simp [hasKey, lk, rfoot])
  obtain rfl : ns = [] := List.eq_nil_of_length_eq_zero hns
  refine g_ [0] ?_
  refine g_ [0,7] ?_
  refine c_ (fun hc0 => ?_) fun hc0 => ?_
  ·
    refine g_ [2] ?_
    refine wpM_ret ?_
    try refine S_ ?_
    have h0 : F = 0 := by simpa using hc0
    subst h0
    refine hQ _ _ (ret0 (ru r id (m, 0, true)) rfl rfl rfl (by rw [Tryz.results190] <;> simp (maxSteps := 1000000) -implicitDefEqProofs (disch := omega) only [go_sem] <;> rfl) rfl ?_ ?_ ?_ ?_)
    all_goals simp -implicitDefEqProofs (disch := omega) only [go_sem, true_or, or_true]
  refine g_ [] ?_
  refine g_ [2] ?_
  refine wpM_ret ?_
  try refine S_ ?_
  have h0 : ¬ F = 0 := by simpa using hc0
  have h1 : ((F - 1 : Nat) : Int) = (F : Int) - 1 := by omega
  refine hQ _ _ (ret0 (ru r id (m, F - 1, false)) rfl rfl rfl (by rw [Tryz.results190] <;> simp (maxSteps := 1000000) -implicitDefEqProofs (disch := omega) only [go_sem] <;> rfl) (by rw [ROut, decide_eq_false h0]; rfl) ?_ ?_ ?_ ?_)
  all_goals simp -implicitDefEqProofs (disch := omega) only [go_sem, h1, true_or, or_true]
theorem set_do (r id : Nat) (hrd : r ≠ id) (s : Sm) (hk : (s.kind == 1) = true) (ha : s.to'.ok = true) (h1 : s.to'.kind ≠ 1) (he : s.e.ok = true) : DoK r id s 191 (.agg [.int .i64 s.to'.kind, .int .i64 s.to'.at', .int .i64 s.e.kind, .int .i64 s.e.n, .int .i64 s.e.a.kind, .int .i64 s.e.a.at', .rows 50 (Ex.csL s.e.kids)]) := by
  intro m F hm hF
  rw [Sm.ex_eq, hk, if_pos rfl]
  have hr := reckon_ok m hm id 6 s.e (ok_form he)
  have hp := put_flat hm ha h1 (s.e.of m)
  refine callF_of' Tryz.func191 rfl Tryz.ntmps191 (by simp) ?_
  intro f0 B ns Q hB hns hQ
  have hid : r < B := hB r (by simp [hasKey, lk, rfoot])
  have hid2 : id < B := hB id (by simp [hasKey, lk, rfoot, hrd])
  obtain rfl : ns = [] := List.eq_nil_of_length_eq_zero hns
  refine g_ [1,2] ?_
  refine n_ ?_
  refine dr_ mixed [] 0 3 [B, r, id] [⟨[1],[],[],[],false⟩,⟨[5],[],[],[],false⟩,⟨[6],[],[],[],false⟩,⟨[7],[1],[],[],false⟩,⟨[2],[],[],[],false⟩,⟨[9],[0],[],[],false⟩,⟨[1],[],[],[],false⟩,⟨[11],[],[],[],false⟩,⟨[12],[],[],[],false⟩,⟨[13],[1],[],[],false⟩,⟨[2],[],[],[],false⟩,⟨[15],[0],[],[],false⟩,⟨[14,16],[2],[],[],true⟩,⟨[8,10,17],[2],[2],[],true⟩] [0,1,2,3,4,5,6,7,8,9,10,11,12,13] [[],[0],[0,1],[0,1,2],[],[4],[],[6],[6,7],[6,7,8],[],[10],[6,7,8,9,10,11],[0,1,2,3,4,5,6,7,8,9,10,11,12]] 3 (htbl := by simp; omega) (hnm := by simp) ?_
  intro O A K hO hA hK;simp only [atL_cons,atL_nil,Nat.reduceAdd,Nat.zero_add] at hO hA
  refine SO_ ?_
  refine loud_r hr (subG_spec T_) Tryz.call169 rfl rfl F_ rfl ?_
  refine SO_ ?_
  refine loud_fn (first := []) (cap := []) (ps := [.ptr id 0, .agg s.to'.cs, .int .i64 (s.e.of m)]) (l := mobj id m) (iput_ok id m.flat s.to' (s.e.of m) ha h1 (MM.flat_len hm)) Tryz.call130 rfl rfl F_ (subG_spec T_) rfl ?_
  rintro out rfl
  rw [← hp]
  refine ⟨rfl, ?_⟩
  refine SO_ ?_
  refine hK _ (S_ ?_);clear hK K hO hA O A
  refine g_ [4] ?_
  refine wpM_ret ?_
  try refine S_ ?_
  refine hQ _ _ (ret0 (ru r id (m.put s.to' (s.e.of m), F, false)) rfl rfl rfl (by rw [Tryz.results191] <;> simp (maxSteps := 1000000) -implicitDefEqProofs (disch := omega) only [go_sem] <;> rfl) rfl ?_ ?_ ?_ ?_)
  all_goals simp -implicitDefEqProofs (disch := omega) only [go_sem, true_or, or_true]
theorem if_do (r id : Nat) (hrd : r ≠ id) (s : Sm) (hk : (s.kind == 1) = false) (hk3 : (s.kind == 3) = false) (he : s.e.ok = true) (ht : AllK r id s.th) (hl : AllK r id s.el) : DoK r id s 195 (.agg [.int .i64 s.e.kind, .int .i64 s.e.n, .int .i64 s.e.a.kind, .int .i64 s.e.a.at', .rows 50 (Ex.csL s.e.kids), .rows 52 (Sm.csL s.th), .rows 52 (Sm.csL s.el)]) := by
  intro m F hm hF
  rw [Sm.ex_eq, hk, hk3, if_neg (by simp), if_neg (by simp)]
  have hr := reckon_ok m hm id 6 s.e (ok_form he)
  refine callF_of' Tryz.func195 rfl Tryz.ntmps195 (by simp) ?_
  intro f0 B ns Q hB hns hQ
  have hid : r < B := hB r (by simp [hasKey, lk, rfoot])
  have hid2 : id < B := hB id (by simp [hasKey, lk, rfoot, hrd])
  obtain rfl : ns = [] := List.eq_nil_of_length_eq_zero hns
  refine g_ [1,2] ?_
  refine n_ ?_
  refine dr_ mixed [1,2,12] 0 3 [B, r, id] [⟨[1],[],[],[],false⟩,⟨[5],[],[],[],false⟩,⟨[6],[],[],[],false⟩,⟨[7],[1],[],[],false⟩,⟨[2],[],[],[],false⟩,⟨[9],[0],[],[],false⟩,⟨[8,10],[2],[],[],true⟩,⟨[11],[],[],[],true⟩] [0,1,2,3,4,5,6,7] [[],[0],[0,1],[0,1,2],[],[4],[0,1,2,3,4,5],[0,1,2,3,4,5,6]] 3 (htbl := by simp; omega) (hnm := by simp) ?_
  intro O A K hO hA hK;simp only [atL_cons,atL_nil,Nat.reduceAdd,Nat.zero_add] at hO hA
  refine SO_ ?_
  refine loud_r hr (subG_spec T_) Tryz.call169 rfl rfl F_ rfl ?_
  refine SO_ ?_
  refine lp_ (ion_ok (s.e.of m)) Tryz.call136 ?_
  refine hK _ (S_ ?_);clear hK K hO hA O A
  refine c_ (fun hc0 => ?_) fun hc0 => ?_
  ·
    refine n_ ?_
    refine wpM_regionK [4] rfl fun Q1 hQ1 => ?_
    refine S_ ?_
    refine call_fn (l := rfoot r id F m) (first := []) (cap := []) (ps := [.ptr r 0, .rows 52 (Sm.csL s.th)]) (ht m F hm hF) Tryz.call43 rfl rfl rfl G_ T_ ?_
    rintro out rfl
    refine S_ ?_
    refine hQ1 _ _ (S_ ?_);clear hQ1 Q1
    refine wpM_ret ?_
    try refine S_ ?_
    rw [if_pos hc0] at hQ
    refine hQ _ _ (ret0 (ru r id (Sm.exL s.th m F)) rfl rfl rfl (by rw [Tryz.results195] <;> simp (maxSteps := 1000000) -implicitDefEqProofs (disch := omega) only [go_sem] <;> rfl) rfl ?_ ?_ ?_ ?_)
    all_goals simp -implicitDefEqProofs (disch := omega) only [go_sem, true_or, or_true]
  refine n_ ?_
  refine wpM_regionK [4] rfl fun Q1 hQ1 => ?_
  refine S_ ?_
  refine call_fn (l := rfoot r id F m) (first := []) (cap := []) (ps := [.ptr r 0, .rows 52 (Sm.csL s.el)]) (hl m F hm hF) Tryz.call43 rfl rfl rfl G_ T_ ?_
  rintro out rfl
  refine S_ ?_
  refine hQ1 _ _ (S_ ?_);clear hQ1 Q1
  refine wpM_ret ?_
  try refine S_ ?_
  rw [if_neg (by rw [hc0]; simp)] at hQ
  refine hQ _ _ (ret0 (ru r id (Sm.exL s.el m F)) rfl rfl rfl (by rw [Tryz.results195] <;> simp (maxSteps := 1000000) -implicitDefEqProofs (disch := omega) only [go_sem] <;> rfl) rfl ?_ ?_ ?_ ?_)
  all_goals simp -implicitDefEqProofs (disch := omega) only [go_sem, true_or, or_true]
@[go_sem] theorem neq_errV (x : Operand) (v : Value) (b : Bool) : binOpA Tryz.prog .neq 70 x (.const v) (errV b) .nilif = some (.bool b) := by
  cases b
  · exact neq_nil2 x v
  · exact neq_errn x (.const v)
theorem while_do (r id : Nat) (hrd : r ≠ id) (s : Sm) (hk : (s.kind == 1) = false) (hk3 : (s.kind == 3) = true) (he : s.e.ok = true) (ht : AllK r id s.th) : DoK r id s 199 (.agg [.int .i64 s.e.kind, .int .i64 s.e.n, .int .i64 s.e.a.kind, .int .i64 s.e.a.at', .rows 50 (Ex.csL s.e.kids), .rows 52 (Sm.csL s.th)]) := by
  intro m F hm hF
  rw [Sm.ex_eq, hk, hk3, if_neg (by simp), if_pos rfl]
  have hr : ∀ m : MM, m.Six → RecK m id s.e := fun m hm => reckon_ok m hm id 6 s.e (ok_form he)
  refine callF_of' Tryz.func199 rfl Tryz.ntmps199 (by simp) ?_
  intro f0 B ns Q hB hns hQ
  have hid : r < B := hB r (by simp [hasKey, lk, rfoot])
  have hid2 : id < B := hB id (by simp [hasKey, lk, rfoot, hrd])
  obtain rfl : ns = [] := List.eq_nil_of_length_eq_zero hns
  generalize hcb : (fun m F => Sm.exL s.th m F) = b at hQ
  generalize hcc : (fun m => s.e.of m != 0) = c at hQ
  generalize hW : wh c b (F + 1) m F = W at hQ
  refine g_ [1,2] ?_
  refine n_ ?_
  refine wpM_loopS (fun q n s' => ∃ (g M : Nat) (m' : MM), m'.Six ∧ n < g ∧ n ≤ 1000 ∧ W = wh c b g m' n ∧ q.M ≤ M ∧ s' = { q with env := q.env, l := [(B, .cells 153 [.int .i64 s.e.kind, .int .i64 s.e.n, .int .i64 s.e.a.kind, .int .i64 s.e.a.at', .rows 50 (Ex.csL s.e.kids), .rows 52 (Sm.csL s.th)])] ++ rfoot r id n m', M := M }) (F) ?_ ?_
  ·
    refine .of' _ _ ⟨F + 1, _, m, hm, by omega, hF, hW.symm, Nat.le_refl _, rfl⟩ ?_ ?_ ?_ <;> exact L_
  rintro n s' ⟨g, M, m', hm', hng, hn, hw, hM, rfl⟩
  clear hW
  try dsimp only at hM
  obtain ⟨g, rfl⟩ : ∃ g', g = g' + 1 := ⟨g - 1, by omega⟩
  simp only [wh] at hw
  have hc' : c m' = (s.e.of m' != 0) := by rw [← hcc]
  have hb' : b m' n = Sm.exL s.th m' n := by rw [← hcb]
  rw [hc', hb'] at hw
  have hle := Sm.exL_le s.th m' n
  have hsx := Sm.exL_six s.th m' n hm'
  try refine S_ ?_
  refine n_ ?_
  refine dr_ mixed [1,2,14] 0 3 [B, r, id] [⟨[1],[],[],[],false⟩,⟨[7],[],[],[],false⟩,⟨[8],[],[],[],false⟩,⟨[9],[1],[],[],false⟩,⟨[2],[],[],[],false⟩,⟨[11],[0],[],[],false⟩,⟨[10,12],[2],[],[],true⟩,⟨[13],[],[],[],true⟩] [0,1,2,3,4,5,6,7] [[],[0],[0,1],[0,1,2],[],[4],[0,1,2,3,4,5],[0,1,2,3,4,5,6]] 3 (htbl := by simp; omega) (hnm := by simp) ?_
  intro O A K hO hA hK;simp only [atL_cons,atL_nil,Nat.reduceAdd,Nat.zero_add] at hO hA
  refine SO_ ?_
  refine loud_r (hr m' hm') (subG_spec T_) Tryz.call169 rfl rfl F_ rfl ?_
  refine SO_ ?_
  refine lp_ (ion_ok (s.e.of m')) Tryz.call136 ?_
  refine hK _ (S_ ?_);clear hK K hO hA O A
  refine c_ (fun hc0 => ?_) fun hc0 => ?_
  ·
    rw [if_pos hc0] at hw
    refine n_ ?_
    refine wpM_regionK [1,2,5] rfl fun Q1 hQ1 => ?_
    refine S_ ?_
    refine call_fn (l := rfoot r id n m') (first := []) (cap := []) (ps := [.ptr r 0, .rows 52 (Sm.csL s.th)]) (ht m' n hm' hn) Tryz.call43 rfl rfl rfl G_ T_ ?_
    rintro out rfl
    refine S_ ?_
    refine hQ1 _ _ (S_ ?_);clear hQ1 Q1
    refine g_ [1,2,5,20] ?_
    refine c_ (fun hc1 => ?_) fun hc1 => ?_
    ·
      rw [if_pos hc1] at hw
      refine g_ [4] ?_
      refine wpM_ret ?_
      try refine S_ ?_
      rw [hw] at hQ
      refine hQ _ _ (ret0 (ru r id (Sm.exL s.th m' n)) rfl rfl rfl (by rw [Tryz.results199] <;> simp (maxSteps := 1000000) -implicitDefEqProofs (disch := omega) only [go_sem] <;> rfl) rfl ?_ ?_ ?_ ?_)
      all_goals simp -implicitDefEqProofs (disch := omega) only [go_sem, true_or, or_true]
    rw [if_neg (by rw [hc1]; simp)] at hw
    refine n_ ?_
    refine wpM_regionK [1,2,6] rfl fun Q1 hQ1 => ?_
    refine S_ ?_
    refine call_fn (l := rfoot r id (Sm.exL s.th m' n).2.1 (Sm.exL s.th m' n).1) (first := []) (cap := []) (ps := [.ptr r 0]) (take_ok r id (Sm.exL s.th m' n).2.1 (Sm.exL s.th m' n).1 hrd (by omega)) Tryz.call190 rfl rfl rfl G_ T_ ?_
    rintro out rfl
    refine S_ ?_
    refine hQ1 _ _ (S_ ?_);clear hQ1 Q1
    refine g_ [1,2,6,25] ?_
    refine c_ (fun hc2 => ?_) fun hc2 => ?_
    ·
      rw [if_pos hc2] at hw
      refine g_ [4] ?_
      refine wpM_ret ?_
      try refine S_ ?_
      rw [hw] at hQ
      refine hQ _ _ (ret0 (ru r id ((Sm.exL s.th m' n).1, 0, true)) rfl rfl rfl (by rw [Tryz.results199] <;> simp (maxSteps := 1000000) -implicitDefEqProofs (disch := omega) only [go_sem] <;> rfl) (by rw [decide_eq_true hc2]; rfl) ?_ ?_ ?_ ?_)
      all_goals simp -implicitDefEqProofs (disch := omega) only [go_sem, hc2, true_or, or_true]
    rw [if_neg hc2] at hw
    refine n_ ?_
    refine .of' _ _ ⟨(Sm.exL s.th m' n).2.1 - 1, by omega, g, _, (Sm.exL s.th m' n).1, hsx, by omega, by omega, hw, ?_, rfl⟩ ?_ ?_ ?_
    · exact M_
    all_goals exact L_
  rw [if_neg (by rw [hc0]; simp)] at hw
  refine g_ [4] ?_
  refine wpM_ret ?_
  try refine S_ ?_
  rw [hw] at hQ
  refine hQ _ _ (ret0 (ru r id (m', n, false)) rfl rfl rfl (by rw [Tryz.results199] <;> simp (maxSteps := 1000000) -implicitDefEqProofs (disch := omega) only [go_sem] <;> rfl) rfl ?_ ?_ ?_ ?_)
  all_goals simp -implicitDefEqProofs (disch := omega) only [go_sem, true_or, or_true]
theorem do_do (r id : Nat) (hrd : r ≠ id) (s : Sm) (hp : s.plain = true) (he : s.e.ok = true) (ht : AllK r id s.th) (hl : AllK r id s.el) : ∃ t v fp, doOf s = .iface t v ∧ (∀ args w, (callFunc fp args).run Tryz.prog w = .ok (.enter fp args) w) ∧
    (∀ (u : Value) w, (method (Tryz.prog.types.size + Made.depth) t u "loop.example/stopgate/impl.do").run Tryz.prog w = .ok (fp, u) w) ∧ DoK r id s fp v := by
  by_cases h1 : s.kind = 1
  · have ha : s.to'.ok = true ∧ s.to'.kind ≠ 1 := by
      simp only [Sm.plain, h1, beq_self_eq_true, if_true, Bool.and_eq_true, bne_iff_ne] at hp
      exact hp.1.1
    exact ⟨149, _, 191, by simp only [doOf, h1, beq_self_eq_true, if_true] <;> rfl, Tryz.call191, method_run info149 Tryz.underlying149 (by simp) (by rfl) rfl rfl, set_do r id hrd s (by rw [h1]; rfl) ha.1 ha.2 he⟩
  by_cases h2 : s.kind = 2
  · exact ⟨151, _, 195, by simp only [doOf, h2, beq_self_eq_true, if_true] <;> rfl, Tryz.call195, method_run info151 Tryz.underlying151 (by simp) (by rfl) rfl rfl, if_do r id hrd s (by rw [h2]; rfl) (by rw [h2]; rfl) he ht hl⟩
  have h3 : s.kind = 3 := by
    by_cases h3 : s.kind = 3
    · exact h3
    · simp [Sm.plain, h1, h2, h3] at hp
  exact ⟨153, _, 199, by simp only [doOf, h3, beq_self_eq_true, if_true] <;> rfl, Tryz.call199, method_run info153 Tryz.underlying153 (by simp) (by rfl) rfl rfl, while_do r id hrd s (by rw [h3]; rfl) (by rw [h3]; rfl) he ht⟩
theorem all_ok (r id : Nat) (hrd : r ≠ id) : ∀ (N : Nat) (l : List Sm), Sm.szL l ≤ N → Sm.szL l ≤ 1099511627776 → (∃ d, formS d l = true) → AllK r id l := by
  intro N
  induction N with
  | zero =>
    intro l hN hs ⟨d, hf⟩ m F hm hF
    have h0 : l.length = 0 := by have := Sm.len_szL l; omega
    obtain rfl : l = [] := List.eq_nil_of_length_eq_zero h0
    refine callF_of' Tryz.func43 rfl Tryz.ntmps43 (by simp) ?_
    intro f0 B ns Q hB hns hQ
    have hid : r < B := hB r (by simp [hasKey, lk, rfoot])
    have hid2 : id < B := hB id (by simp [hasKey, lk, rfoot, hrd])
    obtain rfl : ns = [] := List.eq_nil_of_length_eq_zero hns
    refine g_ [0,1] ?_
    refine g_ [0,8,9,10] ?_
    refine n_ ?_
    refine wpM_loopS (fun s n s' => s' = s) (0) ?_ ?_
    ·
      exact .here rfl
    rintro n s' rfl
    try refine S_ ?_
    refine g_ [0,8,9,10,11] ?_
    refine c_ (fun hc0 => ?_) fun hc0 => ?_
    · simp at hc0
    refine g_ [4] ?_
    refine wpM_ret ?_
    try refine S_ ?_
    refine hQ _ _ (ret0 (ru r id (m, F, false)) rfl rfl rfl (by rw [Tryz.results43] <;> simp (maxSteps := 1000000) -implicitDefEqProofs (disch := omega) only [go_sem] <;> rfl) rfl ?_ ?_ ?_ ?_)
    all_goals simp -implicitDefEqProofs (disch := omega) only [go_sem, true_or, or_true]
  | succ N ih =>
    intro l hN hs ⟨d, hf⟩ m F hm hF
    have hlen := Sm.len_szL l
    have hdo : ∀ i, i < l.length → ∃ t v fp, doOf (l.getD i default) = .iface t v ∧ (∀ args w, (callFunc fp args).run Tryz.prog w = .ok (.enter fp args) w) ∧
        (∀ (u : Value) w, (method (Tryz.prog.types.size + Made.depth) t u "loop.example/stopgate/impl.do").run Tryz.prog w = .ok (fp, u) w) ∧ DoK r id (l.getD i default) fp v := by
      intro i hi
      obtain ⟨h1, h2, d', h3, h4⟩ := formS_at hf hi
      have := Sm.get_in hi
      exact do_do r id hrd _ h1 h2 (ih _ (by omega) (by omega) ⟨d', h3⟩) (ih _ (by omega) (by omega) ⟨d', h4⟩)
    refine callF_of' Tryz.func43 rfl Tryz.ntmps43 (by simp) ?_
    intro f0 B ns Q hB hns hQ
    have hid : r < B := hB r (by simp [hasKey, lk, rfoot])
    have hid2 : id < B := hB id (by simp [hasKey, lk, rfoot, hrd])
    obtain rfl : ns = [] := List.eq_nil_of_length_eq_zero hns
    refine g_ [0,1] ?_
    refine g_ [0,8,9,10] ?_
    refine n_ ?_
    refine wpM_loopS (fun q n s' => ∃ (i M : Nat), i + n = l.length ∧ B ≤ M ∧ (Sm.exL (l.take i) m F).2.2 = false ∧ s' = { q with env := setE 10 (.int .i64 (i : Nat)) q.env, l := rfoot r id (Sm.exL (l.take i) m F).2.1 (Sm.exL (l.take i) m F).1, M := M }) (l.length) ?_ ?_
    ·
      refine .of' _ _ ⟨0, _, by omega, Nat.le_refl _, rfl, rfl⟩ ?_ ?_ ?_ <;> exact L_
    rintro n s' ⟨i, M, hi, hM, hv, rfl⟩
    have hsx := Sm.exL_six (l.take i) m F hm
    have hle := Sm.exL_le (l.take i) m F
    try refine S_ ?_
    refine g_ [0,8,9,10,11] ?_
    refine c_ (fun hc0 => ?_) fun hc0 => ?_
    ·
      have hi2 : i < l.length := by omega
      have htk := Sm.exL_take l m F i hi2
      rw [hv, if_neg (by simp)] at htk
      obtain ⟨t, v, fp, hr, q1, q2, q3⟩ := hdo i hi2
      refine g_ [0,6,8,9,10] ?_
      refine n_ ?_
      refine wpM_regionK [0,7,8,9,10] rfl fun Q1 hQ1 => ?_
      refine S_ ?_
      refine cp_ (doOf_ok (l.getD i default)) Tryz.call64 ?_
      refine call_inv (l := rfoot r id (Sm.exL (l.take i) m F).2.1 (Sm.exL (l.take i) m F).1) (ps := [.ptr r 0]) (k := 0) (q3 _ _ hsx (by omega)) q1 q2 rfl rfl (by simp -implicitDefEqProofs (disch := omega) only [go_sem, hr]) T_ T_ ?_
      rintro out rfl
      rw [← htk]
      refine S_ ?_
      refine hQ1 _ _ (S_ ?_);clear hQ1 Q1
      refine g_ [0,7,8,9,10,19] ?_
      refine c_ (fun hc1 => ?_) fun hc1 => ?_
      ·
        refine g_ [4] ?_
        refine wpM_ret ?_
        try refine S_ ?_
        rw [Sm.exL_long hc1] at hQ
        refine hQ _ _ (ret0 (ru r id (Sm.exL (l.take (i + 1)) m F)) rfl rfl rfl (by rw [Tryz.results43] <;> simp (maxSteps := 1000000) -implicitDefEqProofs (disch := omega) only [go_sem] <;> rfl) (by rw [ROut, hc1]) ?_ ?_ ?_ ?_)
        all_goals simp -implicitDefEqProofs (disch := omega) only [go_sem, true_or, or_true]
      refine g_ [0,8,9,10] ?_
      refine .of' _ _ ⟨n - 1, by omega, i + 1, _, by omega, ?_, hc1, rfl⟩ ?_ ?_ ?_
      · exact M_
      all_goals exact L_
    refine g_ [4] ?_
    refine wpM_ret ?_
    try refine S_ ?_
    obtain rfl : i = l.length := by omega
    rw [List.take_of_length_le (Nat.le_refl _)] at hv
    refine hQ _ _ (ret0 (ru r id (Sm.exL l m F)) rfl rfl rfl (by rw [Tryz.results43] <;> simp (maxSteps := 1000000) -implicitDefEqProofs (disch := omega) only [go_sem] <;> rfl) (by rw [ROut, hv]; rfl) ?_ ?_ ?_ ?_)
    all_goals simp -implicitDefEqProofs (disch := omega) only [go_sem, true_or, or_true, List.take_of_length_le (Nat.le_refl l.length)]
end Go.Proofs.YtmicbfojofcigaaGreatDoor
