/- A part of a proof: lemmas and contracts of functions; the last text of the claim says what is proved. -/
import Derived.Test.YtnmfmeehmieifaaGreatXac33d17513
set_option linter.unusedSectionVars false
set_option linter.unusedSimpArgs false
set_option linter.unusedVariables false
namespace Sg
open Go
set_option linter.unusedSectionVars false
set_option linter.unusedVariables false
variable [Glob]
section
variable {P : Program}
omit [Glob] in
theorem InR.ks {B M : Nat} {l l' : List (Nat × AObj)} (h : InR B M l) (e : ksL l' = ksL l) : InR B M l' := by
  refine ⟨e ▸ h.nd, fun p hp => ?_⟩
  have h1 := ksL_mem hp
  rw [e] at h1
  obtain ⟨q, hq, e2⟩ := List.mem_map.1 h1
  have := h.at' q hq
  rw [e2] at this; exact this
omit [Glob] in
theorem InR.sub {B M : Nat} {l l' : List (Nat × AObj)} (h : InR B M l) (e : (ksL l').Sublist (ksL l)) : InR B M l' := by
  refine ⟨h.nd.sublist e, fun p hp => ?_⟩
  obtain ⟨q, hq, e2⟩ := List.mem_map.1 (e.subset (ksL_mem hp))
  have := h.at' q hq
  rw [e2] at this; exact this
omit [Glob] in
theorem InR.cut {B M : Nat} {a b c : List (Nat × AObj)} (h : InR B M (a ++ (b ++ c))) : InR B M (a ++ c) :=
  h.sub (by rw [ksL_app, ksL_app, ksL_app]; exact (List.Sublist.refl _).append (List.sublist_append_right _ _))
omit [Glob] in
theorem InR.top {B M : Nat} {o : AObj} {l : List (Nat × AObj)} (h : InR B M l) (h1 : B ≤ M) : InR B (M + 1) ((M, o) :: l) :=
  inR_cons.2 ⟨⟨h1, by omega⟩, fun p hp e => by have := (h.at' p hp).2; omega, h.mono (Nat.le_refl _) (by omega)⟩
theorem Owns.flat {cs qs : List PV} {T : List (Nat × AObj)} (h : Owns P cs qs T) : PV.flatL cs = true ∧ ∀ x ∈ T, x.2.flat = true := by
  induction h with
  | nil => exact ⟨rfl, fun x hx => by simp at hx⟩
  | sc p cs qs T hp _ ih =>
    refine ⟨?_, ih.2⟩
    rw [PV.flatL, ih.1, Bool.and_true]
    cases p <;> first | rfl | cases hp
  | sl e id r c0 T0 cs qs T hes hr h0 _ ih0 ih =>
    refine ⟨by rw [PV.flatL, ih.1]; rfl, fun x hx => ?_⟩
    simp only [List.mem_cons, List.mem_append] at hx
    rcases hx with rfl | hx | hx
    · exact ih0.1
    · exact ih0.2 x hx
    · exact ih.2 x hx
theorem ownR_flat {w : List PV → List PV} (hw : w = id ∨ w = wA) {qs : List PV} {ns : List Nat} {o : COut} (h : OwnR P w qs ns o) : FlatOut o := by
  obtain ⟨cs, T, hO, _, rfl⟩ := h
  refine ⟨rfl, rfl, ?_, hO.flat.2⟩
  rcases hw with rfl | rfl
  · exact hO.flat.1
  · simp only [PV.flatL, PV.flat, hO.flat.1]; rfl
theorem call_ownT {r : Option Nat} {N : Nat} {o : Oper} {s : MS} {K : MS → Prop} {X : PV → MS → Prop} {x : Operand} {as : Array Operand} {ts : Array TypeId} {f : FuncId} {ps qs : List PV} {k : Nat} {w : List PV → List PV} {S : List (Nat × AObj)}
    (hc : CallF P f ps S k (OwnR P w qs)) (henter : ∀ args w, (callFunc f args).run P w = .ok (.enter f args) w) (ho : o.op = .call { callee := .value x, args := as, argTypes := ts }) (hd : dstOk N o.dst = true) (hx : ev s.env x = some (.fn (.func f) [] [])) (ha : evs s.env as.toList = some ps)
    (hI : InR s.B s.M s.l) (hBM : s.B ≤ s.M) (hS : ∀ p ∈ S, p ∈ s.l)
    (hk : ∀ cs T, Owns P cs qs T → InR s.M (s.M + k) T → (ksL T).length = k → K { s with env := put s.env o.dst (packA (w cs)), l := s.l ++ T, M := s.M + k }) : OpM P r N o s K X := by
  refine OpM_K (OpM_call (first := []) (cap := []) (ps := ps) ho hd hx ha henter (by simpa using hc) (fun i ob h => by simp only [MS.f, lk_nd hI.nd (hS _ (lk_in h))]) ?_)
  rintro out ⟨cs, T, hO, hks, rfl⟩
  refine ⟨trivial, ⟨{ s with env := put s.env o.dst (packA (w cs)), l := s.l ++ T, M := s.M + k }, weak_of rfl (f_new (M := s.M + k) hI.nd (fun p hp => ?_) _ _) (Nat.le_refl _) rfl, hk cs T hO (inR_range hks) (by rw [hks, List.length_range'])⟩⟩
  have := List.mem_range'_1.1 (hks ▸ ksL_mem hp)
  refine ⟨fun hi => ?_, by omega⟩
  obtain ⟨q, hq, e⟩ := List.mem_map.1 hi
  have := (hI.at' q hq).2
  omega
theorem call_setD {r : Option Nat} {N : Nat} {o : Oper} {s : MS} {K : MS → Prop} {X : PV → MS → Prop} {x : Operand} {as : Array Operand} {ts : Array TypeId} {f : FuncId} {ps cs qs : List PV} {n : Int} {T : List (Nat × AObj)} (pre post : List (Nat × AObj))
    (hc : CallF P f ps T 0 (SetR P cs n qs T)) (henter : ∀ args w, (callFunc f args).run P w = .ok (.enter f args) w) (ho : o.op = .call { callee := .value x, args := as, argTypes := ts }) (hd : dstOk N o.dst = true) (hx : ev s.env x = some (.fn (.func f) [] [])) (ha : evs s.env as.toList = some ps)
    (hl : s.l = pre ++ (T ++ post)) (hnd : (ksL s.l).Nodup) (hB : ∀ p ∈ T, s.B ≤ p.1)
    (hk : K { s with env := put s.env o.dst (.int .i64 n), l := pre ++ post }) : OpM P r N o s K X := by
  refine OpM_K (call_set (K := fun s' => Wk s'.st K) pre post hc henter ho hd hx ha hl hnd fun T' hO hks => ?_)
  refine ⟨{ s with env := put s.env o.dst (.int .i64 n), l := pre ++ post }, weak_of rfl (fun i x h => ?_) (Nat.le_refl _) rfl, hk⟩
  have hnd' : (ksL (pre ++ (T' ++ post))).Nodup := by rw [hl] at hnd; rw [ksL_app, ksL_app, hks, ← ksL_app, ← ksL_app]; exact hnd
  simp only [MS.f] at h ⊢
  cases hL : lk i (pre ++ post) with
  | some o' =>
    rw [hL] at h
    have hm : (i, o') ∈ pre ++ (T' ++ post) := by
      have := lk_in hL
      simp only [List.mem_append] at this ⊢
      rcases this with h1 | h1
      · exact .inl h1
      · exact .inr (.inr h1)
    rw [lk_nd hnd' hm]; exact h
  | none =>
    rw [hL] at h
    simp only at h
    split at h
    · rename_i hiB
      have : lk i (pre ++ (T' ++ post)) = none := lk_out fun hi => by
        rw [ksL_app, ksL_app, List.mem_append, List.mem_append] at hi
        have hno : i ∉ ksL (pre ++ post) := fun hx => by
          have := lk_some_of hx
          rw [hL] at this; cases this
        rw [ksL_app, List.mem_append] at hno
        rcases hi with h1 | h1 | h1
        · exact hno (.inl h1)
        · rw [hks] at h1
          obtain ⟨p, hp, rfl⟩ := List.mem_map.1 h1
          have := hB p hp
          omega
        · exact hno (.inr h1)
      rw [this]
      simp only [if_pos hiB]
      exact h
    · cases h
structure WOk (w : List PV → List PV) : Prop where
  ren : ∀ ρ cs, PV.renL ρ (w cs) = w (PV.renL ρ cs)
  ids : ∀ p cs, PV.idsL p cs → PV.idsL p (w cs)
  flat : ∀ cs, PV.flatL cs = true → PV.flatL (w cs) = true
abbrev wA2 (a b : Int) (cs : List PV) : List PV := [.agg cs, .int .i64 a, .int .i64 b]
attribute [go_sem] wA2
end
end Sg
namespace Sg
open Go
set_option linter.unusedSectionVars false
set_option linter.unusedVariables false
variable [Glob]
section
variable {P : Program} {r : Option Nat} {N : Nat} {ops : Array Oper}
theorem stepG_CRg {tbl : List Nat} {an : Array AnI} {ann : Nat → Ann} {c : Nat} {R W G : List Nat} {K : MS → Prop} {s : MS} {fs : FS} {l2 : List Nat} (hc : ann c = (annOf tbl an c).more R W G) (hl : (annOf tbl an c).loud = true) (hnm : ∀ n ∈ (annOf tbl an c).nm ++ G, n < s.M) (h : stepG P ops tbl an c R W G s K) (hw : WF fs s) {Q : FS → Prop} (hQ : ∀ s1, s1.M = s.M → K s1 → ∀ fs1, WF fs1 s1 → CR P ops ann l2 fs1 Q) : CR P ops ann (c :: l2) fs Q := by
  obtain ⟨o, ho, ai, hai, ⟨h1, h2⟩, h⟩ := h
  have hann := annOf_some (tbl := tbl) hai
  refine ⟨o, ho, ?_⟩
  rw [hc, hann]
  rw [hann] at hl hnm
  rw [if_pos (show ((ai.ann tbl).more R W G).loud = true from hl)]
  show loudA P ops o ((ai.ann tbl).more R W G) (keepF fs.e (ai.ann tbl).rd) (resF fs.f ((ai.ann tbl).ro ++ R)) _
  rw [keepE_eq (rd := (ai.ann tbl).rd) hw.e h1, resF_eq hw.f h2]
  have next : ∀ out, (((∀ i x, lk i out.u = some x → i ∈ (ai.ann tbl).wo ++ W) ∧ (∀ i x, lk i out.nw = some x → i ∈ (ai.ann tbl).nm ++ G)) ∧ ∃ s', MSub s' (s.out o.dst out s.M) ∧ okDel s.B s.f0 out.u ∧ K s') → CR P ops ann l2 (fs.upd o.dst out) Q := by
    rintro out ⟨a1, s', hs', a2, a3⟩
    refine hQ s' hs'.2.2.1 a3 _ (WF.sub (WF_upd hw a2 fun i hi => ?_) hs')
    cases hl' : lk i out.nw with
    | none => rfl
    | some x =>
      have := hnm i (a1.2 i x hl')
      omega
  rcases h with ⟨k1, k2⟩ | ⟨k1, fn, args, lst, Ω, m1, m2, m3, m4⟩
  · exact .inl ⟨k1, k2.1, next _ k2⟩
  · exact .inr ⟨k1, fn, args, lst, Ω, m1, m2, m3, fun out hout => ⟨(m4 out hout).1, (m4 out hout).2.1, next _ (m4 out hout).2⟩⟩
def restG (P : Program) (ops : Array Oper) (tbl : List Nat) (an : Array AnI) (l : List Nat) (K : MS → Prop) (s : MS) : Prop := runD P ops tbl an l s K
theorem wpM_drawnG3 (hm : P.follows .mixedOrders = true) (k p c1 c2 c3 : Nat) (G1 G2 G3 : List Nat) (tbl : List Nat) (an : Array AnI) (l1 l2 l3 l4 : List Nat) (pre : List (List Nat)) {id : Nat} {s : MS} {Q : ExitA → MS → Prop} (m : Nat) (hlen : tbl.length = m) (htbl : tbl.Nodup)
    (hc : (checkD N m ops an.toList (l1 ++ c1 :: (l2 ++ c2 :: (l3 ++ c3 :: l4))) pre && an.toList.all (fun a => a.nm.all (fun x => decide (p ≤ x) && decide (x < m)))) = true) (hcl : (an.getD c1 default).loud = true ∧ (an.getD c2 default).loud = true ∧ (an.getD c3 default).loud = true) (hnm : ∀ n ∈ tbl.drop p, s.M ≤ n ∧ n < s.M + k)
    (hG : (G1 ++ (G2 ++ G3)).Nodup) (hGn : ∀ n ∈ G1 ++ (G2 ++ G3), s.M ≤ n ∧ n < s.M + k) (hfar : ∀ i, i ∈ G1 ++ (G2 ++ G3) → i ∉ tbl)
    (h' : ∀ (O : Array Oper) (A : Array AnI) (K : MS → Prop), O = ops → A = an → (∀ s, Q .normal s → K s) → runD P O tbl A l1 { s with M := s.M + k } fun s1 => stepG P O tbl A c1 [] [] G1 s1 (restG P O tbl A l2 fun s2 => stepG P O tbl A c2 [] [] G2 s2 (restG P O tbl A l3 fun s3 => stepG P O tbl A c3 [] [] G3 s3 (contG P O tbl A l4 K)))) : wpM P r N (.region id ops true) s Q := by
  have h := h' ops an _ rfl rfl (fun s h => h)
  subst hlen
  simp only [Bool.and_eq_true] at hc
  obtain ⟨hs, hd⟩ := checkD_spec htbl hc.1
  have hann : (fun j => (an.toList.getD j default).ann tbl) = annOf tbl an := by
    funext j
    simp [annOf, List.getD, Array.getD_eq_getD_getElem?]
  rw [hann] at hs
  generalize hord : l1 ++ c1 :: (l2 ++ c2 :: (l3 ++ c3 :: l4)) = ord at hs hd hc
  have hin : ∀ j, j ∈ ord → inB tbl.length (an.getD j default) = true := by
    intro j hj
    have h7 := hc.1
    simp only [checkD, Bool.and_eq_true] at h7
    have := List.all_eq_true.1 h7.2 j hj
    simpa [List.getD, Array.getD_eq_getD_getElem?] using this
  have hsub : ∀ j ∈ ord, ∀ i, i ∈ (annOf tbl an j).ro ∨ i ∈ (annOf tbl an j).wo ∨ i ∈ (annOf tbl an j).nm → i ∈ tbl := by
    intro j hj i hi
    have hb := hin j hj
    simp only [inB, Bool.and_eq_true, List.all_eq_true, decide_eq_true_eq] at hb
    have key : ∀ l : List Nat, (∀ x ∈ l, x < tbl.length) → i ∈ l.map (tid tbl) → i ∈ tbl := by
      intro l hl hi
      obtain ⟨x, hx, rfl⟩ := List.mem_map.1 hi
      have := hl x hx
      simp only [tid, List.getD, List.getElem?_eq_getElem this, Option.getD_some]
      exact List.getElem_mem this
    simp only [annOf, AnI.ann] at hi
    rcases hi with hi | hi | hi
    · exact key _ hb.1.1 hi
    · exact key _ hb.1.2 hi
    · exact key _ hb.2 hi
  have hnd := hs.nodup
  rw [← hord] at hnd
  have hnd1 := List.nodup_append.1 hnd
  have hnd2 := List.nodup_cons.1 hnd1.2.1
  have hnd3 := List.nodup_append.1 hnd2.2
  have hnd4 := List.nodup_cons.1 hnd3.2.1
  have hnd5 := List.nodup_append.1 hnd4.2
  have hnd6 := List.nodup_cons.1 hnd5.2.1
  have h12 : c1 ≠ c2 := fun e => hnd2.1 (by simp [e])
  have h13 : c1 ≠ c3 := fun e => hnd2.1 (by simp [e])
  have h23 : c2 ≠ c3 := fun e => hnd4.1 (by simp [e])
  have n1 : ∀ j ∈ l1, j ≠ c1 ∧ j ≠ c2 ∧ j ≠ c3 := fun j hj => ⟨fun e => hnd1.2.2 j hj c1 (by simp) e, fun e => hnd1.2.2 j hj c2 (by simp) e, fun e => hnd1.2.2 j hj c3 (by simp) e⟩
  have n2 : ∀ j ∈ l2, j ≠ c1 ∧ j ≠ c2 ∧ j ≠ c3 := fun j hj => ⟨fun e => hnd2.1 (by simp [← e, hj]), fun e => hnd3.2.2 j hj c2 (by simp) e, fun e => hnd3.2.2 j hj c3 (by simp) e⟩
  have n3 : ∀ j ∈ l3, j ≠ c1 ∧ j ≠ c2 ∧ j ≠ c3 := fun j hj => ⟨fun e => hnd2.1 (by simp [← e, hj]), fun e => hnd4.1 (by simp [← e, hj]), fun e => hnd5.2.2 j hj c3 (by simp) e⟩
  have n4 : ∀ j ∈ l4, j ≠ c1 ∧ j ≠ c2 ∧ j ≠ c3 := fun j hj => ⟨fun e => hnd2.1 (by simp [← e, hj]), fun e => hnd4.1 (by simp [← e, hj]), fun e => hnd6.1 (by simp [← e, hj])⟩
  have g1 := List.nodup_append.1 hG
  have g2 := List.nodup_append.1 g1.2.1
  have f0 : ∀ j ∈ ord, ∀ i, i ∈ G1 ++ (G2 ++ G3) → farA (annOf tbl an j) i := fun j hj i hi => by
    have := hfar i hi
    exact ⟨fun hx => this (hsub j hj i (.inl hx)), fun hx => this (hsub j hj i (.inr (.inl hx))), fun hx => this (hsub j hj i (.inr (.inr hx)))⟩
  have far_more : ∀ (a : Ann) (G : List Nat) i, farA a i → i ∉ G → farA (a.more [] [] G) i := fun a G i h hG => by
    refine ⟨by simpa [Ann.more] using h.1, by simpa [Ann.more] using h.2.1, ?_⟩
    simp only [Ann.more, List.mem_append, not_or]
    exact ⟨h.2.2, hG⟩
  have s1 : Sched ops (fixA c1 [] [] G1 (annOf tbl an)) ord (fun j => pre.getD j []) := sched_fix hs hcl.1 g1.1 fun j hj i hi => f0 j hj i (by simp only [List.not_mem_nil, false_or] at hi; simp [hi])
  have f1 : ∀ j ∈ ord, ∀ i, i ∈ G2 ++ G3 → farA (fixA c1 [] [] G1 (annOf tbl an) j) i := fun j hj i hi => by
    have h0 := f0 j hj i (by simp only [List.mem_append] at hi ⊢; exact .inr hi)
    by_cases e : j = c1
    · subst e; rw [fixA_self]; exact far_more _ _ _ h0 fun hx => g1.2.2 i hx i hi rfl
    · rw [fixA_ne e]; exact h0
  have s2 : Sched ops (fixA c2 [] [] G2 (fixA c1 [] [] G1 (annOf tbl an))) ord (fun j => pre.getD j []) := sched_fix s1 (by rw [fixA_loud]; exact hcl.2.1) g2.1 fun j hj i hi => f1 j hj i (by simp only [List.not_mem_nil, false_or] at hi; simp [hi])
  have f2 : ∀ j ∈ ord, ∀ i, i ∈ G3 → farA (fixA c2 [] [] G2 (fixA c1 [] [] G1 (annOf tbl an)) j) i := fun j hj i hi => by
    have h0 := f1 j hj i (by simp [hi])
    by_cases e : j = c2
    · subst e; rw [fixA_self]; exact far_more _ _ _ h0 fun hx => g2.2.2 i hx i hi rfl
    · rw [fixA_ne e]; exact h0
  have hfix : Sched ops (fixA c3 [] [] G3 (fixA c2 [] [] G2 (fixA c1 [] [] G1 (annOf tbl an)))) ord (fun j => pre.getD j []) := sched_fix s2 (by rw [fixA_loud, fixA_loud]; exact hcl.2.2) g2.2.1 fun j hj i hi => f2 j hj i (by simp only [List.not_mem_nil, false_or] at hi; exact hi)
  generalize hA3 : fixA c3 [] [] G3 (fixA c2 [] [] G2 (fixA c1 [] [] G1 (annOf tbl an))) = ann at hfix
  have a1 : ann c1 = (annOf tbl an c1).more [] [] G1 := by rw [← hA3, fixA_ne h13, fixA_ne h12, fixA_self]
  have a2 : ann c2 = (annOf tbl an c2).more [] [] G2 := by rw [← hA3, fixA_ne h23, fixA_self, fixA_ne (Ne.symm h12)]
  have a3 : ann c3 = (annOf tbl an c3).more [] [] G3 := by rw [← hA3, fixA_self, fixA_ne (Ne.symm h23), fixA_ne (Ne.symm h13)]
  have a0 : ∀ j, (j ≠ c1 ∧ j ≠ c2 ∧ j ≠ c3) → ann j = annOf tbl an j := fun j ⟨e1, e2, e3⟩ => by rw [← hA3, fixA_ne e3, fixA_ne e2, fixA_ne e1]
  have hnm' := tblOk_spec hnm hc.2
  have hnmf : ∀ j ∈ ord, ∀ n ∈ (ann j).nm, s.M ≤ n ∧ n < s.M + k := by
    intro j hj n hn
    have more : ∀ (G : List Nat), (∀ x ∈ G, x ∈ G1 ++ (G2 ++ G3)) → n ∈ ((annOf tbl an j).more [] [] G).nm → s.M ≤ n ∧ n < s.M + k := by
      intro G hGG hn
      rcases List.mem_append.1 hn with hn | hn
      · exact hnm' j n hn
      · exact hGn n (hGG n hn)
    by_cases e1 : j = c1
    · subst e1; rw [a1] at hn; exact more G1 (fun x hx => by simp [hx]) hn
    by_cases e2 : j = c2
    · subst e2; rw [a2] at hn; exact more G2 (fun x hx => by simp [hx]) hn
    by_cases e3 : j = c3
    · subst e3; rw [a3] at hn; exact more G3 (fun x hx => by simp [hx]) hn
    rw [a0 j ⟨e1, e2, e3⟩] at hn; exact hnm' j n hn
  refine wpA_drawn hm hfix hd ⟨s.M, fun i hi => hi⟩ (fun j hj n hn => (hnmf j hj n hn).1) ?_
  rw [← hord]
  have hw : WF s.st.fs { s with M := s.M + k } := ⟨fun t p e => e, fun i o e => e, fun i hi => Nat.le_trans (Nat.le_add_right _ _) hi, rfl⟩
  have run : ∀ (l : List Nat), (∀ j ∈ l, j ≠ c1 ∧ j ≠ c2 ∧ j ≠ c3) → ∀ (s' : MS) (fs : FS) (K : MS → Prop), s'.M = s.M + k → runD P ops tbl an l s' K → WF fs s' → CR P ops ann l fs (fun fs' => ∃ s2, WF fs' s2 ∧ s2.M = s.M + k ∧ K s2) := by
    intro l hl s' fs K hM hr hw
    refine wpM_drawn.CR_mono (runD_CR' (P := P) (ops := ops) (ann := ann) (l := l) (fun j hj => a0 j (hl j hj)) (fun j hj n hn => by rw [hM]; exact (hnm' j n hn).2) hr hw) ?_
    rintro fs2 ⟨s2, w2, hM2, hk2⟩
    exact ⟨s2, w2, by rw [hM2, hM], hk2⟩
  have lt : ∀ (c : Nat) (G : List Nat) (s' : MS), s'.M = s.M + k → c ∈ ord → ann c = (annOf tbl an c).more [] [] G → ∀ n ∈ (annOf tbl an c).nm ++ G, n < s'.M := by
    intro c G s' hM hc' ha n hn
    rw [hM]
    exact (hnmf c hc' n (by rw [ha]; exact hn)).2
  have m1 : c1 ∈ ord := by rw [← hord]; simp
  have m2 : c2 ∈ ord := by rw [← hord]; simp
  have m3 : c3 ∈ ord := by rw [← hord]; simp
  refine CR_append ?_
  refine wpM_drawn.CR_mono (run l1 n1 _ _ _ rfl h hw) ?_
  rintro fs1 ⟨t1, w1, hM1, k1⟩
  refine stepG_CRg a1 hcl.1 (lt c1 G1 t1 hM1 m1 a1) k1 w1 fun t2 hM2 k2 fs2 w2 => ?_
  have hM2' : t2.M = s.M + k := by rw [hM2, hM1]
  refine CR_append ?_
  refine wpM_drawn.CR_mono (run l2 n2 _ _ _ hM2' k2 w2) ?_
  rintro fs3 ⟨t3, w3, hM3, k3⟩
  refine stepG_CRg a2 hcl.2.1 (lt c2 G2 t3 hM3 m2 a2) k3 w3 fun t4 hM4 k4 fs4 w4 => ?_
  have hM4' : t4.M = s.M + k := by rw [hM4, hM3]
  refine CR_append ?_
  refine wpM_drawn.CR_mono (run l3 n3 _ _ _ hM4' k4 w4) ?_
  rintro fs5 ⟨t5, w5, hM5, k5⟩
  refine stepG_CRg a3 hcl.2.2 (lt c3 G3 t5 hM5 m3 a3) k5 w5 fun t6 hM6 k6 fs6 w6 => ?_
  have hM6' : t6.M = s.M + k := by rw [hM6, hM5]
  refine wpM_drawn.CR_mono (run l4 n4 _ _ _ hM6' k6 w6) ?_
  rintro fs ⟨s', w', _, hk⟩ st' rfl
  exact ⟨s', ⟨fun t p e => .inr (w'.e t p e), w'.f, w'.fr, w'.df⟩, hk⟩
variable {ops : List Oper}
theorem drG3_ (hm : P.follows .mixedOrders = true) (ks : List Nat) (k p c1 c2 c3 : Nat) (G1 G2 G3 : List Nat) (tbl : List Nat) (an : List AnI) (l1 l2 l3 l4 : List Nat) (pre : List (List Nat)) {id : Nat} {s : MS} {Q : ExitA → MS → Prop} (m : Nat)
    (htbl : tbl.Nodup) (hnm : ∀ n ∈ tbl.drop p, s.M ≤ n ∧ n < s.M + k) (hG : (G1 ++ (G2 ++ G3)).Nodup) (hGn : ∀ n ∈ G1 ++ (G2 ++ G3), s.M ≤ n ∧ n < s.M + k) (hfar : ∀ i, i ∈ G1 ++ (G2 ++ G3) → i ∉ tbl)
    (h' : ∀ (O : Array Oper) (A : Array AnI) (K : MS → Prop), AtL O 0 ops → AtL A 0 an → (∀ s, keepQ ks Q .normal s → K s) → runD P O tbl A l1 { s with M := s.M + k } fun s1 => stepG P O tbl A c1 [] [] G1 s1 (restG P O tbl A l2 fun s2 => stepG P O tbl A c2 [] [] G2 s2 (restG P O tbl A l3 fun s3 => stepG P O tbl A c3 [] [] G3 s3 (contG P O tbl A l4 K))))
    (hc : (checkD N m ops.toArray an (l1 ++ c1 :: (l2 ++ c2 :: (l3 ++ c3 :: l4))) pre && an.all (fun a => a.nm.all (fun x => decide (p ≤ x) && decide (x < m)))) = true := by decide +kernel) (hcl : (an.getD c1 default).loud = true ∧ (an.getD c2 default).loud = true ∧ (an.getD c3 default).loud = true := by exact ⟨rfl, rfl, rfl⟩) (hlen : tbl.length = m := by exact rfl) :
    wpM P r N (.region id ops.toArray true) s Q :=
  wpM_keep ks (wpM_drawnG3 hm k p c1 c2 c3 G1 G2 G3 tbl an.toArray l1 l2 l3 l4 pre m hlen htbl (by simpa using hc) (by simpa using hcl) hnm hG hGn hfar fun O A K hO hA hK => h' O A K (hO ▸ atL_self ops) (hA ▸ atL_self an) hK)
end
end Sg
