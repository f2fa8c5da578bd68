/- What is proved: FnExactChartFires: for every input the law returns true, and its arguments read as before. Conditions: none but the statement's own. -/
import Derived.Test.YtnmfmeehmieifaaGreatX2ddb41aaaf
import Derived.Test.YtnmfmeehmieifaaGreatRows
set_option linter.unusedSectionVars false
set_option linter.unusedSimpArgs false
set_option linter.unusedVariables false
namespace Go.Proofs.YtnmfmeehmieifaaGreat
open Go Sg
set_option maxRecDepth 100000
set_option linter.unusedSimpArgs false
set_option linter.unusedVariables false
set_option linter.unusedSectionVars false
set_option maxHeartbeats 4000000
variable [Glob]
theorem fires_same (c : Cht) (k : Mrk) (m : MM) : sfires c k m = ifires c k m := by
  rw [ifires_eq, sfires]
  have : (c.ok && mrkOk c k && m.ok) = turnOk c k m := by
    unfold turnOk
    rw [cht_iok]
    cases m.ok <;> cases c.ok <;> cases mrkOk c k <;> rfl
  rw [this]
theorem ifires_len (c : Cht) (k : Mrk) (m : MM) : (ifires c k m).length ≤ c.ts.length := by
  unfold ifires
  split
  · rw [nats_len]; exact fI_len _ _ _ _
  · exact Nat.zero_le _
theorem aggs3 {θ : TypeId → Nat → Nat → Nat → Option PV} {a b c a' b' c' : List PV} (h : PV.subL θ (a ++ (b ++ c)) = a' ++ (b' ++ c')) (h1 : a.length = a'.length) (h2 : b.length = b'.length) : PV.subL θ [.agg a, .agg b, .agg c] = [.agg a', .agg b', .agg c'] := by
  simp only [subL_map, List.map_append] at h
  have e1 := List.append_inj h (by simpa using h1)
  have e2 := List.append_inj e1.2 (by simpa using h2)
  simp only [PV.subL, PV.sub, subL_map, e1.1, e2.1, e2.2]
theorem aggs1 {θ : TypeId → Nat → Nat → Nat → Option PV} {a a' : List PV} {p : PV} (h : PV.subL θ a = a') (hp : p.sub θ = p) : PV.subL θ [.agg a, p] = [.agg a', p] := by
  simp only [PV.subL, PV.sub, h, hp]
theorem ifiresO_ok (c : Cht) (k : Mrk) (m : MM) (hc : c.Sm) (hms : m.Sm) {ca cb cd : List PV} {Ta Tb Td : List (Nat × AObj)} (ha : Owns Tryz.prog ca c.cs Ta) (hb : Owns Tryz.prog cb k.cs Tb) (hd : Owns Tryz.prog cd m.cs Td) (hnd : (ksL (Ta ++ (Tb ++ Td))).Nodup) :
    CallF Tryz.prog 23 [.agg ca, .agg cb, .agg cd] (Ta ++ (Tb ++ Td)) 1 (OwnR Tryz.prog id [.rows 3 (rowsI (ifires c k m))]) :=
  CallF.own (ha.app (hb.app hd)) hnd (fun θ h => aggs3 h ha.len hb.len) (fun ns o _ h => ownR_flat (.inl rfl) h) (ifiresT_ok c k m hc hms)
theorem own1 {f : FuncId} {ca qa : List PV} {p : PV} {Ta : List (Nat × AObj)} {rs : List PV} (ha : Owns Tryz.prog ca qa Ta) (hnd : (ksL Ta).Nodup) (hp : ∀ θ, p.sub θ = p) (hf : PV.flatL rs = true) (h : PureF Tryz.prog f [.agg qa, p] rs) : CallF Tryz.prog f [.agg ca, p] Ta 0 (fun _ o => o = { rs := rs }) :=
  CallF.own ha hnd (fun θ h => aggs1 h (hp θ)) (flatOut_rs hf) h
theorem own1s {f : FuncId} {a p q : PV} {Ta : List (Nat × AObj)} {rs : List PV} (ha : Owns Tryz.prog [a] [q] Ta) (hnd : (ksL Ta).Nodup) (hp : ∀ θ, p.sub θ = p) (hf : PV.flatL rs = true) (h : PureF Tryz.prog f [q, p] rs) : CallF Tryz.prog f [a, p] Ta 0 (fun _ o => o = { rs := rs }) :=
  CallF.own ha hnd (fun θ h => by simp only [PV.subL, List.cons.injEq, and_true] at h ⊢; exact ⟨h, hp θ⟩) (flatOut_rs hf) h
theorem own_f {s : MS} {B M : Nat} {T : List (Nat × AObj)} (h : InR B M s.l) (hT : ∀ p ∈ T, p ∈ s.l) : ∀ i o, lk i T = some o → s.f i = some o := fun i o e => h.f (hT _ (lk_in e))
theorem lawFires_ok (c : Cht) (k : Mrk) (m : MM) (hc : c.Len) (hk : k.Len) (hm : m.Len) : PureF Tryz.prog 5 [.agg c.lcs, .agg k.cs, .agg m.cs] [.bool true] := by
  refine pureF_of Tryz.func5 rfl Tryz.ntmps5 (by simp) T_ ?_
  intro f0 B Q hQ
  refine g_ [3,4,5] ?_
  refine g_ [3,4,5,7] ?_
  refine n_ ?_
  refine wpM_regionK [3,4,5,7] rfl fun Q1 hQ1 => ?_
  refine S_ ?_
  refine cp_ (szChart_ok c hc 1048576 (by omega) (by omega)) Tryz.call16 ?_
  refine hQ1 _ _ (S_ ?_);clear hQ1 Q1
  refine g_ [3,4,5,7,21] ?_
  refine c_ (fun hc0 => ?_) fun hc0 => ?_
  ·
    refine g_ [6] ?_
    exact e_ Tryz.results5 True.intro
  have p1 := szR_pos hc0
  refine n_ ?_
  refine wpM_regionK [3,4,5,7] rfl fun Q1 hQ1 => ?_
  refine S_ ?_
  refine cp_ (szMarks_ok k hk (szR 1048576 (cz c)) (by omega) (by omega)) Tryz.call17 ?_
  refine hQ1 _ _ (S_ ?_);clear hQ1 Q1
  refine g_ [3,4,5,7,26] ?_
  refine c_ (fun hc1 => ?_) fun hc1 => ?_
  ·
    refine g_ [6] ?_
    exact e_ Tryz.results5 True.intro
  have p2 := szR_pos hc1
  refine n_ ?_
  refine wpM_regionK [3,4,5,7] rfl fun Q1 hQ1 => ?_
  refine S_ ?_
  refine cp_ (szMem_ok m hm (szR (szR 1048576 (cz c)) (pz k)) (by omega) (by omega)) Tryz.call18 ?_
  refine hQ1 _ _ (S_ ?_);clear hQ1 Q1
  refine g_ [3,4,5,31] ?_
  refine c_ (fun hc2 => ?_) fun hc2 => ?_
  ·
    refine g_ [6] ?_
    exact e_ Tryz.results5 True.intro
  have p3 := szR_pos hc2
  have hzc : cz c ≤ 1048576 := by omega
  have hzk : pz k ≤ 1048576 := by omega
  have hzm : mz m ≤ 1048576 := by omega
  have hSc := cz_Sm hzc
  have hSm := mz_Sm hzm
  have hkl : k.on.length ≤ 1099511627776 := by unfold pz at hzk; omega
  refine n_ ?_
  refine dr_ mixed [3,4,5,8] 0 3 [B, B + 1, B + 2] [⟨[3],[0],[],[],false⟩,⟨[32],[],[],[],true⟩,⟨[4],[1],[],[],false⟩,⟨[34],[],[],[],true⟩,⟨[5],[2],[],[],false⟩,⟨[36],[],[],[],true⟩,⟨[33,35,37],[],[],[],true⟩,⟨[38],[],[],[],false⟩] [0,2,4,1,3,5,6,7] [[],[0],[],[0,1,2],[],[0,1,2,3,4],[0,1,2,3,4,5],[0,1,2,3,4,5,6]] 3 ?_
  intro O A K hO hA hK;simp only [atL_cons,atL_nil,Nat.reduceAdd,Nat.zero_add] at hO hA
  refine SO_ ?_
  refine lp_ (toChart_ok c hzc) Tryz.call20 ?_
  refine lp_ (toMarks_ok k hzk) Tryz.call21 ?_
  refine lp_ (toMem_ok m hzm) Tryz.call22 ?_
  refine lp_ (sfires_ok c k m hSc hSm hkl) Tryz.call19 ?_
  refine hK _ (S_ ?_);clear hK K hO hA O A
  refine n_ ?_
  refine wpM_regionK [3,4,5,8,9] rfl fun Q1 hQ1 => ?_
  refine S_ ?_
  refine call_own (ps := [.agg c.lcs]) (toChartT_ok c hzc) Tryz.call20 rfl rfl rfl F_ (by simp [inR_cons, inR_nil] <;> omega) (by show B ≤ B + 3; omega) ?_
  intro ca Ta hOa hIa hka
  dsimp only at hIa hka
  have hA0 : InR B (B + 3 + c.nC) ((B + 2, AObj.cells 40 m.cs) :: (B + 1, .cells 37 k.cs) :: (B, .cells 34 c.lcs) :: Ta) := InR.app (l := [_, _, _]) (M := B + 3) (by simp [inR_cons, inR_nil]) hIa (by omega) (by omega)
  obtain ⟨xa, ya, _, hca, _, _⟩ := own_cht hOa
  subst hca
  have hBN : B ≤ B + 3 + c.nC := by omega
  have hN3 : B + 3 ≤ B + 3 + c.nC := by omega
  dsimp only
  generalize hN : B + 3 + c.nC = N at *
  refine S_ ?_
  refine hQ1 _ _ (S_ ?_);clear hQ1 Q1
  refine n_ ?_
  refine wpM_regionK [3,4,5,8,9,10] rfl fun Q1 hQ1 => ?_
  refine S_ ?_
  refine call_own (ps := [.agg k.cs]) (toMarksT_ok k hzk) Tryz.call21 rfl rfl rfl F_ ((hA0.top (o := .dfr 0) hBN).ks rfl) (by show B ≤ N + 1; omega) ?_
  intro cb Tb hOb hIb hkb
  dsimp only at hIb hkb
  have hA1 := (hA0.top (o := .dfr 0) hBN).app hIb (by omega) (by omega)
  obtain ⟨xb, yb, hcb, hTb⟩ := own_mrkI hOb
  subst hcb
  unfold Mrk.oc
  refine S_ ?_
  refine hQ1 _ _ (S_ ?_);clear hQ1 Q1
  refine n_ ?_
  refine wpM_regionK [3,4,5,8,9,10,11] rfl fun Q1 hQ1 => ?_
  refine S_ ?_
  refine call_own (ps := [.agg m.cs]) (toMemT_ok m hzm) Tryz.call22 rfl rfl rfl F_ ((hA1.top (o := .dfr 0) (by omega)).ks rfl) (by show B ≤ N + 1 + 2 + 1; omega) ?_
  intro cd Td hOd hId hkd
  dsimp only at hId hkd
  have hA2 := (hA1.top (o := .dfr 0) (by omega)).app hId (by omega) (by omega)
  obtain ⟨xd, yd, zd, hcd, hTd⟩ := own_memI hOd
  subst hcd
  unfold MM.oc
  refine S_ ?_
  refine hQ1 _ _ (S_ ?_);clear hQ1 Q1
  refine n_ ?_
  refine wpM_regionK [3,4,5,8,9,10,11,12] rfl fun Q1 hQ1 => ?_
  refine S_ ?_
  refine call_ownT (ps := [.agg _, .agg _, .agg _]) (S := Ta ++ (Tb ++ Td)) (ifiresO_ok c k m hSc hSm hOa hOb hOd (by rw [← List.append_assoc]; exact (InR.pop (l := [_, _, _, _, _]) (hA2.ks rfl)).nd)) Tryz.call23 rfl rfl rfl F_ ((hA2.top (o := .dfr 0) (by omega)).ks rfl) (by show B ≤ N + 8; omega) (fun p hp => by simp only [List.mem_cons, List.mem_append] at hp ⊢; rcases hp with h | h | h <;> simp [h]) ?_
  intro cg Tg hOg hIg hkg
  dsimp only at hIg hkg
  have hA3 := (hA2.top (o := .dfr 0) (by omega)).app hIg (by omega) (by omega)
  obtain ⟨g, hcg, hTg⟩ := own_intsI hOg
  subst hcg
  have hndg : (ksL Tg).Nodup := hIg.nd
  refine S_ ?_
  refine hQ1 _ _ (S_ ?_);clear hQ1 Q1
  refine n_ ?_
  refine wpM_regionK [3,4,5,8,9,10,11,12,52] rfl fun Q1 hQ1 => ?_
  refine S_ ?_
  refine call_r (own1s hOg hndg (fun θ => rfl) rfl (eqIntS_ok (ifires c k m) (sfires c k m) (by have := ifires_len c k m; have := hSc.ts; omega))) (own_f (hA3.ks rfl) (fun p hp => by simp [hp])) Tryz.call24 rfl rfl rfl F_ ?_
  rw [fires_same, same_self]
  refine S_ ?_
  refine hQ1 _ _ (S_ ?_);clear hQ1 Q1
  refine c1_ ?_
  refine n_ ?_
  refine drG_ mixed [3,4,5,8,9,10,11,12,57] 0 2 3 (ksL Ta) [] [] [B, N] [⟨[9],[1],[],[],false⟩,⟨[3],[0],[],[],false⟩,⟨[54],[],[],[],true⟩,⟨[53,55],[],[],[],true⟩,⟨[56],[],[],[],false⟩] [0,1,2] [4] [[],[],[1],[0,1,2],[0,1,2,3]] 2 ?_ ?_ ?_ ?_ ?_ ?_
  · simp; omega
  · simp
  · exact List.nodup_nil
  · intro n hn; simp at hn
  · intro j hj hjt
    have hj : j ∈ ksL Ta := by rcases hj with h | h | h <;> first | exact h | simp at h
    obtain ⟨p, hp, rfl⟩ := List.mem_map.1 hj
    have h3 := hIa.at' p hp
    simp only [List.mem_cons, List.not_mem_nil, or_false] at hjt
    rcases hjt with h | h <;> omega
  intro O A K hO hA hK;simp only [atL_cons,atL_nil,Nat.reduceAdd,Nat.zero_add] at hO hA
  refine SO_ ?_
  refine lp_ (toChart_ok c hzc) Tryz.call20 ?_
  refine kG2_read (first := []) (cap := []) (ps := [.agg _, .agg c.cs]) (T := Ta) (own1 hOa hIa.nd (fun θ => rfl) rfl (eqChart_ok c c hSc)) Tryz.call25 rfl rfl ⟨rfl, rfl, rfl⟩ T_ rfl F_ (fun p hp => InR.f (hA3.ks rfl) (by simp [hp])) ?_
  unfold contG
  rw [same_self]
  simp -implicitDefEqProofs (disch := omega) only [go_sem, hO, hA]
  refine hK _ (S_ ?_);clear hK K hO hA O A
  refine c1_ ?_
  refine n_ ?_
  refine drG_ mixed [3,4,5,8,9,10,11,12,62] 0 2 3 (ksL Tb) [] [] [B + 1, N + 1 + 2] [⟨[10],[1],[],[],false⟩,⟨[4],[0],[],[],false⟩,⟨[59],[],[],[],true⟩,⟨[58,60],[],[],[],true⟩,⟨[61],[],[],[],false⟩] [0,1,2] [4] [[],[],[1],[0,1,2],[0,1,2,3]] 2 ?_ ?_ ?_ ?_ ?_ ?_
  · simp; omega
  · simp
  · exact List.nodup_nil
  · intro n hn; simp at hn
  · intro j hj hjt
    have hj : j ∈ ksL Tb := by rcases hj with h | h | h <;> first | exact h | simp at h
    obtain ⟨p, hp, rfl⟩ := List.mem_map.1 hj
    have h3 := hIb.at' p hp
    simp only [List.mem_cons, List.not_mem_nil, or_false] at hjt
    rcases hjt with h | h <;> omega
  intro O A K hO hA hK;simp only [atL_cons,atL_nil,Nat.reduceAdd,Nat.zero_add] at hO hA
  refine SO_ ?_
  refine lp_ (toMarks_ok k hzk) Tryz.call21 ?_
  refine kG2_read (first := []) (cap := []) (ps := [.agg _, .agg k.cs]) (T := Tb) (own1 hOb hIb.nd (fun θ => rfl) rfl (eqMarks_ok k k hzk)) Tryz.call26 rfl rfl ⟨rfl, rfl, rfl⟩ T_ rfl F_ (fun p hp => InR.f (hA3.ks rfl) (by simp [hp])) ?_
  unfold contG
  rw [same_self]
  simp -implicitDefEqProofs (disch := omega) only [go_sem, hO, hA]
  refine hK _ (S_ ?_);clear hK K hO hA O A
  refine c1_ ?_
  refine n_ ?_
  refine drG_ mixed [3,4,5,8,9,10,11,12,67] 0 2 3 (ksL Td) [] [] [B + 2, N + 4 + 3] [⟨[11],[1],[],[],false⟩,⟨[5],[0],[],[],false⟩,⟨[64],[],[],[],true⟩,⟨[63,65],[],[],[],true⟩,⟨[66],[],[],[],false⟩] [0,1,2] [4] [[],[],[1],[0,1,2],[0,1,2,3]] 2 ?_ ?_ ?_ ?_ ?_ ?_
  · simp; omega
  · simp
  · exact List.nodup_nil
  · intro n hn; simp at hn
  · intro j hj hjt
    have hj : j ∈ ksL Td := by rcases hj with h | h | h <;> first | exact h | simp at h
    obtain ⟨p, hp, rfl⟩ := List.mem_map.1 hj
    have h3 := hId.at' p hp
    simp only [List.mem_cons, List.not_mem_nil, or_false] at hjt
    rcases hjt with h | h <;> omega
  intro O A K hO hA hK;simp only [atL_cons,atL_nil,Nat.reduceAdd,Nat.zero_add] at hO hA
  refine SO_ ?_
  refine lp_ (toMem_ok m hzm) Tryz.call22 ?_
  refine kG2_read (first := []) (cap := []) (ps := [.agg _, .agg m.cs]) (T := Td) (own1 hOd hId.nd (fun θ => rfl) rfl (eqMem_ok m m hSm)) Tryz.call27 rfl rfl ⟨rfl, rfl, rfl⟩ T_ rfl F_ (fun p hp => InR.f (hA3.ks rfl) (by simp [hp])) ?_
  unfold contG
  rw [same_self]
  simp -implicitDefEqProofs (disch := omega) only [go_sem, hO, hA]
  refine hK _ (S_ ?_);clear hK K hO hA O A
  refine c1_ ?_
  refine g_ [3,4,5,8,9,10,11,12,13] ?_
  refine n_ ?_
  rw [List.append_assoc (Ta ++ Tb) Td Tg, List.append_assoc Ta Tb (Td ++ Tg)]
  have hA3' : InR B (N + 9) ([(N + 4 + 3, AObj.dfr 0), (N + 1 + 2, .dfr 0), (N, .dfr 0), (B + 1 + 1, .dfr 0), (B + 1, .dfr 0), (B, .dfr 0)] ++ (Ta ++ (Tb ++ (Td ++ Tg)))) := hA3.ks (by simp [ksL])
  have hA4 := hA3'.cut
  have hA5 := hA4.cut
  have hA6 := hA5.cut
  have hck : ck c ≤ 4 * cz c := by
    have h1 := tk_le c.ts
    unfold ck cz; omega
  refine wpM_regionK [3,4,5,8,10,11,12,13] rfl fun Q1 hQ1 => ?_
  refine S_ ?_
  refine call_setD (ps := [.agg _, .int .i64 1]) [_, _, _, _, _, _] (Tb ++ (Td ++ Tg)) (markChart_ok c hzc _ Ta hOa hIa.nd 1 (by omega) (by omega)) Tryz.call28 rfl rfl rfl F_ rfl (hA3'.ks rfl).nd (fun p hp => by have := hIa.at' p hp; show B ≤ p.1; omega) ?_
  refine S_ ?_
  refine hQ1 _ _ (S_ ?_);clear hQ1 Q1
  refine n_ ?_
  refine wpM_regionK [3,4,5,8,11,12,13] rfl fun Q1 hQ1 => ?_
  refine S_ ?_
  refine call_setD (T := Tb) (ps := [.agg _, .int .i64 (1 + (ck c : Nat))]) [_, _, _, _, _, _] (Td ++ Tg) (by rw [hTb]; exact markMarks_ok k hzk xb yb (by have h1 := hIb.nd; rw [hTb] at h1; simpa [ksL, Mrk.ol] using h1) (1 + (ck c : Nat)) (by omega) (by omega)) Tryz.call29 rfl rfl rfl F_ rfl (hA4.ks rfl).nd (fun p hp => by have := hIb.at' p hp; show B ≤ p.1; omega) ?_
  refine S_ ?_
  refine hQ1 _ _ (S_ ?_);clear hQ1 Q1
  refine n_ ?_
  refine wpM_regionK [3,4,5,8,12,13] rfl fun Q1 hQ1 => ?_
  refine S_ ?_
  refine call_setD (T := Td) (ps := [.agg _, .int .i64 (1 + (ck c : Nat) + (pz k : Nat))]) [_, _, _, _, _, _] Tg (by rw [hTd]; have h1 := hId.nd; rw [hTd] at h1; simp [ksL, MM.ol] at h1; exact markMem_ok m hzm xd yd zd h1.1.1 h1.1.2 h1.2 (1 + (ck c : Nat) + (pz k : Nat)) (by omega) (by omega)) Tryz.call30 rfl rfl rfl F_ rfl (hA5.ks rfl).nd (fun p hp => by have := hId.at' p hp; show B ≤ p.1; omega) ?_
  refine S_ ?_
  refine hQ1 _ _ (S_ ?_);clear hQ1 Q1
  refine n_ ?_
  have hneg : ¬ ((1 + (ck c : Nat) + (pz k : Nat) + (mz m : Nat) : Int) < 0) := by omega
  refine wpM_regionK [3,4,5,8,12,84] rfl fun Q1 hQ1 => ?_
  simp (contextual := true) (maxSteps := 1000000) (implicitDefEqProofs := false) (disch := first | omega | (simp only [decide_eq_true_eq, decide_eq_false_iff_not, Bool.and_eq_true, Bool.or_eq_false_iff, Bool.not_eq_true'] at *; omega)) only [go_sem, hneg, decide_false]
  refine call_r (own1s hOg hndg (fun θ => rfl) rfl (eqIntS_ok (ifires c k m) (ifires c k m) (by have := ifires_len c k m; have := hSc.ts; omega))) (own_f (hA6.ks rfl) (fun p hp => by simp [hp])) Tryz.call24 rfl rfl rfl F_ ?_
  rw [same_self]
  simp (contextual := true) (maxSteps := 1000000) (implicitDefEqProofs := false) (disch := first | omega | (simp only [decide_eq_true_eq, decide_eq_false_iff_not, Bool.and_eq_true, Bool.or_eq_false_iff, Bool.not_eq_true'] at *; omega)) only [go_sem, hneg, decide_false]
  refine hQ1 _ _ (S_ ?_);clear hQ1 Q1
  refine c1_ ?_
  refine n_ ?_
  obtain rfl := hTg
  have hgr := hIg.at' _ (List.mem_cons_self ..)
  have hfl : (ifires c k m).length ≤ 1048576 := by
    have h1 := ifires_len c k m
    unfold cz at hzc; omega
  refine g_ [3,4,5,8,12,14] ?_
  refine n_ ?_
  refine wpM_regionK [3,4,5,8,12,14] rfl fun Q1 hQ1 => ?_
  refine S_ ?_
  refine call_set (ps := [.sl 3 g 0 (ifires c k m).length, .int .i64 1]) [_, _, _, _, _, _] [] (markIntS_ok g (ifires c k m) hfl 1 (by omega) (by omega)) Tryz.call31 rfl rfl rfl F_ rfl (hA6.ks rfl).nd ?_
  intro Tm hOm hksm
  have hmlen := mkI_len 1 (ifires c k m).length
  have hA7 := hA6.ks (l' := [(N + 4 + 3, AObj.dfr 0), (N + 1 + 2, .dfr 0), (N, .dfr 0), (B + 1 + 1, .dfr 0), (B + 1, .dfr 0), (B, .dfr 0)] ++ Tm) (by rw [ksL_app, ksL_app, hksm])
  refine S_ ?_
  refine hQ1 _ _ (S_ ?_);clear hQ1 Q1
  refine g_ [3,4,5,8,12,14,15] ?_
  refine n_ ?_
  refine wpM_regionK [3,4,5,8,12,14,15] rfl fun Q1 hQ1 => ?_
  refine S_ ?_
  refine call_r (own1s hOm (by rw [hksm]; exact hndg) (fun θ => rfl) rfl (heldIntS_ok (ifires c k m).length hfl 1 (by omega) (by omega))) (own_f (hA7.ks rfl) (fun p hp => by simp [hp])) Tryz.call32 rfl rfl rfl F_ ?_
  have hneg2 : ¬ ((1 + ((ifires c k m).length : Nat) : Int) < 0) := by omega
  refine S_ ?_
  refine hQ1 _ _ (S_ ?_);clear hQ1 Q1
  refine n_ ?_
  refine wpM_regionK [3,4,5,8,12,14,15,92] rfl fun Q1 hQ1 => ?_
  simp -implicitDefEqProofs (disch := omega) only [go_sem, hneg2, decide_false]
  refine hQ1 _ _ (S_ ?_);clear hQ1 Q1
  refine c1_ ?_
  refine g_ [3,4,5,8,12,14,95] ?_
  refine c_ (fun hc9 => ?_) fun hc9 => ?_
  · exfalso; simp at hc9
  refine n_ ?_
  obtain rfl := own_intsX hOm
  refine dr_ mixed [8,12,14,16] 0 3 [B, B + 1, B + 2] [⟨[3],[0],[],[],false⟩,⟨[96],[],[],[],true⟩,⟨[4],[1],[],[],false⟩,⟨[98],[],[],[],true⟩,⟨[5],[2],[],[],false⟩,⟨[100],[],[],[],true⟩,⟨[97,99,101],[],[],[],true⟩,⟨[102],[],[],[],false⟩] [0,2,4,1,3,5,6,7] [[],[0],[],[0,1,2],[],[0,1,2,3,4],[0,1,2,3,4,5],[0,1,2,3,4,5,6]] 3 ?_
  intro O A K hO hA hK;simp only [atL_cons,atL_nil,Nat.reduceAdd,Nat.zero_add] at hO hA
  refine SO_ ?_
  refine lp_ (toChart_ok c hzc) Tryz.call20 ?_
  refine lp_ (toMarks_ok k hzk) Tryz.call21 ?_
  refine lp_ (toMem_ok m hzm) Tryz.call22 ?_
  refine lp_ (ifiresC_ok c k m hSc hSm) Tryz.call23 ?_
  refine hK _ (S_ ?_);clear hK K hO hA O A
  refine n_ ?_
  refine wpM_regionK [12,14,106] rfl fun Q1 hQ1 => ?_
  refine S_ ?_
  refine call_p (eqIntS_ok (ifires c k m) (ifires c k m) (by omega)) Tryz.call24 rfl rfl rfl F_ ?_
  rw [same_self]
  refine S_ ?_
  refine hQ1 _ _ (S_ ?_);clear hQ1 Q1
  refine c1_ ?_
  refine g_ [12,14,15] ?_
  refine n_ ?_
  refine wpM_regionK [14,15] rfl fun Q1 hQ1 => ?_
  refine S_ ?_
  refine call_r (own1s hOm hndg (fun θ => rfl) rfl (heldIntS_ok (ifires c k m).length hfl 1 (by omega) (by omega))) (own_f (hA7.ks rfl) (fun p hp => by simp [hp])) Tryz.call32 rfl rfl rfl F_ ?_
  refine S_ ?_
  refine hQ1 _ _ (S_ ?_);clear hQ1 Q1
  refine n_ ?_
  refine wpM_regionK [14,15,111] rfl fun Q1 hQ1 => ?_
  simp -implicitDefEqProofs (disch := omega) only [go_sem, hneg2, decide_false]
  refine hQ1 _ _ (S_ ?_);clear hQ1 Q1
  refine c1_ ?_
  refine g_ [114] ?_
  refine c_ (fun hc12 => ?_) fun hc12 => ?_
  · exfalso; simp at hc12
  refine g_ [6] ?_
  exact e_ Tryz.results5 True.intro
end Go.Proofs.YtnmfmeehmieifaaGreat
namespace Go.Proofs.YtnmfmeehmieifaaGreat
open Go Sg Go.ChangeShapes Go.WideShapes Go.ChangeAt Go.RowKit
set_option linter.unusedVariables false
set_option linter.unusedSectionVars false
theorem Tryz.own : ownKnob Tryz.prog.godebug = none := by kernel_rfl
theorem Tryz.laidOut : laidOutB Tryz.prog = true := by kernel_rfl
set_option maxRecDepth 100000 in
theorem fnExactChartFires_lifted (os : Os) (started : os.Started) (H : Type) (enc : TypeId × Value → H) :
    ReturnsInHanded {} Tryz.checked os 5 .any (Rows.fnExactChartFiresSpec.pre6 enc Tryz.prog Tryz.f5 Rows.fnExactChartFiresRow.domain false) (Rows.fnExactChartFiresSpec.post enc Tryz.prog Tryz.f5 false true false false) := by
  refine returnsInHanded_of_change (C := Tryz.checked) Tryz.own started (by kernel_rfl) Tryz.func5
    (ChangeSpec.witness6 (enc := enc) (C := Tryz.checked) false ⟨#[], #[.agg #[.int .i64 0, .slice none 0 0, .slice none 0 0], .agg #[.slice none 0 0, .slice none 0 0], .agg #[.slice none 0 0, .slice none 0 0, .slice none 0 0]], []⟩ 8 (by kernel_rfl) (by kernel_rfl) (by kernel_rfl) (by kernel_rfl)) ?_
  intro W base args ds gs before hval0 hW hcnd _
  have hval : ∀ (j : Nat) t v, Tryz.f5.params[j]? = some t → args[j]? = some v → Value.okWide Tryz.prog W .any base t v := hval0
  have hW' := hW
  obtain ⟨p, q, hA0, hV0, rfl, hfz, hnd⟩ := hW
  have hA : DataW.TrodAll enc Tryz.prog W 0 (fun _ => true) true Tryz.f5.params.toList args.toList ds p := hA0
  rw [Tryz.params5] at hA hval
  obtain ⟨v0, vs0, d0, ds0, p0, q0, hargs, rfl, rfl, h0, r0⟩ := trodAll_cons hA
  obtain ⟨v1, vs1, d1, ds1, p1, q1, rfl, rfl, rfl, h1, r1⟩ := trodAll_cons r0
  obtain ⟨v2, vs2, d2, ds2, p2, q2, rfl, rfl, rfl, h2, r2⟩ := trodAll_cons r1
  obtain ⟨rfl, rfl, rfl⟩ := trodAll_nil r2
  obtain rfl : args = #[v0, v1, v2] := by cases args; simp_all
  obtain ⟨rfl, rfl⟩ := trodVars_none hV0
  clear hA0 hV0 hval0
  have hlt : ∀ x ∈ (p0 ++ (p1 ++ (p2 ++ []))), x.block < W.heap.size := fun x hx => by simpa using hW'.lt x (by simpa using hx)
  letI : Glob := noGlob
  obtain ⟨c, hc, hr0⟩ := open_chtA (hval 0 34 v0 rfl rfl) h0
  obtain ⟨k, hk, hr1⟩ := open_mrkA (hval 1 37 v1 rfl rfl) h1
  obtain ⟨m, hm, hr2⟩ := open_memA (hval 2 40 v2 rfl rfl) h2
  refine (top_calls (W := W) (args := [.agg c.lcs, .agg k.cs, .agg m.cs]) (noGlob_ok _ _) ⟨rfl, fun j hj => ?_⟩ (lawFires_ok c k m hc hk hm)).mono fun e W' ⟨he, hb⟩ => ?_
  · match j, hj with
    | 0, _ => exact hr0
    | 1, _ => exact hr1
    | 2, _ => exact hr2
  subst he
  exact ⟨_, rfl, _, _, _, [], (p0 ++ (p1 ++ (p2 ++ []))), [], hW', trodAll_cons_mk (shut_bool Tryz.underlying4 _) trodAll_mk0, (trodAll_cons_mk (WideElems.Trod_stays Tryz.laidOut (by kernel_rfl) (of_decide_eq_true (by kernel_rfl)) h0 (fun x hx => hb.same (hlt x (by simp [hx]))) (fun x hx => by simpa using hlt x (by simp [hx]))) (trodAll_cons_mk (WideElems.Trod_stays Tryz.laidOut (by kernel_rfl) (of_decide_eq_true (by kernel_rfl)) h1 (fun x hx => hb.same (hlt x (by simp [hx]))) (fun x hx => by simpa using hlt x (by simp [hx]))) (trodAll_cons_mk (WideElems.Trod_stays Tryz.laidOut (by kernel_rfl) (of_decide_eq_true (by kernel_rfl)) h2 (fun x hx => hb.same (hlt x (by simp [hx]))) (fun x hx => by simpa using hlt x (by simp [hx]))) trodAll_mk0))), rfl, hb.frame _, fun h => by cases h⟩
theorem fnExactChartFires_holds : Rows.FnExactChartFiresSaid :=
  OpenClaim.holds_of_wide 5 Tryz.f5 rfl rfl rfl rfl rfl rfl rfl ⟨rfl, rfl, rfl, rfl, rfl⟩ rfl rfl rfl rfl rfl (by kernel_rfl) Tryz.func5 (by kernel_rfl)
    (of_decide_eq_true (by kernel_rfl)) (by unfold Func.isWrapper; first | (rw [if_pos (by decide +kernel)]; kernel_rfl) | (rw [if_neg (by decide +kernel)]; exact ⟨rfl, rfl⟩))
    (fun os started H enc _ => fnExactChartFires_lifted os started H enc)
end Go.Proofs.YtnmfmeehmieifaaGreat
