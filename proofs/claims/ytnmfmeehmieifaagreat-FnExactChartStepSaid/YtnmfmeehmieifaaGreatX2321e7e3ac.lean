/- A part of a proof: lemmas and contracts of functions; the last text of the claim says what is proved. -/
import Derived.Test.YtnmfmeehmieifaaGreatX955f5de38f
set_option linter.unusedSectionVars false
set_option linter.unusedSimpArgs false
set_option linter.unusedVariables false
namespace Sg
open Go
set_option linter.unusedSectionVars false
set_option linter.unusedVariables false
variable [Glob]
section
variable {P : Program}
omit [Glob] in
theorem InR.ks {B M : Nat} {l l' : List (Nat × AObj)} (h : InR B M l) (e : ksL l' = ksL l) : InR B M l' := by
  refine ⟨e ▸ h.nd, fun p hp => ?_⟩
  have h1 := ksL_mem hp
  rw [e] at h1
  obtain ⟨q, hq, e2⟩ := List.mem_map.1 h1
  have := h.at' q hq
  rw [e2] at this; exact this
omit [Glob] in
theorem InR.sub {B M : Nat} {l l' : List (Nat × AObj)} (h : InR B M l) (e : (ksL l').Sublist (ksL l)) : InR B M l' := by
  refine ⟨h.nd.sublist e, fun p hp => ?_⟩
  obtain ⟨q, hq, e2⟩ := List.mem_map.1 (e.subset (ksL_mem hp))
  have := h.at' q hq
  rw [e2] at this; exact this
omit [Glob] in
theorem InR.cut {B M : Nat} {a b c : List (Nat × AObj)} (h : InR B M (a ++ (b ++ c))) : InR B M (a ++ c) :=
  h.sub (by rw [ksL_app, ksL_app, ksL_app]; exact (List.Sublist.refl _).append (List.sublist_append_right _ _))
omit [Glob] in
theorem InR.top {B M : Nat} {o : AObj} {l : List (Nat × AObj)} (h : InR B M l) (h1 : B ≤ M) : InR B (M + 1) ((M, o) :: l) :=
  inR_cons.2 ⟨⟨h1, by omega⟩, fun p hp e => by have := (h.at' p hp).2; omega, h.mono (Nat.le_refl _) (by omega)⟩
theorem Owns.flat {cs qs : List PV} {T : List (Nat × AObj)} (h : Owns P cs qs T) : PV.flatL cs = true ∧ ∀ x ∈ T, x.2.flat = true := by
  induction h with
  | nil => exact ⟨rfl, fun x hx => by simp at hx⟩
  | sc p cs qs T hp _ ih =>
    refine ⟨?_, ih.2⟩
    rw [PV.flatL, ih.1, Bool.and_true]
    cases p <;> first | rfl | cases hp
  | sl e id r c0 T0 cs qs T hes hr h0 _ ih0 ih =>
    refine ⟨by rw [PV.flatL, ih.1]; rfl, fun x hx => ?_⟩
    simp only [List.mem_cons, List.mem_append] at hx
    rcases hx with rfl | hx | hx
    · exact ih0.1
    · exact ih0.2 x hx
    · exact ih.2 x hx
theorem call_ownT {r : Option Nat} {N : Nat} {o : Oper} {s : MS} {K : MS → Prop} {X : PV → MS → Prop} {x : Operand} {as : Array Operand} {ts : Array TypeId} {f : FuncId} {ps qs : List PV} {k : Nat} {w : List PV → List PV} {S : List (Nat × AObj)}
    (hc : CallF P f ps S k (OwnR P w qs)) (henter : ∀ args w, (callFunc f args).run P w = .ok (.enter f args) w) (ho : o.op = .call { callee := .value x, args := as, argTypes := ts }) (hd : dstOk N o.dst = true) (hx : ev s.env x = some (.fn (.func f) [] [])) (ha : evs s.env as.toList = some ps)
    (hI : InR s.B s.M s.l) (hBM : s.B ≤ s.M) (hS : ∀ p ∈ S, p ∈ s.l)
    (hk : ∀ cs T, Owns P cs qs T → InR s.M (s.M + k) T → (ksL T).length = k → K { s with env := put s.env o.dst (packA (w cs)), l := s.l ++ T, M := s.M + k }) : OpM P r N o s K X := by
  refine OpM_K (OpM_call (first := []) (cap := []) (ps := ps) ho hd hx ha henter (by simpa using hc) (fun i ob h => by simp only [MS.f, lk_nd hI.nd (hS _ (lk_in h))]) ?_)
  rintro out ⟨cs, T, hO, hks, rfl⟩
  refine ⟨trivial, ⟨{ s with env := put s.env o.dst (packA (w cs)), l := s.l ++ T, M := s.M + k }, weak_of rfl (f_new (M := s.M + k) hI.nd (fun p hp => ?_) _ _) (Nat.le_refl _) rfl, hk cs T hO (inR_range hks) (by rw [hks, List.length_range'])⟩⟩
  have := List.mem_range'_1.1 (hks ▸ ksL_mem hp)
  refine ⟨fun hi => ?_, by omega⟩
  obtain ⟨q, hq, e⟩ := List.mem_map.1 hi
  have := (hI.at' q hq).2
  omega
theorem kG2_read {ops : Array Oper} {tbl : List Nat} {s : MS} {K : MS → Prop} {o : Oper} {ai : AnI} {x : Operand} {as : Array Operand} {ts : Array TypeId} {fn : FuncId} {first cap ps rs : List PV} {T : List (Nat × AObj)}
    (hc : CallF P fn (first ++ ps ++ cap) T 0 (fun _ o => o = { rs := rs })) (henter : ∀ args w, (callFunc fn args).run P w = .ok (.enter fn args) w) (hop : o.op = .call { callee := .value x, args := as, argTypes := ts }) (hg : o.guard = none) (hai : ai.ro = [] ∧ ai.wo = [] ∧ ai.nm = [])
    (hrd : rdOk s.env ai.rd) (hx : ev (keepE s.env ai.rd) x = some (.fn (.func fn) first cap)) (ha : evs (keepE s.env ai.rd) as.toList = some ps)
    (hT : ∀ p ∈ T, s.f p.1 = some p.2)
    (hk : K { s with env := put s.env o.dst (packA rs) }) : kG2 P ops tbl (ksL T) [] [] s K o ai := by
  refine kG2_fn (G := []) hc henter hop hg hai hrd hx ha (fun i ob h => ?_) (fun i hi => ?_) ?_
  · have hm := lk_in h
    exact ⟨hT _ hm, ksL_mem hm⟩
  · obtain ⟨p, hp, rfl⟩ := List.mem_map.1 hi
    rw [hT _ hp]; rfl
  · rintro out rfl
    exact ⟨rfl, fun i x h => by simp [lk] at h, fun i x h => by simp [lk] at h, trivial, { s with env := put s.env o.dst (packA rs) }, ⟨rfl, fun i x h => h, rfl, rfl⟩, hk⟩
theorem call_setD {r : Option Nat} {N : Nat} {o : Oper} {s : MS} {K : MS → Prop} {X : PV → MS → Prop} {x : Operand} {as : Array Operand} {ts : Array TypeId} {f : FuncId} {ps cs qs : List PV} {n : Int} {T : List (Nat × AObj)} (pre post : List (Nat × AObj))
    (hc : CallF P f ps T 0 (SetR P cs n qs T)) (henter : ∀ args w, (callFunc f args).run P w = .ok (.enter f args) w) (ho : o.op = .call { callee := .value x, args := as, argTypes := ts }) (hd : dstOk N o.dst = true) (hx : ev s.env x = some (.fn (.func f) [] [])) (ha : evs s.env as.toList = some ps)
    (hl : s.l = pre ++ (T ++ post)) (hnd : (ksL s.l).Nodup) (hB : ∀ p ∈ T, s.B ≤ p.1)
    (hk : K { s with env := put s.env o.dst (.int .i64 n), l := pre ++ post }) : OpM P r N o s K X := by
  refine OpM_K (call_set (K := fun s' => Wk s'.st K) pre post hc henter ho hd hx ha hl hnd fun T' hO hks => ?_)
  refine ⟨{ s with env := put s.env o.dst (.int .i64 n), l := pre ++ post }, weak_of rfl (fun i x h => ?_) (Nat.le_refl _) rfl, hk⟩
  have hnd' : (ksL (pre ++ (T' ++ post))).Nodup := by rw [hl] at hnd; rw [ksL_app, ksL_app, hks, ← ksL_app, ← ksL_app]; exact hnd
  simp only [MS.f] at h ⊢
  cases hL : lk i (pre ++ post) with
  | some o' =>
    rw [hL] at h
    have hm : (i, o') ∈ pre ++ (T' ++ post) := by
      have := lk_in hL
      simp only [List.mem_append] at this ⊢
      rcases this with h1 | h1
      · exact .inl h1
      · exact .inr (.inr h1)
    rw [lk_nd hnd' hm]; exact h
  | none =>
    rw [hL] at h
    simp only at h
    split at h
    · rename_i hiB
      have : lk i (pre ++ (T' ++ post)) = none := lk_out fun hi => by
        rw [ksL_app, ksL_app, List.mem_append, List.mem_append] at hi
        have hno : i ∉ ksL (pre ++ post) := fun hx => by
          have := lk_some_of hx
          rw [hL] at this; cases this
        rw [ksL_app, List.mem_append] at hno
        rcases hi with h1 | h1 | h1
        · exact hno (.inl h1)
        · rw [hks] at h1
          obtain ⟨p, hp, rfl⟩ := List.mem_map.1 h1
          have := hB p hp
          omega
        · exact hno (.inr h1)
      rw [this]
      simp only [if_pos hiB]
      exact h
    · cases h
structure WOk (w : List PV → List PV) : Prop where
  ren : ∀ ρ cs, PV.renL ρ (w cs) = w (PV.renL ρ cs)
  ids : ∀ p cs, PV.idsL p cs → PV.idsL p (w cs)
  flat : ∀ cs, PV.flatL cs = true → PV.flatL (w cs) = true
theorem retOwnW {rv : List ResultVar} {f0 : Nat → Option AObj} {B M : Nat} {ns : List Nat} {s : MS} {w : List PV → List PV} (hw : WOk w) (T : List (Nat × AObj)) {cs qs : List PV} (hO : Owns P cs qs T) (h1 : s.f0 = f0) (h2 : s.B = B) (h3 : s.df = []) (hr : resA P s.σ s.env rv = some (w cs))
    (hl : (ksL T).length = ns.length) (hI : InR s.B M s.l) (hT : ∀ q ∈ T, q ∈ s.l) (hnd : (ksL T).Nodup) : retQ P rv [] f0 B ns (OwnR P w qs) .ret s := by
  have hids := hO.ids (fun i => hasKey i [] = true ∨ i ∈ ksL T) (fun j hj => .inr hj)
  have e1 : (ksL T).map (renId (ksL T) ns) = ns := renId_map hl hnd
  have e2 : ksL (T.map (renQ (renId (ksL T) ns))) = ns := by
    have : ksL (T.map (renQ (renId (ksL T) ns))) = (ksL T).map (renId (ksL T) ns) := by simp [ksL, renQ]
    rw [this, e1]
  refine retK (ksL T) [] (T.map (renQ (renId (ksL T) ns))) (rs' := w (PV.renL (renId (ksL T) ns) cs)) h1 h2 h3 hr (hw.ren _ _).symm ⟨_, _, hO.ren _, e2, rfl⟩ hnd hI.keys (hw.ids _ _ hids.1) trivial trivial ?_
  have h := newOk_own (ρ := renId (ksL T) ns) (p := fun i => hasKey i [] = true ∨ i ∈ ksL T) (s := s) (T := T) (fun q hq => ⟨(hI.at' q (hT q hq)).1, hI.f (hT q hq), hids.2 q hq⟩)
  rw [e1] at h
  exact h
theorem ownR_flatW {w : List PV → List PV} (hw : WOk w) {qs : List PV} {ns : List Nat} {o : COut} (h : OwnR P w qs ns o) : FlatOut o := by
  obtain ⟨cs, T, hO, _, rfl⟩ := h
  exact ⟨rfl, rfl, hw.flat _ hO.flat.1, hO.flat.2⟩
abbrev wA2 (a b : Int) (cs : List PV) : List PV := [.agg cs, .int .i64 a, .int .i64 b]
attribute [go_sem] wA2
abbrev wAA (n : Nat) (cs : List PV) : List PV := [.agg (cs.take n), .agg (cs.drop n)]
omit [Glob] in
theorem wAA_ok (n : Nat) : WOk (wAA n) := by
  refine ⟨fun ρ cs => ?_, fun p cs h => ?_, fun cs h => ?_⟩
  · simp [wAA, PV.renL, PV.ren, renL_map, List.map_take, List.map_drop]
  · rw [idsL_iff] at h
    simp only [wAA, PV.idsL, PV.ids]
    exact ⟨(idsL_iff _ _).2 fun x hx => h x (List.mem_of_mem_take hx), (idsL_iff _ _).2 fun x hx => h x (List.mem_of_mem_drop hx), trivial⟩
  · rw [flatL_iff] at h
    simp only [wAA, PV.flatL, PV.flat, Bool.and_true, Bool.and_eq_true]
    exact ⟨(flatL_iff _).2 fun x hx => h x (List.mem_of_mem_take hx), (flatL_iff _).2 fun x hx => h x (List.mem_of_mem_drop hx)⟩
end
end Sg
