/- A part of a proof: lemmas and contracts of functions; the last text of the claim says what is proved. -/
import Derived.Test.YtmicbfojofcigaaGreatXc28964b4d7
set_option linter.unusedSectionVars false
set_option linter.unusedSimpArgs false
set_option linter.unusedVariables false
namespace Sg
open Go
set_option linter.unusedSectionVars false
set_option linter.unusedVariables false
variable [Glob]
def ksL (l : List (Nat × AObj)) : List Nat := l.map Prod.fst
def dropU (l : List (Nat × AObj)) : List (Nat × Option AObj) := l.map fun p => (p.1, none)
omit [Glob] in
theorem ksL_app (a b : List (Nat × AObj)) : ksL (a ++ b) = ksL a ++ ksL b := by simp [ksL]
omit [Glob] in
theorem ksL_mem {l : List (Nat × AObj)} {p : Nat × AObj} (h : p ∈ l) : p.1 ∈ ksL l := List.mem_map_of_mem h
omit [Glob] in
theorem lk_in : {l : List (Nat × AObj)} → {i : Nat} → {o : AObj} → lk i l = some o → (i, o) ∈ l
  | [], i, o, h => by simp [lk] at h
  | (k, v) :: r, i, o, h => by
    simp only [lk] at h
    split at h
    · rename_i e; subst e; injection h with h; subst h; simp
    · exact List.mem_cons_of_mem _ (lk_in h)
omit [Glob] in
theorem lk_out : {l : List (Nat × AObj)} → {i : Nat} → i ∉ ksL l → lk i l = none
  | [], i, _ => rfl
  | (k, v) :: r, i, h => by
    simp only [ksL, List.map_cons, List.mem_cons, not_or] at h
    simp only [lk]
    rw [if_neg (fun e => h.1 e.symm)]
    exact lk_out h.2
omit [Glob] in
theorem lk_nd : {l : List (Nat × AObj)} → (ksL l).Nodup → {p : Nat × AObj} → p ∈ l → lk p.1 l = some p.2
  | [], _, p, h => by simp at h
  | (k, v) :: r, hnd, p, h => by
    simp only [ksL, List.map_cons, List.nodup_cons] at hnd
    simp only [lk]
    rcases List.mem_cons.1 h with h' | h'
    · subst h'; rw [if_pos rfl]
    · rw [if_neg]
      · exact lk_nd hnd.2 h'
      · intro e; rw [e] at hnd; exact hnd.1 (ksL_mem h')
omit [Glob] in
theorem subL_of {l : List (Nat × AObj)} (hnd : (ksL l).Nodup) : {l' : List (Nat × AObj)} → (∀ p ∈ l', p ∈ l) → subL l l'
  | [], _ => trivial
  | (i, o) :: r, h => ⟨lk_nd hnd (p := (i, o)) (h _ (by simp)), subL_of hnd fun p hp => h p (by simp [hp])⟩
omit [Glob] in
theorem lk_some_of {l : List (Nat × AObj)} {i : Nat} (h : i ∈ ksL l) : (lk i l).isSome = true := by
  induction l with
  | nil => simp [ksL] at h
  | cons x r ih =>
    obtain ⟨k, v⟩ := x
    simp only [lk]
    split
    · rfl
    · rename_i e
      simp only [ksL, List.map_cons, List.mem_cons] at h
      exact ih (h.resolve_left fun e' => e e'.symm)
omit [Glob] in
theorem keepB_of {B : Nat} {f0 : Nat → Option AObj} {l' : List (Nat × AObj)} : {l : List (Nat × AObj)} → (∀ p ∈ l, B ≤ p.1 ∨ f0 p.1 = none ∨ p.1 ∈ ksL l') → keepB B f0 l' l
  | [], _ => trivial
  | (k, v) :: r, h => by
    refine ⟨?_, keepB_of fun p hp => h p (by simp [hp])⟩
    rcases h (k, v) (by simp) with h | h | h
    · exact .inl h
    · exact .inr (.inr h)
    · exact .inr (.inl (lk_some_of h))
omit [Glob] in
theorem keysIn_of {B : Nat} {l : List (Nat × AObj)} : {r : List (Nat × AObj)} → (∀ p ∈ r, B ≤ p.1 ∨ p.1 ∈ ksL l) → keysIn B l r
  | [], _ => trivial
  | (k, v) :: r, h => by
    refine ⟨?_, keysIn_of fun p hp => h p (by simp [hp])⟩
    rcases h (k, v) (by simp) with h | h
    · exact .inl h
    · exact .inr (lk_some_of h)
omit [Glob] in
theorem lk_dropU_in : {T : List (Nat × AObj)} → {i : Nat} → i ∈ ksL T → lk i (dropU T) = some none
  | [], i, h => by simp [ksL] at h
  | (k, v) :: r, i, h => by
    show (if k = i then some none else lk i (dropU r)) = some none
    by_cases e : k = i
    · rw [if_pos e]
    · rw [if_neg e]
      refine lk_dropU_in ?_
      simp only [ksL, List.map_cons, List.mem_cons] at h
      exact h.resolve_left fun e' => e e'.symm
omit [Glob] in
theorem lk_dropU_out : {T : List (Nat × AObj)} → {i : Nat} → i ∉ ksL T → lk i (dropU T) = none
  | [], i, h => rfl
  | (k, v) :: r, i, h => by
    simp only [ksL, List.map_cons, List.mem_cons, not_or] at h
    show (if k = i then some none else lk i (dropU r)) = none
    rw [if_neg (fun e => h.1 e.symm)]
    exact lk_dropU_out h.2
omit [Glob] in
theorem lk_dropU {T : List (Nat × AObj)} {i : Nat} : lk i (dropU T) = if i ∈ ksL T then some none else none := by
  split
  · exact lk_dropU_in (by assumption)
  · exact lk_dropU_out (by assumption)
omit [Glob] in
theorem okDel_dropU {B : Nat} {f0 : Nat → Option AObj} : {T : List (Nat × AObj)} → (∀ p ∈ T, B ≤ p.1 ∨ f0 p.1 = none) → okDel B f0 (dropU T)
  | [], _ => trivial
  | x :: r, h => ⟨h x (by simp), okDel_dropU fun p hp => h p (by simp [hp])⟩
omit [Glob] in
theorem updOk_dropU {l : List (Nat × AObj)} : {T : List (Nat × AObj)} → (∀ p ∈ T, p.1 ∈ ksL l) → updOk l (dropU T)
  | [], _ => trivial
  | x :: r, h => ⟨lk_some_of (h x (by simp)), updOk_dropU fun p hp => h p (by simp [hp])⟩
omit [Glob] in
theorem oldOk_dropU {s : MS} {p : Nat → Prop} {T : List (Nat × AObj)} : {l : List (Nat × AObj)} → (∀ q ∈ l, q.1 ∈ ksL T) → oldOk0 s (dropU T) p l
  | [], _ => trivial
  | (i, o) :: r, h => by
    refine ⟨?_, oldOk_dropU fun q hq => h q (by simp [hq])⟩
    rw [lk_dropU, if_pos (h (i, o) (by simp))]
    trivial
theorem f_drop {s : MS} {d : Option Nat} {v : PV} {M : Nat} {T L : List (Nat × AObj)} (hdel : ∀ p ∈ T, s.B ≤ p.1 ∨ s.f0 p.1 = none) (hnd : (ksL s.l).Nodup) (h1 : ∀ p ∈ L, p ∈ s.l ∧ p.1 ∉ ksL T) (h2 : ∀ p ∈ s.l, p.1 ∈ ksL L ∨ p.1 ∈ ksL T ∨ s.B ≤ p.1 ∨ s.f0 p.1 = none) (e : Env) (M' : Nat) :
    ∀ i x, MS.f { s with env := e, l := L, M := M' } i = some x → (s.out d ⟨v, dropU T, []⟩ M).f i = some x := by
  intro i x h
  have hout : (s.out d ⟨v, dropU T, []⟩ M).f i = (match lk i (dropU T) with | some o => o | none => s.f i) := by
    exact lk_updl (s := s) (i := i) (okDel_dropU hdel)
  rw [hout, lk_dropU]
  simp only [MS.f] at h
  cases hL : lk i L with
  | some o =>
    rw [hL] at h
    injection h with h; subst h
    have hm := lk_in hL
    obtain ⟨a, b⟩ := h1 _ hm
    rw [if_neg b]
    simp only [MS.f, lk_nd hnd a]
  | none =>
    rw [hL] at h
    simp only at h
    split at h
    · rename_i hiB
      have hiT : i ∉ ksL T := by
        intro hiT
        obtain ⟨p, hp, rfl⟩ := List.mem_map.1 hiT
        rcases hdel p hp with h' | h'
        · omega
        · rw [h'] at h; cases h
      rw [if_neg hiT]
      simp only [MS.f]
      cases hs : lk i s.l with
      | some o =>
        exfalso
        rcases h2 _ (lk_in hs) with h' | h' | h' | h'
        · have := lk_some_of h'; rw [hL] at this; cases this
        · exact hiT h'
        · have h' : s.B ≤ i := h'; omega
        · have h' : s.f0 i = none := h'; rw [h'] at h; cases h
      | none => simp only [if_pos hiB]; exact h
    · cases h
theorem f_new {s : MS} {d : Option Nat} {v : PV} {M : Nat} {N : List (Nat × AObj)} (hnd : (ksL s.l).Nodup) (hN : ∀ p ∈ N, p.1 ∉ ksL s.l ∧ s.B ≤ p.1) (e : Env) (M' : Nat) :
    ∀ i x, MS.f { s with env := e, l := s.l ++ N, M := M' } i = some x → (s.out d ⟨v, [], N⟩ M).f i = some x := by
  intro i x h
  simp only [MS.f, MS.out, updl, lk_append] at h ⊢
  cases hs : lk i s.l with
  | some o =>
    rw [hs] at h
    have hm := lk_in hs
    have : lk i N = none := lk_out fun hi => by
      obtain ⟨p, hp, e⟩ := List.mem_map.1 hi
      have h' := (hN p hp).1
      rw [e] at h'
      exact h' (ksL_mem hm)
    rw [this]; exact h
  | none =>
    rw [hs] at h
    simp only at h
    cases hn : lk i N with
    | some o => rw [hn] at h; exact h
    | none => rw [hn] at h; exact h
section
variable {P : Program} {r : Option Nat} {N : Nat}
theorem kG2_drop {ops : Array Oper} {tbl : List Nat} {s : MS} {K : MS → Prop} {o : Oper} {ai : AnI} {x : Operand} {as : Array Operand} {ts : Array TypeId} {fn : FuncId} {first cap ps rs : List PV} {T : List (Nat × AObj)} (L : List (Nat × AObj))
    (hc : CallF P fn (first ++ ps ++ cap) T 0 (fun _ o => o = { rs := rs, u := dropU T })) (henter : ∀ args w, (callFunc fn args).run P w = .ok (.enter fn args) w) (hop : o.op = .call { callee := .value x, args := as, argTypes := ts }) (hg : o.guard = none) (hai : ai.ro = [] ∧ ai.wo = [] ∧ ai.nm = [])
    (hrd : rdOk s.env ai.rd) (hx : ev (keepE s.env ai.rd) x = some (.fn (.func fn) first cap)) (ha : evs (keepE s.env ai.rd) as.toList = some ps)
    (hnd : (ksL s.l).Nodup) (hT : ∀ p ∈ T, p ∈ s.l) (hdel : ∀ p ∈ T, s.B ≤ p.1 ∨ s.f0 p.1 = none) (h1 : ∀ p ∈ L, p ∈ s.l ∧ p.1 ∉ ksL T) (h2 : ∀ p ∈ s.l, p.1 ∈ ksL L ∨ p.1 ∈ ksL T ∨ s.B ≤ p.1 ∨ s.f0 p.1 = none)
    (hk : K { s with env := put s.env o.dst (packA rs), l := L }) : kG2 P ops tbl (ksL T) (ksL T) [] s K o ai := by
  refine kG2_fn (G := []) hc henter hop hg hai hrd hx ha (fun i ob h => ?_) (fun i hi => ?_) ?_
  · have hm := lk_in h
    refine ⟨?_, ksL_mem hm⟩
    simp only [MS.f, lk_nd hnd (hT _ hm)]
  · obtain ⟨p, hp, rfl⟩ := List.mem_map.1 hi
    simp only [MS.f, lk_nd hnd (hT _ hp)]; rfl
  · rintro out rfl
    refine ⟨rfl, fun i x h => ?_, fun i x h => by simp [lk] at h, okDel_dropU hdel, { s with env := put s.env o.dst (packA rs), l := L }, ⟨rfl, f_drop (M := s.M) hdel hnd h1 h2 _ _, rfl, rfl⟩, hk⟩
    rw [lk_dropU] at h
    split at h
    · assumption
    · cases h
theorem kG2_new {ops : Array Oper} {tbl : List Nat} {G : List Nat} {s : MS} {K : MS → Prop} {o : Oper} {ai : AnI} {x : Operand} {as : Array Operand} {ts : Array TypeId} {fn : FuncId} {first cap ps : List PV} {Ω : List Nat → COut → Prop}
    (hc : CallF P fn (first ++ ps ++ cap) [] G.length Ω) (henter : ∀ args w, (callFunc fn args).run P w = .ok (.enter fn args) w) (hop : o.op = .call { callee := .value x, args := as, argTypes := ts }) (hg : o.guard = none) (hai : ai.ro = [] ∧ ai.wo = [] ∧ ai.nm = [])
    (hrd : rdOk s.env ai.rd) (hx : ev (keepE s.env ai.rd) x = some (.fn (.func fn) first cap)) (ha : evs (keepE s.env ai.rd) as.toList = some ps)
    (hnd : (ksL s.l).Nodup) (hG : ∀ g ∈ G, g ∉ ksL s.l ∧ s.B ≤ g)
    (hk : ∀ out, Ω G out → ∃ rs Nw, out = { rs := rs, nw := Nw } ∧ (∀ p ∈ Nw, p.1 ∈ G) ∧ K { s with env := put s.env o.dst (packA rs), l := s.l ++ Nw }) : kG2 P ops tbl [] [] G s K o ai := by
  refine kG2_fn hc henter hop hg hai hrd hx ha (fun i ob h => by simp [lk] at h) (fun i hi => by simp at hi) fun out hout => ?_
  obtain ⟨rs, Nw, rfl, hN, hK⟩ := hk out hout
  exact ⟨rfl, fun i x h => by simp [lk] at h, fun i x h => hN _ (lk_in h), trivial, { s with env := put s.env o.dst (packA rs), l := s.l ++ Nw }, ⟨rfl, f_new (M := s.M) hnd (fun p hp => hG _ (hN p hp)) _ _, rfl, rfl⟩, hK⟩
theorem OpM_K {o : Oper} {s : MS} {K : MS → Prop} {X : PV → MS → Prop} (h : OpM P r N o s (fun s => Wk s.st K) X) : OpM P r N o s K X :=
  OpA.mono h (fun st ⟨s', a, s2, b, c⟩ => ⟨s2, a.trans b, c⟩) fun _ _ h => h
omit [Glob] in
theorem weak_of {s s' : MS} (he : s'.env = s.env) (hf : ∀ i o, s'.f i = some o → s.f i = some o) (hM : s.M ≤ s'.M) (hd : s'.df = s.df) : Weak s.st s'.st := ⟨fun t p e => .inr (by have e : get s'.env t = some p := e; rw [he] at e; exact e), hf, fun i hi => Nat.le_trans hM hi, hd⟩
theorem call_drop {o : Oper} {s : MS} {K : MS → Prop} {X : PV → MS → Prop} {x : Operand} {as : Array Operand} {ts : Array TypeId} {f : FuncId} {first cap ps rs : List PV} {T : List (Nat × AObj)} (L : List (Nat × AObj))
    (hc : CallF P f (first ++ ps ++ cap) T 0 (fun _ o => o = { rs := rs, u := dropU T })) (henter : ∀ args w, (callFunc f args).run P w = .ok (.enter f args) w) (ho : o.op = .call { callee := .value x, args := as, argTypes := ts }) (hd : dstOk N o.dst = true) (hx : ev s.env x = some (.fn (.func f) first cap)) (ha : evs s.env as.toList = some ps)
    (hnd : (ksL s.l).Nodup) (hT : ∀ p ∈ T, p ∈ s.l) (hdel : ∀ p ∈ T, s.B ≤ p.1 ∨ s.f0 p.1 = none) (h1 : ∀ p ∈ L, p ∈ s.l ∧ p.1 ∉ ksL T) (h2 : ∀ p ∈ s.l, p.1 ∈ ksL L ∨ p.1 ∈ ksL T ∨ s.B ≤ p.1 ∨ s.f0 p.1 = none)
    (hk : K { s with env := put s.env o.dst (packA rs), l := L }) : OpM P r N o s K X := by
  refine OpM_K (OpM_call ho hd hx ha henter hc (fun i ob h => ?_) ?_)
  · simp only [MS.f, lk_nd hnd (hT _ (lk_in h))]
  · rintro out rfl
    refine ⟨okDel_dropU hdel, ⟨{ s with env := put s.env o.dst (packA rs), l := L }, weak_of rfl (f_drop (M := s.M + 0) hdel hnd h1 h2 _ _) (Nat.le_refl _) rfl, hk⟩⟩
theorem call_new {o : Oper} {s : MS} {K : MS → Prop} {X : PV → MS → Prop} {x : Operand} {as : Array Operand} {ts : Array TypeId} {f : FuncId} {first cap ps : List PV} {k : Nat} {Ω : List Nat → COut → Prop}
    (hc : CallF P f (first ++ ps ++ cap) [] k Ω) (henter : ∀ args w, (callFunc f args).run P w = .ok (.enter f args) w) (ho : o.op = .call { callee := .value x, args := as, argTypes := ts }) (hd : dstOk N o.dst = true) (hx : ev s.env x = some (.fn (.func f) first cap)) (ha : evs s.env as.toList = some ps)
    (hnd : (ksL s.l).Nodup) (hlt : ∀ p ∈ s.l, p.1 < s.M) (hBM : s.B ≤ s.M)
    (hk : ∀ out, Ω (List.range' s.M k) out → ∃ rs Nw, out = { rs := rs, nw := Nw } ∧ (∀ p ∈ Nw, p.1 ∈ List.range' s.M k) ∧ K { s with env := put s.env o.dst (packA rs), l := s.l ++ Nw, M := s.M + k }) : OpM P r N o s K X := by
  refine OpM_K (OpM_call ho hd hx ha henter hc (fun i ob h => by simp [lk] at h) ?_)
  intro out hout
  obtain ⟨rs, Nw, rfl, hN, hK⟩ := hk out hout
  refine ⟨trivial, ⟨{ s with env := put s.env o.dst (packA rs), l := s.l ++ Nw, M := s.M + k }, weak_of rfl (f_new (M := s.M + k) hnd (fun p hp => ?_) _ _) (Nat.le_refl _) rfl, hK⟩⟩
  have := List.mem_range'_1.1 (hN p hp)
  refine ⟨fun hi => ?_, by omega⟩
  obtain ⟨q, hq, e⟩ := List.mem_map.1 hi
  have := hlt q hq
  omega
end
end Sg
