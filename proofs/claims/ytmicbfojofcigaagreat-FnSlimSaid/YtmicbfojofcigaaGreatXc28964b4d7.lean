/- A part of a proof: lemmas and contracts of functions; the last text of the claim says what is proved. -/
import Derived.Test.YtmicbfojofcigaaGreatX95ac9c46de
import Derived.RangeFuncRecord
import Derived.Laws.Externs
set_option linter.unusedSectionVars false
set_option linter.unusedSimpArgs false
set_option linter.unusedVariables false
namespace Sg
open Go
set_option linter.unusedSectionVars false
variable [Glob]
mutual
def PV.sub (θ : TypeId → Nat → Nat → Nat → Option PV) : PV → PV
  | .sl e id off n => match θ e id off n with
    | some q => q
    | none => .sl e id off n
  | .fn f a c => .fn f (PV.subL θ a) (PV.subL θ c)
  | .iface t v => .iface t (v.sub θ)
  | .agg cs => .agg (PV.subL θ cs)
  | .tuple cs => .tuple (PV.subL θ cs)
  | .ptr id off => .ptr id off
  | .map id => .map id
  | .bool b => .bool b
  | .int k n => .int k n
  | .str s => .str s
  | .nilp => .nilp
  | .vptr cs => .vptr cs
  | .kptr b o => .kptr b o
  | .rows e r => .rows e r
  | .emp => .emp
  | .nilm => .nilm
  | .nilfn => .nilfn
  | .nilif => .nilif
  | .dead => .dead
def PV.subL (θ : TypeId → Nat → Nat → Nat → Option PV) : List PV → List PV
  | [] => []
  | x :: r => x.sub θ :: PV.subL θ r
end
omit [Glob] in
theorem subL_map (θ : TypeId → Nat → Nat → Nat → Option PV) (l : List PV) : PV.subL θ l = l.map (PV.sub θ) := by
  induction l with
  | nil => rfl
  | cons x r ih => simp [PV.subL, ih]
omit [Glob] in
theorem R.sub {P : Program} {g g' : Gh} {θ : TypeId → Nat → Nat → Nat → Option PV} {p : PV} {v : Value} (h : R P g p v) (hg : g.le g') (hθ : ∀ e id off n q u, θ e id off n = some q → R P g (.sl e id off n) u → R P g' q u) : R P g' (p.sub θ) v := by
  have lst : ∀ {cs : List PV} {vs : Array Value}, vs.size = cs.length → (∀ j (hj : j < cs.length), R P g' (cs[j].sub θ) (vs.getD j undef)) → vs.size = (PV.subL θ cs).length ∧ ∀ j (hj : j < (PV.subL θ cs).length), R P g' (PV.subL θ cs)[j] (vs.getD j undef) := by
    intro cs vs hl h
    refine ⟨by rw [subL_map]; simpa using hl, fun j hj => ?_⟩
    have hj' : j < cs.length := by rw [subL_map] at hj; simpa using hj
    have e : (PV.subL θ cs)[j] = (cs[j]).sub θ := by simp [subL_map]
    rw [e]; exact h j hj'
  have slc : ∀ {e id off n} {u : Value}, R P g (.sl e id off n) u → R P g' (PV.sub θ (.sl e id off n)) u := by
    intro e id off n u h
    simp only [PV.sub]
    cases hq : θ e id off n with
    | some q => exact hθ _ _ _ _ _ _ hq h
    | none => exact h.mono hg
  induction h with
  | sl e id off len cap b N T h hlc hc => exact slc (.sl e id off len cap b N T h hlc hc)
  | sl0 e id off a b T h => exact slc (.sl0 e id off a b T h)
  | fn f a c va vc ha hc _ _ ih1 ih2 =>
    obtain ⟨a1, a2⟩ := lst ha ih1
    obtain ⟨c1, c2⟩ := lst hc ih2
    exact .fn f _ _ va vc a1 c1 a2 c2
  | iface t v u _ ih => exact .iface t _ u ih
  | agg cs vs hl _ ih => obtain ⟨a1, a2⟩ := lst hl ih; exact .agg _ vs a1 a2
  | tuple cs vs hl _ ih => obtain ⟨a1, a2⟩ := lst hl ih; exact .tuple _ vs a1 a2
  | ptr id off b N T h => exact (R.ptr id off b N T h).mono hg
  | map id b N T h => exact (R.map id b N T h).mono hg
  | vptr cs b off arr T fr h hn hp hr _ => exact (R.vptr cs b off arr T fr h hn hp hr).mono hg
  | rows e r b off cap arr T fr h hes hc hn hl hp hce hr _ => exact (R.rows e r b off cap arr T fr h hes hc hn hl hp hce hr).mono hg
  | kptr b o => exact .kptr b o
  | rows0 e a cap => exact .rows0 e a cap
  | emp a => exact .emp a
  | bool b => exact .bool b
  | int k n => exact .int k n
  | str s => exact .str s
  | nilp => exact .nilp
  | nilm => exact .nilm
  | nilfn => exact .nilfn
  | nilif => exact .nilif
  | dead v => exact .dead v
omit [Glob] in
theorem RL.sub {P : Program} {g g' : Gh} {θ : TypeId → Nat → Nat → Nat → Option PV} {l : List PV} {vs : Array Value} (h : RL P g l vs) (hg : g.le g') (hθ : ∀ e id off n q u, θ e id off n = some q → R P g (.sl e id off n) u → R P g' q u) : RL P g' (PV.subL θ l) vs := by
  refine ⟨by rw [subL_map]; simpa using h.1, fun j hj => ?_⟩
  have hj' : j < l.length := by rw [subL_map] at hj; simpa using hj
  have e : (PV.subL θ l)[j] = (l[j]).sub θ := by simp [subL_map]
  rw [e]; exact (h.2 j hj').sub hg hθ
mutual
def PV.flat : PV → Bool
  | .rows _ _ | .vptr _ => false
  | .fn _ a c => PV.flatL a && PV.flatL c
  | .iface _ v => v.flat
  | .agg cs | .tuple cs => PV.flatL cs
  | _ => true
def PV.flatL : List PV → Bool
  | [] => true
  | x :: r => x.flat && PV.flatL r
end
omit [Glob] in
theorem flatL_iff (l : List PV) : PV.flatL l = true ↔ ∀ x ∈ l, x.flat = true := by
  induction l with
  | nil => simp [PV.flatL]
  | cons x r ih => simp [PV.flatL, ih]
omit [Glob] in
theorem R.flatH {P : Program} {g g' : Gh} {p : PV} {v : Value} (h : R P g p v) (hio : g'.io = g.io) : p.flat = true → R P g' p v := by
  induction h with
  | vptr => intro h; simp [PV.flat] at h
  | rows => intro h; simp [PV.flat] at h
  | rows0 => intro h; simp [PV.flat] at h
  | kptr b o => exact fun _ => .kptr b o
  | sl e id off len cap b N T h hlc hc => exact fun _ => .sl e id off len cap b N T (by rw [hio]; exact h) hlc hc
  | sl0 e id off a b T h => exact fun _ => .sl0 e id off a b T (by rw [hio]; exact h)
  | ptr id off b N T h => exact fun _ => .ptr id off b N T (by rw [hio]; exact h)
  | map id b N T h => exact fun _ => .map id b N T (by rw [hio]; exact h)
  | fn f a c va vc ha hc _ _ ih1 ih2 =>
    intro h
    simp only [PV.flat, Bool.and_eq_true] at h
    exact .fn f a c va vc ha hc (fun j hj => ih1 j hj ((flatL_iff _).1 h.1 _ (List.getElem_mem hj))) (fun j hj => ih2 j hj ((flatL_iff _).1 h.2 _ (List.getElem_mem hj)))
  | iface t v u _ ih => exact fun h => .iface t v u (ih h)
  | agg cs vs hl _ ih => exact fun h => .agg cs vs hl (fun j hj => ih j hj ((flatL_iff _).1 h _ (List.getElem_mem hj)))
  | tuple cs vs hl _ ih => exact fun h => .tuple cs vs hl (fun j hj => ih j hj ((flatL_iff _).1 h _ (List.getElem_mem hj)))
  | bool b => exact fun _ => .bool b
  | int k n => exact fun _ => .int k n
  | str s => exact fun _ => .str s
  | nilp => exact fun _ => .nilp
  | emp a => exact fun _ => .emp a
  | nilm => exact fun _ => .nilm
  | nilfn => exact fun _ => .nilfn
  | nilif => exact fun _ => .nilif
  | dead v => exact fun _ => .dead v
def RowsOf (P : Program) (f : Nat → Option AObj) (e : TypeId) (id off n : Nat) (r : List (List PV)) : Prop :=
  0 < P.cellsOf e ∧ r.length = n ∧ (∀ c ∈ r, c.length = P.cellsOf e ∧ PV.pureL c = true) ∧ ∃ T cs, f id = some (.cells T cs) ∧ off + n * P.cellsOf e ≤ cs.length ∧ (cs.drop off).take (n * P.cellsOf e) = r.flatten
theorem rows_of_sl {P : Program} {g g' : Gh} {σ : Store} {w : World} (hi : Inv P g σ w) (hg : g.le g') {e : TypeId} {id off n : Nat} {r : List (List PV)} (hr : RowsOf P σ.f e id off n r)
    (hH : ∀ b N T, g.io id = some (b, N, T) → 0 < N → g'.H b = w.heap[b]?) {v : Value} (hv : R P g (.sl e id off n) v) : R P g' (.rows e r) v := by
  obtain ⟨hes, hl, hc, T', cs, ho, hle, hfl⟩ := hr
  cases hv with
  | sl0 _ _ _ a b T hio =>
    have : r = [] := List.eq_nil_of_length_eq_zero hl
    subst this
    exact .rows0 e a 0
  | sl _ _ _ _ cap b N T hio hlc hcc =>
    obtain ⟨rfl, arr, hN, hh, hcs, hrr⟩ := cells_at hi ho hio
    by_cases h0 : n = 0
    · subst h0
      have : r = [] := List.eq_nil_of_length_eq_zero hl
      subst this
      exact .rows0 e _ cap
    · have hpos : 0 < n * P.cellsOf e := Nat.mul_pos (Nat.pos_of_ne_zero h0) hes
      have hh := hh.resolve_left (by omega)
      have hHb := hH b N T hio (by omega)
      rw [hh] at hHb
      rw [← hl] at hle hfl hlc ⊢
      have hfl' : r.flatten.length = r.length * P.cellsOf e := flatten_len _ r (fun c hc' => (hc c hc').1)
      have key : ∀ i j (hi' : i < r.length) (hj : j < (r[i]).length), ∃ (h1 : off + i * P.cellsOf e + j < cs.length), r[i][j] = cs[off + i * P.cellsOf e + j] := by
        intro i j hi' hj
        have hci := (hc _ (List.getElem_mem hi')).1
        have hm : (i + 1) * P.cellsOf e ≤ r.length * P.cellsOf e := Nat.mul_le_mul_right _ hi'
        rw [Nat.add_mul] at hm
        have hlt : i * P.cellsOf e + j < r.flatten.length := by rw [hfl']; omega
        obtain ⟨k1, k2, k3⟩ := flatten_get _ hes r (fun c hc' => (hc c hc').1) (i * P.cellsOf e + j) hlt
        have d1 : (i * P.cellsOf e + j) / P.cellsOf e = i := by rw [Nat.mul_comm, Nat.mul_add_div hes]; rw [Nat.div_eq_of_lt (by omega)]; omega
        have d2 : (i * P.cellsOf e + j) % P.cellsOf e = j := by rw [Nat.mul_comm, Nat.mul_add_mod]; exact Nat.mod_eq_of_lt (by omega)
        refine ⟨by omega, ?_⟩
        have e1 : r.flatten[i * P.cellsOf e + j] = r[i][j] := by rw [k3]; congr 1 <;> simp [d1, d2]
        rw [← e1]
        have e2 : r.flatten[i * P.cellsOf e + j] = ((cs.drop off).take (r.length * P.cellsOf e))[i * P.cellsOf e + j]'(by rw [hfl]; exact hlt) := by congr 1; exact hfl.symm
        rw [e2]
        simp [Nat.add_assoc]
      refine .rows e r b off cap arr T (0, 0) hHb hes hlc (by omega) (fun c hc' => (hc c hc').1) (fun c hc' => (hc c hc').2) ?_ ?_
      · intro c hc' x hx
        obtain ⟨i, hi', rfl⟩ := List.getElem_of_mem hc'
        obtain ⟨j, hj, rfl⟩ := List.getElem_of_mem hx
        obtain ⟨k1, k2⟩ := key i j hi' hj
        rw [k2]; exact (hrr _ k1).2
      · intro i j hi' hj
        obtain ⟨k1, k2⟩ := key i j hi' hj
        rw [k2]
        exact (hrr _ k1).1.mono hg
def subObj (θ : TypeId → Nat → Nat → Nat → Option PV) : AObj → AObj
  | .cells T cs => .cells T (PV.subL θ cs)
  | .map es => .map (es.map fun x => (x.1.sub θ, x.2.sub θ))
  | .loop b d st pend fn N env ps as body => .loop b d st pend fn N (mapE (PV.sub θ) env) ps as body
  | .dfr b => .dfr b
def subAL (θ : TypeId → Nat → Nat → Nat → Option PV) : List (Nat × AObj) → List (Nat × AObj)
  | [] => []
  | (k, o) :: r => (k, subObj θ o) :: subAL θ r
def subE (θ : TypeId → Nat → Nat → Nat → Option PV) : Env → Env
  | [] => []
  | (k, p) :: r => (k, p.sub θ) :: subE θ r
def dels : List Nat → List (Nat × AObj) → List (Nat × AObj)
  | [], l => l
  | i :: r, l => dels r (dell i l)
def thOf : List (TypeId × Nat × Nat × Nat × List (List PV)) → TypeId → Nat → Nat → Nat → Option PV
  | [], _, _, _, _ => none
  | (e', id', off', n', r) :: t, e, id, off, n => if e' = e ∧ id' = id ∧ off' = off ∧ n' = n then some (.rows e r) else thOf t e id off n
def MS.frz (s : MS) (fz : List Nat) (t : List (TypeId × Nat × Nat × Nat × List (List PV))) : MS :=
  { s with env := subE (thOf t) s.env, l := subAL (thOf t) (dels fz s.l) }
omit [Glob] in
theorem lk_subAL {θ : TypeId → Nat → Nat → Nat → Option PV} (i : Nat) : (l : List (Nat × AObj)) → lk i (subAL θ l) = (lk i l).map (subObj θ)
  | [] => rfl
  | (k, o) :: r => by
    simp only [subAL, lk]
    split
    · rfl
    · exact lk_subAL i r
omit [Glob] in
theorem get_subE {θ : TypeId → Nat → Nat → Nat → Option PV} (t : Nat) : (e : Env) → get (subE θ e) t = (get e t).map (PV.sub θ)
  | [] => rfl
  | (k, o) :: r => by
    simp only [subE, get]
    split
    · rfl
    · exact get_subE t r
omit [Glob] in
theorem lk_dels (i : Nat) : (fz : List Nat) → (l : List (Nat × AObj)) → lk i (dels fz l) = if i ∈ fz then none else lk i l
  | [], l => by simp [dels]
  | j :: r, l => by
    simp only [dels, lk_dels i r, lk_dell]
    by_cases h1 : i ∈ r
    · simp [h1]
    · by_cases h2 : i = j
      · subst h2; simp
      · simp [h1, h2, fun h => h2 (Eq.symm h)]
        intro h; exact absurd h.symm h2
omit [Glob] in
theorem thOf_some {t : List (TypeId × Nat × Nat × Nat × List (List PV))} {e id off n : Nat} {q : PV} (h : thOf t e id off n = some q) : ∃ r, (e, id, off, n, r) ∈ t ∧ q = .rows e r := by
  induction t with
  | nil => simp [thOf] at h
  | cons x t ih =>
    obtain ⟨e', id', off', n', r⟩ := x
    simp only [thOf] at h
    split at h
    · rename_i hc
      obtain ⟨rfl, rfl, rfl, rfl⟩ := hc
      injection h with h; subst h
      exact ⟨r, by simp, rfl⟩
    · obtain ⟨r', h1, h2⟩ := ih h
      exact ⟨r', by simp [h1], h2⟩
omit [Glob] in
theorem sub_cell (θ : TypeId → Nat → Nat → Nat → Option PV) (hθ : ∀ e id off n q, θ e id off n = some q → q.cell = true) (p : PV) (h : p.cell = true) : (p.sub θ).cell = true := by
  cases p with
  | sl e id off n =>
    simp only [PV.sub]
    cases hq : θ e id off n with
    | some q => exact hθ _ _ _ _ _ hq
    | none => rfl
  | agg => simp [PV.cell] at h
  | tuple => simp [PV.cell] at h
  | dead => simp [PV.cell] at h
  | _ => rfl
omit [Glob] in
theorem sub_pure (θ : TypeId → Nat → Nat → Nat → Option PV) (p : PV) (h : p.pure = true) : p.sub θ = p := go p h
where
  go : (p : PV) → p.pure = true → p.sub θ = p
    | .bool _, _ | .int _ _, _ | .str _, _ | .nilp, _ | .vptr _, _ | .kptr _ _, _ | .rows _ _, _ | .emp, _ | .nilm, _ | .nilfn, _ | .nilif, _ => rfl
    | .ptr _ _, h | .sl _ _ _ _, h | .map _, h | .dead, h => by simp [PV.pure] at h
    | .fn _ a c, h => by simp only [PV.pure, Bool.and_eq_true] at h; simp only [PV.sub, goL a h.1, goL c h.2]
    | .iface _ v, h => by simp only [PV.sub, go v h]
    | .agg cs, h => by simp only [PV.sub, goL cs h]
    | .tuple cs, h => by simp only [PV.sub, goL cs h]
  goL : (l : List PV) → PV.pureL l = true → PV.subL θ l = l
    | [], _ => rfl
    | x :: r, h => by simp only [PV.pureL, Bool.and_eq_true] at h; simp only [PV.subL, go x h.1, goL r h.2]
section
variable {P : Program} {r : Option Nat} {N : Nat}
theorem wpA_turn {c : Code} {st st' : St} {Q : ExitA → St → Prop} (h : ∀ g w a, RA P g N st a → Inv P g st.σ w → ∃ g', g.le g' ∧ RA P g' N st' a ∧ Inv P g' st'.σ w) (hw : wpA P r N c st' Q) : wpA P r N c st Q := by
  intro g w a ha hi
  obtain ⟨g', h1, h2, h3⟩ := h g w a ha hi
  exact wpIn_mono (hw g' w a h2 h3) fun e a w => post_later h1 (.refl _) e a w
omit [Glob] in
theorem ObjOk.sub {g g' : Gh} {θ : TypeId → Nat → Nat → Nat → Option PV} {w : World} {id : Nat} {o : AObj} (h : ObjOk P g w id o) (hg : g.le g') (hio : g'.io = g.io) (hθ : ∀ e id off n q u, θ e id off n = some q → R P g (.sl e id off n) u → R P g' q u) (hc : ∀ e id off n q, θ e id off n = some q → q.cell = true) : ObjOk P g' w id (subObj θ o) := by
  cases o with
  | cells T cs =>
    obtain ⟨b, arr, h1, h2, h3, h4⟩ := h
    refine ⟨b, arr, by rw [hio]; exact h1, h2, by rw [subL_map]; simpa using h3, fun j hj => ?_⟩
    have hj' : j < cs.length := by rw [subL_map] at hj; simpa using hj
    have e : (PV.subL θ cs)[j] = (cs[j]).sub θ := by simp [subL_map]
    rw [e]
    exact ⟨(h4 j hj').1.sub hg hθ, sub_cell θ hc _ (h4 j hj').2⟩
  | map es =>
    obtain ⟨b, ms, c, h1, h2, h3, h4⟩ := h
    refine ⟨b, ms, c, by rw [hio]; exact h1, h2, by simpa [subObj] using h3, fun j hj => ?_⟩
    have hj' : j < es.length := by simpa [subObj] using hj
    have e : (es.map fun x => (x.1.sub θ, x.2.sub θ))[j]'(by simpa using hj') = ((es[j]).1.sub θ, (es[j]).2.sub θ) := by simp
    rw [e]
    obtain ⟨a1, a2, a3⟩ := h4 j hj'
    exact ⟨a1.sub hg hθ, a2.sub hg hθ, by show (es[j].1.sub θ).pure = true; rw [sub_pure θ _ a3]; exact a3⟩
  | loop b d st pend fn N env ps as body =>
    obtain ⟨h1, tmps, h2, h3, h4⟩ := h
    refine ⟨by rw [hio]; exact h1, tmps, h2, h3, fun t p e => ?_⟩
    rw [get_mapE, Option.map_eq_some_iff] at e
    obtain ⟨p0, e, rfl⟩ := e
    exact (h4 t p0 e).sub hg hθ
  | dfr b => exact ⟨by rw [hio]; exact h.1, h.2⟩
theorem frz_ok {s : MS} (fz : List Nat) (t : List (TypeId × Nat × Nat × Nat × List (List PV))) (hB : ∀ i ∈ fz, s.B ≤ i) (hr : ∀ x ∈ t, x.2.1 ∈ fz ∧ RowsOf P s.f x.1 x.2.1 x.2.2.1 x.2.2.2.1 x.2.2.2.2) {g : Gh} {w : World} {a : Act} (ha : RA P g N s.st a) (hi : Inv P g s.σ w) :
    ∃ g', g.le g' ∧ RA P g' N (s.frz fz t).st a ∧ Inv P g' (s.frz fz t).σ w := by
  classical
  let fb : Nat → Prop := fun b => ∃ id ∈ fz, (∃ o, s.f id = some o) ∧ ∃ N T, g.io id = some (b, N, T) ∧ 0 < N
  let g' : Gh := { io := g.io, H := fun b => if fb b then w.heap[b]? else g.H b }
  have hnone : ∀ b, fb b → g.H b = none := by
    rintro b ⟨id, _, ⟨o, ho⟩, N', T, hio, hN⟩
    exact hi.dis id o _ ho hio hN
  have hle : g.le g' := by
    refine ⟨fun _ _ h => h, fun b o h => ?_⟩
    show (if fb b then w.heap[b]? else g.H b) = some o
    rw [if_neg]
    · exact h
    · intro hb; rw [hnone b hb] at h; cases h
  have hθ : ∀ e id off n q u, thOf t e id off n = some q → R P g (.sl e id off n) u → R P g' q u := by
    intro e id off n q u h hu
    obtain ⟨r', hm, rfl⟩ := thOf_some h
    obtain ⟨hf, hro⟩ := hr _ hm
    refine rows_of_sl hi hle (σ := s.σ) hro ?_ hu
    intro b N' T hio hN
    obtain ⟨_, _, _, T', cs, ho, _⟩ := hro
    show (if fb b then w.heap[b]? else g.H b) = w.heap[b]?
    rw [if_pos]
    exact ⟨id, hf, ⟨_, ho⟩, N', T, hio, hN⟩
  have hc : ∀ e id off n q, thOf t e id off n = some q → q.cell = true := by
    intro e id off n q h
    obtain ⟨r', _, rfl⟩ := thOf_some h
    rfl
  have hf : ∀ i o, (s.frz fz t).f i = some o → i ∉ fz ∧ ∃ o0, s.f i = some o0 ∧ (o = subObj (thOf t) o0 ∨ o = o0) := by
    intro i o h
    have h : (match (if i ∈ fz then none else lk i s.l).map (subObj (thOf t)) with | some o => some o | none => if i < s.B then s.f0 i else none) = some o := by
      rw [← lk_dels, ← lk_subAL]; exact h
    by_cases hz : i ∈ fz
    · rw [if_pos hz] at h
      have h : (if i < s.B then s.f0 i else none) = some o := h
      rw [if_neg (by have := hB i hz; omega)] at h; cases h
    · rw [if_neg hz] at h
      refine ⟨hz, ?_⟩
      cases hl : lk i s.l with
      | some o0 =>
        rw [hl] at h
        simp only [Option.map_some, Option.some.injEq] at h
        exact ⟨o0, by simp [MS.f, hl], .inl h.symm⟩
      | none =>
        rw [hl] at h
        exact ⟨o, by simp only [MS.f, hl]; exact h, .inr rfl⟩
  refine ⟨g', hle, ⟨⟨ha.env.1, fun k p hp => ?_, ha.env.2.2.mono hle⟩, ?_⟩, ⟨?_, ?_, ?_, ?_, ?_, hi.gl.mono hle⟩⟩
  · simp only [MS.st, MS.frz, get_subE, Option.map_eq_some_iff] at hp
    obtain ⟨p0, h1, rfl⟩ := hp
    exact (ha.env.2.1 k p0 h1).sub hle hθ
  · exact ha.df.mono hle
  · intro b o h
    have h : (if fb b then w.heap[b]? else g.H b) = some o := h
    split at h
    · exact h
    · exact hi.hH b o h
  · intro i o h
    obtain ⟨_, o0, h1, h2⟩ := hf i o h
    rcases h2 with rfl | rfl
    · exact (hi.obj i o0 h1).sub hle rfl hθ hc
    · exact (hi.obj i o h1).mono hle (fun _ _ => rfl)
  · intro i j o o' e e' h1 h2
    obtain ⟨_, o1, k1, _⟩ := hf i o h1
    obtain ⟨_, o2, k2, _⟩ := hf j o' h2
    exact hi.inj i j o1 o2 e e' k1 k2
  · intro i o e h1 h2 z
    obtain ⟨hz, o1, k1, _⟩ := hf i o h1
    show (if fb e.1 then w.heap[e.1]? else g.H e.1) = none
    rw [if_neg]
    · exact hi.dis i o1 e k1 h2 z
    · rintro ⟨id, hid, ⟨o2, k2⟩, N', T, hio, hN⟩
      have := hi.inj i id _ _ _ _ k1 k2 h2 hio z hN rfl
      subst this
      exact hz hid
  · exact hi.fr
theorem wpM_frz {c : Code} {s : MS} {Q : ExitA → MS → Prop} (fz : List Nat) (t : List (TypeId × Nat × Nat × Nat × List (List PV))) (hB : ∀ i ∈ fz, s.B ≤ i) (hr : ∀ x ∈ t, x.2.1 ∈ fz ∧ RowsOf P s.f x.1 x.2.1 x.2.2.1 x.2.2.2.1 x.2.2.2.2)
    (h : wpM P r N c (s.frz fz t) Q) : wpM P r N c s Q := wpA_turn (fun _ _ _ ha hi => frz_ok fz t hB hr ha hi) h
omit [Glob] in
theorem R.scalar {g g2 : Gh} {p : PV} {v : Value} (h : R P g p v) (hf : p.flat = true) (hp : p.pure = true) : R P g2 p v := by
  have h1 : R P ⟨g.io, g2.H⟩ p v := h.flatH rfl hf
  exact h1.turn (fun _ _ h => h) (pure_ids _ hp)
omit [Glob] in
theorem packA_flat {rs : List PV} (h : PV.flatL rs = true) : (packA rs).flat = true := by
  match rs, h with
  | [], _ => rfl
  | [p], h => simpa [packA, PV.flatL] using h
  | p :: q :: r, h => exact h
omit [Glob] in
theorem packA_pure {rs : List PV} (h : PV.pureL rs = true) : (packA rs).pure = true := by
  match rs, h with
  | [], _ => rfl
  | [p], h => simpa [packA, PV.pureL] using h
  | p :: q :: r, h => exact h
theorem CallF.borrow {f : FuncId} {args rs : List PV} {lst : List (Nat × AObj)} (t : List (TypeId × Nat × Nat × Nat × List (List PV))) (hfl : PV.flatL rs = true) (hpu : PV.pureL rs = true)
    (hr : ∀ x ∈ t, RowsOf P (fun i => lk i lst) x.1 x.2.1 x.2.2.1 x.2.2.2.1 x.2.2.2.2) (h : CallF P f (PV.subL (thOf t) args) [] 0 (fun _ o => o = { rs := rs })) : CallF P f args lst 0 (fun _ o => o = { rs := rs }) := by
  classical
  intro σ ns hinf hl hk hnd hnf g w vals hv hi
  have hns : ns = [] := List.eq_nil_of_length_eq_zero hk
  subst hns
  let fb : Nat → Prop := fun b => ∃ id o N T, σ.f id = some o ∧ g.io id = some (b, N, T) ∧ 0 < N
  let g1 : Gh := { io := g.io, H := fun b => if fb b then w.heap[b]? else g.H b }
  have hnone : ∀ b, fb b → g.H b = none := by
    rintro b ⟨id, o, N', T, ho, hio, hN⟩
    exact hi.dis id o _ ho hio hN
  have hle : g.le g1 := by
    refine ⟨fun _ _ h => h, fun b o h => ?_⟩
    show (if fb b then w.heap[b]? else g.H b) = some o
    rw [if_neg]
    · exact h
    · intro hb; rw [hnone b hb] at h; cases h
  have hθ : ∀ e id off n q u, thOf t e id off n = some q → R P g (.sl e id off n) u → R P g1 q u := by
    intro e id off n q u hq hu
    obtain ⟨r', hm, rfl⟩ := thOf_some hq
    obtain ⟨a1, a2, a3, T', cs, ho, a4⟩ := hr _ hm
    have ho' : σ.f id = some (.cells T' cs) := hl id _ ho
    refine rows_of_sl hi hle (σ := σ) ⟨a1, a2, a3, T', cs, ho', a4⟩ ?_ hu
    intro b N' T hio hN
    show (if fb b then w.heap[b]? else g.H b) = w.heap[b]?
    rw [if_pos]
    exact ⟨id, _, N', T, ho', hio, hN⟩
  let σ1 : Store := { f := fun _ => none, fr := σ.fr }
  have hi1 : Inv P g1 σ1 w := by
    refine ⟨fun b o hb => ?_, fun i o h => (by cases h), fun i j o o' e e' h => (by cases h), fun i o e h => (by cases h), hi.fr, hi.gl.mono hle⟩
    have hb : (if fb b then w.heap[b]? else g.H b) = some o := hb
    split at hb
    · exact hb
    · exact hi.hH b o hb
  have hcall := h σ1 [] hinf (fun i o h => by simp [lk] at h) rfl List.nodup_nil (fun n hn => by simp at hn) g1 w vals (hv.sub hle hθ) hi1
  refine hcall.mono ?_
  rintro e w' ⟨g', out, k1, k2, k3, k4, rfl, k6⟩
  refine ⟨g, { rs := rs }, .refl g, k2, ?_, fun x hx => by simp at hx, rfl, ?_⟩
  · have hsame : ∀ b, fb b → ∀ o, w.heap[b]? = some o → w'.heap[b]? = some o := by
      intro b hb o ho
      refine k3.hH b o (k1.H b o ?_)
      show (if fb b then w.heap[b]? else g.H b) = some o
      rw [if_pos hb]; exact ho
    have hI : Inv P g σ w' := by
      refine ⟨fun b o hb => k3.hH b o (k1.H b o (hle.H b o hb)), fun i o ho => ?_, hi.inj, hi.dis, hi.fr, hi.gl⟩
      have hob := hi.obj i o ho
      cases o with
      | cells T cs =>
        obtain ⟨b, arr, m1, m2, m3, m4⟩ := hob
        refine ⟨b, arr, m1, ?_, m3, m4⟩
        by_cases hz : arr.size = 0
        · exact .inl hz
        · exact .inr (hsame b ⟨i, _, arr.size, T, ho, m1, Nat.pos_of_ne_zero hz⟩ _ (m2.resolve_left hz))
      | map es =>
        obtain ⟨b, ms, c, m1, m2, m3⟩ := hob
        exact ⟨b, ms, c, m1, hsame b ⟨i, _, 1, 0, ho, m1, Nat.one_pos⟩ _ m2, m3⟩
      | loop b d st pend fn N env ps as body =>
        obtain ⟨m1, tmps, m2, m3⟩ := hob
        exact ⟨m1, tmps, hsame b ⟨i, _, 1, 0, ho, m1, Nat.one_pos⟩ _ m2, m3⟩
      | dfr b => exact ⟨hob.1, hsame b ⟨i, _, 1, 0, ho, hob.1, Nat.one_pos⟩ _ hob.2⟩
    exact hI.weak (fun i o h => by simpa [Store.after, lk] using h) (fun i h => h.1)
  · cases e with
    | returned v => exact R.scalar k6 (packA_flat hfl) (packA_pure hpu)
    | panicked ch => exact k6.elim
    | outgrown => exact k6.elim
end
end Sg
namespace Sg
open Go
set_option linter.unusedSectionVars false
variable [Glob]
mutual
theorem ren_self : (p : PV) → p.ren (renId [] []) = p
  | .ptr _ _ | .sl _ _ _ _ | .map _ | .bool _ | .int _ _ | .str _ | .nilp | .vptr _ | .kptr _ _ | .rows _ _ | .emp | .nilm | .nilfn | .nilif | .dead => rfl
  | .fn f a c => by simp only [PV.ren, renL_self a, renL_self c]
  | .iface t v => by simp only [PV.ren, ren_self v]
  | .agg cs => by simp only [PV.ren, renL_self cs]
  | .tuple cs => by simp only [PV.ren, renL_self cs]
theorem renL_self : (l : List PV) → PV.renL (renId [] []) l = l
  | [] => rfl
  | x :: r => by simp only [PV.renL, ren_self x, renL_self r]
end
theorem renO_self (o : AObj) : o.ren (renId [] []) = o := by
  cases o with
  | cells T cs => simp only [AObj.ren, renL_self]
  | map es => simp only [AObj.ren, ren_self, List.map_id']
  | loop b d st pend fn N env ps as body =>
    have : ∀ e : Env, mapE (PV.ren (renId [] [])) e = e := by
      intro e
      induction e with
      | nil => rfl
      | cons x r ih => obtain ⟨k, v⟩ := x; simp only [mapE, ih, ren_self]
    simp only [AObj.ren, this]
  | dfr b => rfl
section
variable {P : Program}
theorem callF_of' {f : FuncId} {fn : Func} {c : Code} {N : Nat} {args : List PV} {l : List (Nat × AObj)} {k : Nat} {Ω : List Nat → COut → Prop} (hf : P.funcs[f]? = some fn) (hb : fn.body = some c) (hN : fn.ntmps = N) (hargs : args.length ≤ N)
    (h : ∀ f0 B ns Q, (∀ i, hasKey i l = true → i < B) → ns.length = k → (∀ e s, retQ P fn.results.toList l f0 B ns Ω e s → Q e s) → wpM P none N c ⟨envOf 0 args, l, f0, B, B, []⟩ Q) : CallF P f args l k Ω :=
  callF_of hf hb hN hargs fun f0 B ns hB hns => h f0 B ns _ hB hns fun _ _ h => h
theorem callF_ofC' {f : FuncId} {fn : Func} {c : Code} {N : Nat} {args : List PV} {l : List (Nat × AObj)} {k : Nat} {Ω : List Nat → COut → Prop} (hf : P.funcs[f]? = some fn) (hb : fn.body = some c) (hN : fn.ntmps = N) (hargs : args.length ≤ N)
    (h : ∀ f0 B ns Q, (∀ i, hasKey i l = true → i < B) → ns.length = k → (∀ e s, retQ P fn.results.toList l (cutL l f0) B ns Ω e s → Q e s) → wpM P none N c ⟨envOf 0 args, l, cutL l f0, B, B, []⟩ Q) : CallF P f args l k Ω :=
  callF_ofC hf hb hN hargs fun f0 B ns hB hns => h f0 B ns _ hB hns fun _ _ h => h
def oldOk0 (s : MS) (u : List (Nat × Option AObj)) (p : Nat → Prop) : List (Nat × AObj) → Prop
  | [] => True
  | (i, o) :: r => (match lk i u with
      | some (some o') => s.f i = some o' ∧ o'.ids p
      | some none => True
      | none => s.f i = some o) ∧ oldOk0 s u p r
theorem oldOk_of0 {s : MS} {u : List (Nat × Option AObj)} {p : Nat → Prop} : {l : List (Nat × AObj)} → oldOk0 s u p l → oldOk (renId [] []) p s u l
  | [], _ => trivial
  | (i, o) :: r, ⟨h1, h2⟩ => by
    refine ⟨?_, oldOk_of0 h2⟩
    split
    · rename_i o' hu
      rw [hu] at h1
      unfold goodObj
      rw [h1.1]
      exact ⟨(renO_self o').symm, h1.2⟩
    · trivial
    · rename_i hu
      rw [hu] at h1; exact h1
theorem ret0 {rv : List ResultVar} {l : List (Nat × AObj)} {f0 : Nat → Option AObj} {B : Nat} {Ω : List Nat → COut → Prop} {s : MS} (u : List (Nat × Option AObj)) {rs : List PV} (h1 : s.f0 = f0) (h2 : s.B = B) (h3 : s.df = []) (hr : resA P s.σ s.env rv = some rs) (hΩ : Ω [] { rs := rs, u := u })
    (hk : keysIn s.B l s.l) (hids : PV.idsL (fun i => hasKey i l = true ∨ i ∈ ([] : List Nat)) rs) (hu : updOk l u) (ho : oldOk0 s u (fun i => hasKey i l = true ∨ i ∈ ([] : List Nat)) l) : retQ P rv l f0 B [] Ω .ret s :=
  ⟨h1, h2, h3, [], rs, { rs := rs, u := u }, hΩ, rfl, hr, ⟨hk, List.nodup_nil, (renL_self rs).symm, rfl, by simpa using hids, hu, oldOk_of0 ho, trivial⟩⟩
theorem ret0n {rv : List ResultVar} {l : List (Nat × AObj)} {f0 : Nat → Option AObj} {B : Nat} {Ω : List Nat → COut → Prop} {s : MS} (u : List (Nat × Option AObj)) {rs : List PV} (h1 : s.f0 = f0) (h2 : s.B = B) (h3 : s.df = []) (hr : resA P s.σ s.env rv = some rs) (hΩ : Ω [] { rs := rs, u := u })
    (hk : keysIn s.B l s.l) (hids : PV.idsL (fun i => hasKey i l = true ∨ i ∈ ([] : List Nat)) rs) (hu : updOk l u) (ho : oldOk0 s u (fun i => hasKey i l = true ∨ i ∈ ([] : List Nat)) l) : retQ P rv l f0 B [] Ω .normal s :=
  ret0 u h1 h2 h3 hr hΩ hk hids hu ho
attribute [go_sem] oldOk0
omit [Glob] in
theorem retK {rv : List ResultVar} {l : List (Nat × AObj)} {f0 : Nat → Option AObj} {B : Nat} {ns : List Nat} {Ω : List Nat → COut → Prop} {s : MS} (js : List Nat) (u : List (Nat × Option AObj)) (nw : List (Nat × AObj)) {rs rs' : List PV} (h1 : s.f0 = f0) (h2 : s.B = B) (h3 : s.df = []) (hr : resA P s.σ s.env rv = some rs)
    (hrs : rs' = PV.renL (renId js ns) rs) (hΩ : Ω ns { rs := rs', u := u, nw := nw }) (hnd : js.Nodup)
    (hk : keysIn s.B l s.l) (hids : PV.idsL (fun i => hasKey i l = true ∨ i ∈ js) rs) (hu : updOk l u) (ho : oldOk (renId js ns) (fun i => hasKey i l = true ∨ i ∈ js) s u l) (hn : newOk (renId js ns) (fun i => hasKey i l = true ∨ i ∈ js) s js ns nw) : retQ P rv l f0 B ns Ω .ret s :=
  ⟨h1, h2, h3, js, rs, { rs := rs', u := u, nw := nw }, hΩ, rfl, hr, ⟨hk, hnd, hrs, rfl, by simpa using hids, hu, ho, hn⟩⟩
theorem retKn {rv : List ResultVar} {l : List (Nat × AObj)} {f0 : Nat → Option AObj} {B : Nat} {ns : List Nat} {Ω : List Nat → COut → Prop} {s : MS} (js : List Nat) (u : List (Nat × Option AObj)) (nw : List (Nat × AObj)) {rs rs' : List PV} (h1 : s.f0 = f0) (h2 : s.B = B) (h3 : s.df = []) (hr : resA P s.σ s.env rv = some rs)
    (hrs : rs' = PV.renL (renId js ns) rs) (hΩ : Ω ns { rs := rs', u := u, nw := nw }) (hnd : js.Nodup)
    (hk : keysIn s.B l s.l) (hids : PV.idsL (fun i => hasKey i l = true ∨ i ∈ js) rs) (hu : updOk l u) (ho : oldOk (renId js ns) (fun i => hasKey i l = true ∨ i ∈ js) s u l) (hn : newOk (renId js ns) (fun i => hasKey i l = true ∨ i ∈ js) s js ns nw) : retQ P rv l f0 B ns Ω .normal s :=
  retK js u nw h1 h2 h3 hr hrs hΩ hnd hk hids hu ho hn
def subF (s : MS) : List (Nat × AObj) → Prop
  | [] => True
  | (k, o) :: r => s.f k = some o ∧ subF s r
attribute [go_sem] subF
omit [Glob] in
theorem subF_spec {s : MS} : {l : List (Nat × AObj)} → subF s l → ∀ i o, lk i l = some o → s.f i = some o
  | [], _, i, o, h => by simp [lk] at h
  | (k, v) :: r, ⟨h1, h2⟩, i, o, h => by
    simp only [lk] at h
    split at h
    · rename_i e; subst e; injection h with h; subst h; exact h1
    · exact subF_spec h2 i o h
variable {r : Option Nat} {N : Nat}
theorem call_fn {o : Oper} {s : MS} {K : MS → Prop} {X : PV → MS → Prop} {x : Operand} {as : Array Operand} {ts : Array TypeId} {f : FuncId} {first cap ps : List PV} {l : List (Nat × AObj)} {k : Nat} {Ω : List Nat → COut → Prop}
    (hc : CallF P f (first ++ ps ++ cap) l k Ω) (henter : ∀ args w, (callFunc f args).run P w = .ok (.enter f args) w) (ho : o.op = .call { callee := .value x, args := as, argTypes := ts }) (hd : dstOk N o.dst = true) (hx : ev s.env x = some (.fn (.func f) first cap)) (ha : evs s.env as.toList = some ps)
    (hl : subF s l) (hk : callK s o.dst k Ω K X) : OpM P r N o s K X := OpM_call ho hd hx ha henter hc (subF_spec hl) hk
theorem call_inv {o : Oper} {s : MS} {K : MS → Prop} {X : PV → MS → Prop} {x : Operand} {m : String} {as : Array Operand} {ts : Array TypeId} {f : FuncId} {rt : TypeId} {recv : PV} {ps : List PV} {l : List (Nat × AObj)} {k : Nat} {Ω : List Nat → COut → Prop}
    (hc : CallF P f (recv :: ps) l k Ω) (henter : ∀ args w, (callFunc f args).run P w = .ok (.enter f args) w) (hm : ∀ (v : Value) w, (method (P.types.size + Made.depth) rt v m).run P w = .ok (f, v) w) (ho : o.op = .call { callee := .invoke x m, args := as, argTypes := ts }) (hd : dstOk N o.dst = true) (hx : ev s.env x = some (.iface rt recv)) (ha : evs s.env as.toList = some ps)
    (hl : subF s l) (hk : callK s o.dst k Ω K X) : OpM P r N o s K X := OpM_invoke ho hd hx ha hm henter hc (subF_spec hl) hk
end
end Sg
namespace Sg
open Go
set_option linter.unusedSectionVars false
variable [Glob]
section
variable {P : Program}
def dfrs (s : MS) : List Nat → Prop
  | [] => True
  | i :: r => (s.B ≤ i ∧ (∃ b, s.f i = some (.dfr b)) ∧ i ∉ r) ∧ dfrs s r
def MS.undf (s : MS) (ids : List Nat) : MS := { s with l := dels ids s.l, df := [] }
def endQ (P : Program) (rv : List ResultVar) (K : List PV → MS → Prop) (X : PV → MS → Prop) : ExitA → MS → Prop
  | .normal, s | .ret, s => ∃ ids, s.df = ids.map DA.mark ∧ dfrs s ids ∧ ∃ rs, resA P (s.undf ids).σ s.env rv = some rs ∧ K rs (s.undf ids)
  | .panic v, s => ∃ ids, s.df = ids.map DA.mark ∧ dfrs s ids ∧ X v (s.undf ids)
  | _, _ => False
omit [Glob] in
theorem undf_f {s : MS} {ids : List Nat} (hB : ∀ i ∈ ids, s.B ≤ i) (i : Nat) : (s.undf ids).f i = if i ∈ ids then none else s.f i := by
  show (match lk i (dels ids s.l) with | some o => some o | none => if i < s.B then s.f0 i else none) = _
  rw [lk_dels]
  by_cases h : i ∈ ids
  · have := hB i h
    have h2 : ¬ i < s.B := by omega
    rw [if_pos h, if_pos h]
    show (if i < s.B then s.f0 i else none) = none
    rw [if_neg h2]
  · rw [if_neg h, if_neg h]; rfl
omit [Glob] in
theorem dfrs_B {s : MS} : {ids : List Nat} → dfrs s ids → ∀ i ∈ ids, s.B ≤ i
  | _ :: _, h, i, hm => by
    simp only [List.mem_cons] at hm
    rcases hm with rfl | hm
    · exact h.1.1
    · exact dfrs_B h.2 i hm
theorem leaves_marks {fn : Func} {tmps : Array Value} {R' : Ending → World → Prop} {g : Gh} {mode : FrameMode} (hm : mode ≠ .run) (fin : ∀ (w' : World) (σ' : Store), Inv P g σ' w' → Frame w' w' → True) :
    ∀ (ids : List Nat) (σ : Store) (w : World) (ds : List Deferred), RDs P g (ids.map DA.mark) ds → Inv P g σ w → (∀ i ∈ ids, ∃ b, σ.f i = some (.dfr b)) → ids.Nodup →
      (∀ σ' w', (∀ i, σ'.f i = if i ∈ ids then none else σ.f i) → σ'.fr = σ.fr → Inv P g σ' w' → Frame w w' → LeavesIn (Fe none) 0 P fn tmps R' [] mode w') → LeavesInM (Fe none) 0 P fn tmps R' ds mode w
  | [], σ, w, ds, hd, hi, _, _, h => by
    cases ds with
    | nil => exact h σ w (fun i => by simp) rfl hi (.refl w)
    | cons d ds => exact hd.elim
  | i :: ids, σ, w, ds, hd, hi, ho, hnd, h => by
    cases ds with
    | nil => exact hd.elim
    | cons d ds =>
      obtain ⟨h1, h2⟩ := hd
      obtain ⟨b, hb⟩ := ho i (by simp)
      obtain ⟨k1, k2⟩ := hi.obj i _ hb
      cases h1 with
      | mark _ b' N T hio =>
        rw [k1] at hio
        injection hio with hio
        injection hio with e1 e2
        subst e1
        refine ⟨hm, .inl ⟨b, _, rfl, run_takeDeferred k2, ?_⟩⟩
        have hi' := hi.put1 hb k1 (.deferred none)
        simp only [List.nodup_cons] at hnd
        refine leaves_marks hm fin ids (σ.drop i) _ ds h2 hi' ?_ hnd.2 ?_
        · intro j hj
          obtain ⟨c, hc⟩ := ho j (by simp [hj])
          refine ⟨c, ?_⟩
          simp only [Store.drop]
          rw [if_neg (by rintro rfl; exact hnd.1 hj)]; exact hc
        · intro σ' w' e1 e2 hi2 hf
          refine h σ' w' (fun k => ?_) (e2.trans rfl) hi2 ((frame_putObj w b _).trans hf)
          rw [e1 k]
          simp only [Store.drop, List.mem_cons]
          by_cases ha : k ∈ ids
          · simp [ha]
          · by_cases hk : k = i <;> simp [ha, hk]
omit [Glob] in
theorem dfrs_spec {s : MS} : {ids : List Nat} → dfrs s ids → (∀ i ∈ ids, ∃ b, s.f i = some (.dfr b)) ∧ ids.Nodup
  | [], _ => ⟨fun i h => by simp at h, List.nodup_nil⟩
  | i :: r, ⟨⟨_, h2, h3⟩, h4⟩ => by
    obtain ⟨a, b⟩ := dfrs_spec h4
    refine ⟨fun j hj => ?_, List.nodup_cons.2 ⟨h3, b⟩⟩
    simp only [List.mem_cons] at hj
    rcases hj with rfl | hj
    · exact h2
    · exact a j hj
def bodyR (P : Program) (g : Gh) (w : World) (K : List PV → MS → Prop) (X : PV → MS → Prop) (e : Ending) (w' : World) : Prop :=
  match e with
  | .returned v => ∃ g' rs s', g.le g' ∧ Frame w w' ∧ Inv P g' s'.σ w' ∧ R P g' (packA rs) v ∧ K rs s'
  | .panicked ch => ∃ g' u p s', g.le g' ∧ Frame w w' ∧ Inv P g' s'.σ w' ∧ ch = [{ v := u, recovered := false }] ∧ R P g' p u ∧ X p s'
  | .outgrown => False
theorem callsIn_body {f : FuncId} {fn : Func} {c : Code} {N : Nat} {args : List PV} {vals : Array Value} {s : MS} {K : List PV → MS → Prop} {X : PV → MS → Prop} (hf : P.funcs[f]? = some fn) (hb : fn.body = some c) (hN : fn.ntmps = N) (hargs : args.length ≤ N)
    {g : Gh} {w : World} (hv : RL P g args vals) (hi : Inv P g s.σ w) (h : wpM P none N c ⟨envOf 0 args, s.l, s.f0, s.B, s.M, []⟩ (endQ P fn.results.toList K X)) : CallsIn (Fe none) 0 P f vals w (bodyR P g w K X) := by
  refine callsIn_of_wp_marks hf hb trivial ?_
  rw [hN]
  have hsize : (vals ++ Array.replicate (N - vals.size) undef).size = N := by simp [hv.1]; omega
  have hRA : RA P g N (MS.st ⟨envOf 0 args, s.l, s.f0, s.B, s.M, []⟩) { tmps := vals ++ Array.replicate (N - vals.size) undef, defers := [] } := by
    refine ⟨⟨hsize, fun t p hp => ?_, hi.gl⟩, trivial⟩
    obtain ⟨_, h2, h3⟩ := get_envOf 0 args t p hp
    simp only [Nat.sub_zero] at h2 h3
    subst h3
    have := hv.2 t h2
    have hlt : t < vals.size := by rw [hv.1]; exact h2
    simpa [Array.getD_eq_getD_getElem?, Array.getElem?_append_left hlt] using this
  refine wpIn_mono (h g w _ hRA hi) ?_
  rintro e a' w' ⟨g', ea, st', h1, h2, h3, h4, h5, s', hw, hq⟩
  have h3' := h3.weak hw
  have h4' : Inv P g' s'.σ w' := h4.weak hw.f hw.fr
  have hgo : ∀ (ids : List Nat), s'.df = ids.map DA.mark → dfrs s' ids → ∀ mode, mode ≠ FrameMode.run → (∀ w2, Inv P g' (s'.undf ids).σ w2 → Frame w' w2 → LeavesIn (Fe none) 0 P fn a'.tmps (bodyR P g w K X) [] mode w2) → LeavesInM (Fe none) 0 P fn a'.tmps (bodyR P g w K X) a'.defers mode w' := by
    intro ids hd hds mode hm hfin
    obtain ⟨k1, k2⟩ := dfrs_spec hds
    refine leaves_marks hm (fun _ _ _ _ => trivial) ids s'.σ w' a'.defers ?_ h4' k1 k2 ?_
    · have := h3'.df
      rwa [show s'.st.df = ids.map DA.mark from hd] at this
    · intro σ2 w2 e1 e2 hi2 hfr
      refine hfin w2 (hi2.weak (fun i o hh => ?_) (fun i hh => ?_)) hfr
      · rw [e1 i]
        have := undf_f (dfrs_B hds) i
        simp only [MS.σ] at hh ⊢
        rw [this] at hh
        exact hh
      · rw [e2]; exact hh
  have retn : (∃ ids, s'.df = ids.map DA.mark ∧ dfrs s' ids ∧ ∃ rs, resA P (s'.undf ids).σ s'.env fn.results.toList = some rs ∧ K rs (s'.undf ids)) → LeavesInM (Fe none) 0 P fn a'.tmps (bodyR P g w K X) a'.defers .returning w' := by
    rintro ⟨ids, hd, hds, rs, hrs, hk⟩
    refine hgo ids hd hds .returning (by simp) fun w2 hi2 hfr => ?_
    obtain ⟨v, r1, r2⟩ := results_ok (P := P) h3'.env hi2 hrs
    exact ⟨v, r1, g', rs, _, h1, h5.trans hfr, hi2, r2, hk⟩
  cases e with
  | normal =>
    obtain rfl := RExit_normal h2
    exact retn hq
  | ret =>
    cases ea <;> simp only [RExit] at h2
    exact retn hq
  | panic ch =>
    cases ea <;> simp only [RExit] at h2
    rename_i v
    obtain ⟨u, rfl, hu⟩ := h2
    obtain ⟨ids, hd, hds, hk⟩ := hq
    refine hgo ids hd hds _ (by simp) fun w2 hi2 hfr => ?_
    exact ⟨g', u, v, _, h1, h5.trans hfr, hi2, rfl, hu, hk⟩
  | exit id => cases ea <;> first | (simp only [RExit] at h2; done) | exact hq.elim
  | goto id => cases ea <;> first | (simp only [RExit] at h2; done) | exact hq.elim
  | outgrown => cases ea <;> simp only [RExit] at h2
variable {r : Option Nat} {N : Nat}
theorem OpM_inline {o : Oper} {s : MS} {K : MS → Prop} {X : PV → MS → Prop} {x : Operand} {as : Array Operand} {ts : Array TypeId} {f : FuncId} {first cap ps : List PV} {fn : Func} {c : Code} {N' : Nat}
    (hf : P.funcs[f]? = some fn) (hb : fn.body = some c) (hN : fn.ntmps = N') (hargs : (first ++ ps ++ cap).length ≤ N')
    (henter : ∀ args w, (callFunc f args).run P w = .ok (.enter f args) w) (ho : o.op = .call { callee := .value x, args := as, argTypes := ts }) (hd : dstOk N o.dst = true) (hx : ev s.env x = some (.fn (.func f) first cap)) (ha : evs s.env as.toList = some ps)
    (h : wpM P none N' c ⟨envOf 0 (first ++ ps ++ cap), s.l, s.f0, s.B, s.M, []⟩ (endQ P fn.results.toList (fun rs s' => K { s' with env := put s.env o.dst (packA rs), df := s.df }) (fun v s' => X v { s' with env := s.env, df := s.df }))) : OpM P r N o s K X := by
  have hdef : ∀ c, o.op ≠ .defer c := by intro c h; rw [ho] at h; cases h
  intro g w a hra hi next Q' h1 h2
  have hx1 := R_ev hra hx
  have hx2 := evs_RL hra ha
  generalize hv : a.eval x = v at hx1
  cases hx1 with
  | fn _ _ _ va vc e1 e2 e3 e4 =>
    have hvals : RL P g (first ++ ps ++ cap) (va ++ as.map a.eval ++ vc) := (RL.append ⟨e1, e3⟩ hx2).append ⟨e2, e4⟩
    have hrun : (execOp a.eval o).run P w = .ok (.enter f (va ++ as.map a.eval ++ vc)) w := by
      unfold execOp
      simp only [ho]
      exact resolve_value hv henter w
    refine ⟨fun _ _ => trivial, ?_⟩
    rw [Oper.semAt_eq _ _ _ hdef, hrun, Oper.uponIn_enter]
    refine ⟨fun h => (by cases h), ?_⟩
    have hcall := callsIn_body (s := s) hf hb hN hargs hvals hi h
    refine CallsIn.mono (F := Fe r) (n := 0 - 1) hcall ?_
    intro e w' hR
    cases e with
    | returned v =>
      obtain ⟨g', rs, s', k1, k2, k3, k4, k5⟩ := hR
      have ha' := (hra.mono k1).put hd k4
      exact h1 g' (MS.st { s' with env := put s.env o.dst (packA rs), df := s.df }) _ w' k1 ⟨ha'.env, ha'.df⟩ k3 k2 ⟨_, .refl _, k5⟩
    | panicked ch =>
      obtain ⟨g', u, p, s', k1, k2, k3, rfl, k4, k5⟩ := hR
      have ha' := hra.mono k1
      exact h2 g' (MS.st { s' with env := s.env, df := s.df }) a w' p u k1 ⟨ha'.env, ha'.df⟩ k3 k2 k4 ⟨_, .refl _, k5⟩
    | outgrown => exact hR.elim
def putAll : Env → List Nat → List PV → Env
  | e, t :: ts, p :: ps => putAll ((t, p) :: e) ts ps
  | e, _, _ => e
theorem REnv.putTmp {g : Gh} {N : Nat} {e : Env} {tmps : Array Value} {t : Nat} {p : PV} {v : Value} (h : REnv P g N e tmps) (ht : t < N) (hp : R P g p v) : REnv P g N ((t, p) :: e) (tmps.setIfInBounds t v) := by
  refine ⟨by simp [h.1], fun u q hq => ?_, h.2.2⟩
  simp only [get] at hq
  split at hq
  · rename_i e1; subst e1
    injection hq with hq; subst hq
    have : t < tmps.size := by rw [h.1]; exact ht
    simpa [Array.getD_eq_getD_getElem?, this] using hp
  · rename_i hne
    have := h.2.1 u q hq
    simpa [Array.getD_eq_getD_getElem?, Array.getElem?_setIfInBounds_ne hne] using this
theorem putAll_ok {g : Gh} {N : Nat} : (ts : List Nat) → (ps : List PV) → (vs : List Value) → (e : Env) → (tmps : Array Value) → REnv P g N e tmps → (∀ t ∈ ts, t < N) → ts.length = ps.length → vs.length = ps.length → (∀ j (hj : j < ps.length), R P g ps[j] (vs.getD j undef)) →
    REnv P g N (putAll e ts ps) ((ts.zip vs).foldl (fun (tmps : Array Value) (x : Nat × Value) => tmps.setIfInBounds x.1 x.2) tmps)
  | [], _, vs, e, tmps, h, _, _, _, _ => by simpa [putAll] using h
  | t :: ts, [], vs, e, tmps, h, _, hl, _, _ => by simp at hl
  | t :: ts, p :: ps, [], e, tmps, h, _, _, hv, _ => by simp at hv
  | t :: ts, p :: ps, v :: vs, e, tmps, h, ht, hl, hv, hr => by
    simp only [putAll, List.zip_cons_cons, List.foldl_cons]
    refine putAll_ok ts ps vs _ _ (h.putTmp (ht t (by simp)) (hr 0 (by simp))) (fun t' h' => ht t' (by simp [h'])) (by simpa using hl) (by simpa using hv) (fun j hj => ?_)
    have := hr (j + 1) (by simpa using hj)
    simpa using this
def AObj.loopSt (st : LoopState) (pend : Option Code) : AObj → AObj
  | .loop b d _ _ fn N env ps as body => .loop b d st pend fn N env ps as body
  | o => o
def setLoop (s : MS) (id : Nat) (st : LoopState) (pend : Option Code) : Option MS :=
  match s.f id with
  | some (.loop b d _ _ fn N env ps as body) => some { s with l := setl id (.loop b d st pend fn N env ps as body) s.l }
  | _ => none
def roundQ (id : Nat) (b : Nat) (K : Bool → MS → Prop) : ExitA → MS → Prop
  | .normal, s => ∃ d st pe fn N env ps as body, s.f id = some (.loop b d st pe fn N env ps as body) ∧ K true { s with l := setl id (.loop b d .ready none fn N env ps as body) s.l }
  | .ret, s => ∃ d st pe fn N env ps as body, s.f id = some (.loop b d st pe fn N env ps as body) ∧ K false { s with l := setl id (.loop b d .done (some .ret) fn N env ps as body) s.l }
  | .exit e, s => ∃ d st pe fn N env ps as body, s.f id = some (.loop b d st pe fn N env ps as body) ∧ K false { s with l := setl id (.loop b d .done (some (.exit e)) fn N env ps as body) s.l }
  | _, _ => False
omit [Glob] in
theorem weak_setl {s : MS} {id : Nat} {o : AObj} : ∀ i x, (MS.f { s with l := setl id o s.l } i) = some x → (s.σ.set id o).f i = some x := by
  intro i x h
  simp only [MS.f, lk_setl] at h
  simp only [Store.set, MS.σ, MS.f]
  by_cases e : id = i
  · subst e; simpa using h
  · rw [if_neg (fun h => e h.symm)]
    rw [if_neg e] at h
    exact h
theorem inv_loop {g : Gh} {s : MS} {w : World} (hi : Inv P g s.σ w) {id b d : Nat} {st : LoopState} {pe : Option Code} {fn : FuncId} {N : Nat} {env : Env} {ps : Array Nat} {as body : Code} (ho : s.f id = some (.loop b d st pe fn N env ps as body)) (st' : LoopState) (pe' : Option Code) :
    ∃ tmps : Array Value, w.heap[b]? = some (.loop { state := st, pending := pe, fn, tmps, params := ps, assign := as, body, defers := d }) ∧ REnv P g N env tmps ∧
      Inv P g (MS.σ { s with l := setl id (.loop b d st' pe' fn N env ps as body) s.l }) (w.putObj b (.loop { state := st', pending := pe', fn, tmps, params := ps, assign := as, body, defers := d })) := by
  obtain ⟨k1, tmps, k2, k3, k4⟩ := hi.obj id _ ho
  refine ⟨tmps, k2, ⟨k3, k4, hi.gl⟩, ?_⟩
  have hlt : b < w.heap.size := (Array.getElem?_eq_some_iff.1 k2).1
  have := hi.set1 (o1 := .loop b d st' pe' fn N env ps as body) ho k1 (.loop { state := st', pending := pe', fn, tmps, params := ps, assign := as, body, defers := d }) ⟨k1, tmps, World.putObj_heap_same hlt, k3, k4⟩
  exact this.weak (fun i x h => weak_setl i x h) (fun i h => h)
theorem OpM_round {o : Oper} {s : MS} {K : MS → Prop} {X : PV → MS → Prop} {x : Operand} {as : Array Operand} {ts : Array TypeId} {b : Nat} {vs : List PV} (id : Nat) {d : Nat} {pe : Option Code} {fn : FuncId} {N' : Nat} {env : Env} {ps : Array Nat} {asg body : Code}
    (ho : o.op = .call { callee := .value x, args := as, argTypes := ts }) (hd : dstOk N o.dst = true) (hx : ev s.env x = some (.fn (.yield b) [] [])) (ha : evs s.env as.toList = some vs)
    (hl : s.f id = some (.loop b d .ready pe fn N' env ps asg body)) (hps : ps.size = vs.length) (hpN : ps.toList.all (fun t => decide (t < N')) = true)
    (h : wpM P (some b) N' asg ⟨putAll env ps.toList vs, s.l, s.f0, s.B, s.M, []⟩ fun e s1 => e = .normal ∧ ∃ d1 pe1 fn1 N1 env1 ps1 as1 body1, s1.f id = some (.loop b d1 .ready pe1 fn1 N1 env1 ps1 as1 body1) ∧
      wpM P (some b) N' body { s1 with l := setl id (.loop b d1 .busy pe1 fn1 N1 env1 ps1 as1 body1) s1.l } (roundQ id b fun v s2 => K { s2 with env := put s.env o.dst (.bool v), df := s.df })) : OpM P r N o s K X := by
  have hdef : ∀ c, o.op ≠ .defer c := by intro c h; rw [ho] at h; cases h
  intro g w a hra hi next Q' h1 h2
  have hx1 := R_ev hra hx
  have hx2 := evs_RL hra ha
  generalize hv : a.eval x = v at hx1
  cases hx1 with
  | fn _ _ _ va vc e1 e2 e3 e4 =>
    obtain rfl : va = #[] := Array.size_eq_zero_iff.1 e1
    obtain rfl : vc = #[] := Array.size_eq_zero_iff.1 e2
    obtain ⟨tmps, k2, k3, _⟩ := inv_loop hi hl .ready none
    have hsz : (as.map a.eval).size = ps.size := by rw [hx2.1, hps]
    have hrun : (execOp a.eval o).run P w = .ok (.round b fn ((ps.zip (as.map a.eval)).foldl (fun tmps (x : Nat × Value) => tmps.setIfInBounds x.1 x.2) tmps) asg body) w := by
      have e0 : #[] ++ as.map a.eval ++ (#[] : Array Value) = as.map a.eval := by simp
      unfold execOp
      simp only [ho, resolve, hv, Deferred.ofValue, Sem.run_bind, Sem.run_pure, Result.andThen_ok, invoke, e0]
      have e1 : #[] ++ as.map a.eval = as.map a.eval := by simp
      rw [e1, run_yield k2 hsz]
    refine ⟨fun _ _ => trivial, ?_⟩
    rw [Oper.semAt_eq _ _ _ hdef, hrun, Oper.uponIn_round]
    refine ⟨fun h => (by cases h), ?_⟩
    let tm := (ps.zip (as.map a.eval)).foldl (fun (tmps : Array Value) (x : Nat × Value) => tmps.setIfInBounds x.1 x.2) tmps
    have htm : REnv P g N' (putAll env ps.toList vs) tm := by
      have := putAll_ok (P := P) (g := g) (N := N') ps.toList vs (as.map a.eval).toList env tmps k3 (fun t ht => by have := List.all_eq_true.1 hpN t ht; simpa using this) (by simpa using hps) (by simpa using hx2.1) (fun j hj => by
        have := hx2.2 j hj
        simpa [Array.getD_eq_getD_getElem?, List.getD_eq_getElem?_getD] using this)
      simpa [tm, ← Array.foldl_toList, Array.toList_zip] using this
    have hRA : RA P g N' (MS.st ⟨putAll env ps.toList vs, s.l, s.f0, s.B, s.M, []⟩) { tmps := tm, defers := [] } := ⟨htm, trivial⟩
    refine roundIn_of_wpIn trivial ?_
    show asg.wpIn (Fe (some b)) 0 P _ { tmps := tm, defers := [] } w
    refine wpIn_mono (h g w _ hRA hi) ?_
    rintro e a1 w1 ⟨g1, ea, st1, m1, m2, m3, m4, m5, s1, hw1, rfl, d1, pe1, fn1, N1, env1, ps1, as1, body1, hl1, hbody⟩
    cases e <;> simp only [RExit] at m2
    have m3' := m3.weak hw1
    have m4' : Inv P g1 s1.σ w1 := m4.weak hw1.f hw1.fr
    obtain ⟨tmps1, n2, n3, n4⟩ := inv_loop m4' hl1 .busy pe1
    show ∃ w₂, _ ∧ _
    refine ⟨_, run_beginRound n2 rfl, ?_⟩
    show body.wpIn (Fe (some b)) 0 P _ _ _
    refine wpIn_mono (hbody g1 _ a1 ⟨m3'.env, m3'.df⟩ n4) ?_
    rintro e2 a2 w2 ⟨g2, ea2, st2, p1, p2, p3, p4, p5, s2, hw2, hq⟩
    have p4' : Inv P g2 s2.σ w2 := p4.weak hw2.f hw2.fr
    have fr2 : Frame w w2 := (m5.trans (frame_putObj _ _ _)).trans p5
    have fin : ∀ (v : Bool) (jump : Option Code) (s3 : MS) (w3 : World), jump.isNone = v → Inv P g2 s3.σ w3 → Frame w2 w3 → K { s3 with env := put s.env o.dst (.bool v), df := s.df } → next (a.put o.dst (.bool jump.isNone)) w3 := by
      intro v jump s3 w3 hj hi3 hf3 hk
      have ha' := (hra.mono (m1.trans p1)).put hd (R.bool (P := P) (g := g2) v)
      rw [hj]
      exact h1 g2 (MS.st { s3 with env := put s.env o.dst (.bool v), df := s.df }) _ w3 (m1.trans p1) ⟨ha'.env, ha'.df⟩ hi3 (fr2.trans hf3) ⟨_, .refl _, hk⟩
    cases e2 with
    | normal =>
      obtain rfl := RExit_normal p2
      obtain ⟨d2, st2', pe2, fn2, N2, env2, ps2, as2, body2, hl2, hk⟩ := hq
      obtain ⟨tmps2, q2, q3, q4⟩ := inv_loop p4' hl2 .ready none
      exact ⟨_, _, run_endRound none q2, fin true none _ _ rfl q4 (frame_putObj _ _ _) hk⟩
    | ret =>
      cases ea2 <;> simp only [RExit] at p2
      obtain ⟨d2, st2', pe2, fn2, N2, env2, ps2, as2, body2, hl2, hk⟩ := hq
      obtain ⟨tmps2, q2, q3, q4⟩ := inv_loop p4' hl2 .done (some .ret)
      exact ⟨_, _, run_endRound (some .ret) q2, fin false (some .ret) _ _ rfl q4 (frame_putObj _ _ _) hk⟩
    | exit i =>
      cases ea2 <;> simp only [RExit] at p2
      subst p2
      obtain ⟨d2, st2', pe2, fn2, N2, env2, ps2, as2, body2, hl2, hk⟩ := hq
      rename_i i
      obtain ⟨tmps2, q2, q3, q4⟩ := inv_loop p4' hl2 .done (some (.exit i))
      exact ⟨_, _, run_endRound (some (.exit i)) q2, fin false (some (.exit i)) _ _ rfl q4 (frame_putObj _ _ _) hk⟩
    | goto i => cases ea2 <;> first | (simp only [RExit] at p2; done) | exact hq.elim
    | panic ch => cases ea2 <;> first | (simp only [RExit] at p2; done) | exact hq.elim
    | outgrown => cases ea2 <;> simp only [RExit] at p2
def rangeQ (P : Program) (N : Nat) (s : MS) (id mk b : Nat) (Q : ExitA → MS → Prop) (s' : MS) : Prop :=
  ∃ d st pe fn N' env ps as body, s'.f id = some (.loop b d st pe fn N' env ps as body) ∧ st ≠ .busy ∧
    match pe with
    | none => Q .normal { s' with env := s.env, df := .mark mk :: s.df, l := setl id (.loop b d .exhausted pe fn N' env ps as body) s'.l }
    | some .ret => Q .ret { s' with env := s.env, df := .mark mk :: s.df, l := setl id (.loop b d .exhausted pe fn N' env ps as body) s'.l }
    | some (.exit e) => Q (.exit e) { s' with env := s.env, df := .mark mk :: s.df, l := setl id (.loop b d .exhausted pe fn N' env ps as body) s'.l }
    | _ => False
theorem wpM_rangeFunc {x : Operand} {ps : Array Tmp} {asg body : Code} {s : MS} {Q : ExitA → MS → Prop} {f : FuncId} {first cap : List PV} {fnc : Func} {c : Code} {N' : Nat}
    (hx : ev s.env x = some (.fn (.func f) first cap)) (hf : P.funcs[f]? = some fnc) (hb : fnc.body = some c) (hN : fnc.ntmps = N') (hargs : first.length + 1 + cap.length ≤ N')
    (henter : ∀ args w, (callFunc f args).run P w = .ok (.enter f args) w)
    (h : ∀ fn b d, wpM P none N' c ⟨envOf 0 (first ++ [.fn (.yield b) [] []] ++ cap), (s.M + 1, .loop b d .ready none fn N s.env ps asg body) :: (s.M, .dfr d) :: s.l, s.f0, s.B, s.M + 2, []⟩
      (endQ P fnc.results.toList (fun _ s' => rangeQ P N s (s.M + 1) s.M b Q s') (fun _ _ => False))) : wpM P none N (.rangeFunc x ps asg body) s Q := by
  intro g w a hra hi
  refine wpIn_rangeFunc ?_
  intro fn _
  have hx1 := R_ev hra hx
  generalize hv : a.eval x = v at hx1
  cases hx1 with
  | fn _ _ _ va vc e1 e2 e3 e4 =>
    let b := w.heap.size + 1
    let d := w.heap.size
    let w1 := w.alloc (.deferred (some []))
    let w2 := w1.alloc (.loop { state := .ready, pending := none, fn, tmps := a.tmps, params := ps, assign := asg, body, defers := w.heap.size })
    have sM : s.σ.fr s.M := Nat.le_refl _
    have hi1 := hi.alloc (id := s.M) sM (.dfr d) (.deferred (some [])) 1 0 ⟨Gh.add_same, heap_new w _⟩
    have l1 : g.le (g.add s.M (w.heap.size, 1, 0)) := Gh.le_add (hi.fr _ sM)
    have sM1 : (s.σ.new s.M (.dfr d)).fr (s.M + 1) := ⟨Nat.le_succ _, by omega⟩
    have hnone := hi1.fr _ sM1
    have e1s : w1.heap.size = w.heap.size + 1 := by simp [w1, World.size_alloc]
    have l2 := Gh.le_add (e := (w1.heap.size, 1, 0)) hnone
    have hi2 := hi1.alloc (id := s.M + 1) sM1 (.loop b d .ready none fn N s.env ps asg body) (.loop { state := .ready, pending := none, fn, tmps := a.tmps, params := ps, assign := asg, body, defers := w.heap.size }) 1 0
      (by
        have hb : b = w1.heap.size := e1s.symm
        refine ⟨?_, a.tmps, ?_, hra.env.1, fun t p e => ((hra.env.2.1 t p e).mono l1).mono l2⟩
        · show _ = some (b, 1, 0); rw [hb]; exact Gh.add_same
        · rw [hb]; exact heap_new w1 _)
    let g2 := (g.add s.M (w.heap.size, 1, 0)).add (s.M + 1) (w1.heap.size, 1, 0)
    have l12 : g.le g2 := l1.trans l2
    refine ⟨b, [{ target := .collected d, args := #[] }], w2, { target := .fn (.func f) vc, args := va ++ #[.func (.yield b) #[] #[]] }, w2, f, va ++ #[.func (.yield b) #[] #[]] ++ vc, w2, ?_, ?_, fun _ _ => trivial, ?_, fun h => (by cases h), ?_⟩
    · exact run_enterLoop_outer fn a.tmps ps asg body
    · have e0 : Array.map a.eval #[Operand.const (.func (.yield b) #[] #[])] = #[.func (.yield b) #[] #[]] := by simp [Act.eval]
      simp only [rangeCall, resolve, hv, Deferred.ofValue, Sem.run_bind, Sem.run_pure, Result.andThen_ok, e0]
    · simp only [invoke]
      exact henter _ _
    have hi2' : Inv P g2 (MS.σ ⟨[], (s.M + 1, .loop b d .ready none fn N s.env ps asg body) :: (s.M, .dfr d) :: s.l, s.f0, s.B, s.M + 2, []⟩) w2 := by
      refine hi2.weak (fun i o hh => ?_) (fun i hh => ?_)
      · simp only [MS.σ, MS.f, lk] at hh
        simp only [Store.new, MS.σ, MS.f]
        by_cases h1 : s.M + 1 = i
        · subst h1; simpa using hh
        · rw [if_neg (fun h => h1 h.symm)]
          rw [if_neg h1] at hh
          by_cases h2 : s.M = i
          · subst h2; simpa using hh
          · rw [if_neg (fun h => h2 h.symm)]
            rw [if_neg h2] at hh
            exact hh
      · have hh : s.M + 2 ≤ i := hh
        exact ⟨⟨show s.M ≤ i by omega, by omega⟩, by omega⟩
    have hvals : RL P g2 (first ++ [.fn (.yield b) [] []] ++ cap) (va ++ #[.func (.yield b) #[] #[]] ++ vc) := by
      refine RL.append (RL.append ⟨e1, fun j hj => (e3 j hj).mono l12⟩ ⟨rfl, fun j hj => ?_⟩) ⟨e2, fun j hj => (e4 j hj).mono l12⟩
      match j, hj with
      | 0, _ => exact .fn _ [] [] #[] #[] rfl rfl (fun j hj => by simp at hj) (fun j hj => by simp at hj)
    have hcall := callsIn_body (s := ⟨[], (s.M + 1, .loop b d .ready none fn N s.env ps asg body) :: (s.M, .dfr d) :: s.l, s.f0, s.B, s.M + 2, []⟩) hf hb hN (by simp; omega) hvals hi2' (h fn b d)
    have fw : Frame w w2 := (frame_alloc w _).trans (frame_alloc w1 _)
    refine CallsIn.mono (F := Fe none) (n := 0 - 1) hcall ?_
    intro e w' hR
    cases e with
    | outgrown => exact hR.elim
    | panicked ch =>
      obtain ⟨g', u, p, s', _, _, _, _, _, k⟩ := hR
      exact k.elim
    | returned v =>
      obtain ⟨g', rs, s', k1, k2, k3, k4, d', st, pe, fn', N2, env2, ps2, as2, body2, hl, hst, hpe⟩ := hR
      obtain ⟨tmps2, q2, q3, q4⟩ := inv_loop k3 hl .exhausted pe
      refine ⟨pe, _, run_endLoop q2 hst, ?_⟩
      have hle : g.le g' := l12.trans k1
      have hio : g'.io s.M = some (d, 1, 0) := by
        refine (l2.trans k1).io _ _ ?_
        exact Gh.add_same
      have hra' : RA P g' N (MS.st { s' with env := s.env, df := .mark s.M :: s.df }) { a with defers := [{ target := .collected d, args := #[] }] ++ a.defers } :=
        ⟨(hra.mono hle).env, ⟨.mark _ _ _ _ hio, (hra.mono hle).df⟩⟩
      let o3 : AObj := .loop b d' .exhausted pe fn' N2 env2 ps2 as2 body2
      have hfr : Frame w (w'.putObj b (.loop { state := .exhausted, pending := pe, fn := fn', tmps := tmps2, params := ps2, assign := as2, body := body2, defers := d' })) := (fw.trans k2).trans (frame_putObj _ _ _)
      cases pe with
      | none => exact ⟨g', .normal, MS.st { s' with env := s.env, df := .mark s.M :: s.df, l := setl (s.M + 1) o3 s'.l }, hle, trivial, ⟨hra'.env, hra'.df⟩, q4, hfr, _, .refl _, hpe⟩
      | some c =>
        cases c <;> try exact hpe.elim
        · rename_i e
          exact wpIn_exit ⟨g', .exit e, MS.st { s' with env := s.env, df := .mark s.M :: s.df, l := setl (s.M + 1) o3 s'.l }, hle, rfl, ⟨hra'.env, hra'.df⟩, q4, hfr, _, .refl _, hpe⟩
        · exact wpIn_ret ⟨g', .ret, MS.st { s' with env := s.env, df := .mark s.M :: s.df, l := setl (s.M + 1) o3 s'.l }, hle, trivial, ⟨hra'.env, hra'.df⟩, q4, hfr, _, .refl _, hpe⟩
def retM (P : Program) (rv : List ResultVar) (l : List (Nat × AObj)) (f0 : Nat → Option AObj) (B : Nat) (ns : List Nat) (Ω : List Nat → COut → Prop) (e : ExitA) (s : MS) : Prop :=
  ∃ ids, s.df = ids.map DA.mark ∧ dfrs s ids ∧ retQ P rv l f0 B ns Ω e (s.undf ids)
theorem callF_ofM {f : FuncId} {fn : Func} {c : Code} {N : Nat} {args : List PV} {l : List (Nat × AObj)} {k : Nat} {Ω : List Nat → COut → Prop} (hf : P.funcs[f]? = some fn) (hb : fn.body = some c) (hN : fn.ntmps = N) (hargs : args.length ≤ N)
    (h : ∀ f0 B ns Q, (∀ i, hasKey i l = true → i < B) → ns.length = k → (∀ e s, retM P fn.results.toList l f0 B ns Ω e s → Q e s) → wpM P none N c ⟨envOf 0 args, l, f0, B, B, []⟩ Q) : CallF P f args l k Ω := by
  intro σ ns hinf hl hk hnd hnf g w vals hvals hi
  obtain ⟨B, hB⟩ := hinf
  have hkB : ∀ i, hasKey i l = true → i < B := by
    intro i h
    obtain ⟨o, ho⟩ := Option.isSome_iff_exists.1 h
    rcases Nat.lt_or_ge i B with h' | h'
    · exact h'
    · have := (hi.obj i o (hl i o ho)).has
      rw [hi.fr i (hB i h')] at this; cases this
  let f0 : Nat → Option AObj := fun i => if hasKey i l = true then none else σ.f i
  have hwp := h f0 B ns _ hkB hk (fun e s h => h)
  let s0 : MS := ⟨[], l, f0, B, B, []⟩
  have hI : Inv P g s0.σ w := by
    refine hi.weak (fun i o h => ?_) (fun i h => hB i h)
    simp only [s0, MS.σ, MS.f] at h
    cases hk : lk i l with
    | some x => rw [hk] at h; injection h with h; subst h; exact hl i x hk
    | none =>
      rw [hk] at h
      simp only at h
      split at h
      · simpa [f0, hasKey, hk] using h
      · cases h
  let K : List PV → MS → Prop := fun rs s => s.f0 = f0 ∧ s.B = B ∧ ∃ js out, Ω ns out ∧ out.pan = none ∧ OutOk l s js ns rs none out
  let X : PV → MS → Prop := fun v s => s.f0 = f0 ∧ s.B = B ∧ ∃ js out, Ω ns out ∧ OutOk l s js ns [] (some v) out
  have hend : ∀ e s, retM P fn.results.toList l f0 B ns Ω e s → endQ P fn.results.toList K X e s := by
    rintro e s ⟨ids, h1, h2, h3⟩
    cases e with
    | normal => obtain ⟨e1, e2, e3, js, rs, out, k1, k2, k3, k4⟩ := h3; exact ⟨ids, h1, h2, rs, k3, e1, e2, js, out, k1, k2, k4⟩
    | ret => obtain ⟨e1, e2, e3, js, rs, out, k1, k2, k3, k4⟩ := h3; exact ⟨ids, h1, h2, rs, k3, e1, e2, js, out, k1, k2, k4⟩
    | panic v => obtain ⟨e1, e2, e3, js, out, k1, k4⟩ := h3; exact ⟨ids, h1, h2, e1, e2, js, out, k1, k4⟩
    | exit i => exact h3
    | goto i => exact h3
  have hcall := callsIn_body (s := s0) hf hb hN hargs hvals hI (wpM_mono hwp hend)
  refine hcall.mono ?_
  intro e w' hR
  have packed : ∀ (rs : List PV) (ρ : Nat → Nat) (g' g'' : Gh) (v : Value), (∀ p v, p ∈ rs → R P g' p v → R P g'' (p.ren ρ) v) → R P g' (packA rs) v → R P g'' (packA (PV.renL ρ rs)) v := by
    intro rs ρ g' g'' v ht hr
    match rs, ht, hr with
    | [], _, hr => cases hr with
      | tuple _ vs hl _ => exact .tuple _ vs hl (fun j hj => by simp [PV.renL] at hj)
    | [p], ht, hr => exact ht p v (by simp) hr
    | p :: q :: r, ht, hr =>
      simp only [packA, PV.renL] at hr ⊢
      cases hr with
      | tuple _ vs hl hr' =>
        have e0 : p.ren ρ :: q.ren ρ :: PV.renL ρ r = (p :: q :: r).map (PV.ren ρ) := by simp [renL_map]
        rw [e0]
        refine .tuple _ vs (by simpa using hl) (fun j hj => ?_)
        have hj' : j < (p :: q :: r).length := by simpa using hj
        rw [List.getElem_map]
        exact ht _ _ (List.getElem_mem hj') (hr' j hj')
  cases e with
  | outgrown => exact hR.elim
  | returned v =>
    obtain ⟨g', rs, s, h1, h5, h4, hr, e1, e2, js, out, k1, k2, k4⟩ := hR
    obtain ⟨g'', m1, m2, m3, m4⟩ := leave_ok hi hB hl hnd hnf e1 e2 h4 h1 k4
    refine ⟨g'', out, m1, h5, m2, m3, k1, ?_⟩
    rw [k2, k4.rs]
    exact packed rs _ g' g'' v (fun p v hp => m4 p v (by simp [hp])) hr
  | panicked ch =>
    obtain ⟨g', u, p, s, h1, h5, h4, rfl, hr, e1, e2, js, out, k1, k4⟩ := hR
    obtain ⟨g'', m1, m2, m3, m4⟩ := leave_ok hi hB hl hnd hnf e1 e2 h4 h1 k4
    refine ⟨g'', out, m1, h5, m2, m3, k1, ?_⟩
    rw [k4.pan]
    exact ⟨u, rfl, m4 p u (by simp) hr⟩
end
end Sg
namespace Sg
open Go
set_option linter.unusedSectionVars false
variable [Glob]
def PureF (P : Program) (f : FuncId) (args rs : List PV) : Prop := CallF P f args [] 0 (fun _ o => o = { rs := rs })
section
variable {P : Program} {r : Option Nat} {N : Nat}
theorem call_p {o : Oper} {s : MS} {K : MS → Prop} {X : PV → MS → Prop} {x : Operand} {as : Array Operand} {ts : Array TypeId} {f : FuncId} {args rs : List PV}
    (hc : PureF P f args rs) (henter : ∀ args w, (callFunc f args).run P w = .ok (.enter f args) w) (ho : o.op = .call { callee := .value x, args := as, argTypes := ts }) (hd : dstOk N o.dst = true) (hx : ev s.env x = some (.fn (.func f) [] [])) (ha : evs s.env as.toList = some args)
    (hk : K { s with env := put s.env o.dst (packA rs) }) : OpM P r N o s K X := by
  refine OpM_call (first := []) (cap := []) (ps := args) (l := []) ho hd hx ha henter (by simpa [PureF] using hc) (fun i o h => by simp [lk] at h) ?_
  exact callK_pure hk
theorem callG_p {ops : Array Oper} {l : List Oper} {Q : ExitA → MS → Prop} {s : MS} {o : Oper} {b : Bool} {x : Operand} {as : Array Operand} {ts : Array TypeId} {f : FuncId} {args rs : List PV}
    (hc : b = true → PureF P f args rs) (henter : ∀ args w, (callFunc f args).run P w = .ok (.enter f args) w) (ho : o.op = .call { callee := .value x, args := as, argTypes := ts }) (hd : dstOk N o.dst = true) (hx : b = true → ev s.env x = some (.fn (.func f) [] [])) (ha : b = true → evs s.env as.toList = some args)
    (hk : kVal P r N ops l Q s o.dst (gd b (packA rs))) :
    opG (some b) (OpM P r N o s (kRun P r N ops l Q) (kPan Q)) (kVal P r N ops l Q s o.dst) :=
  callG (fun _ _ hb hk' => call_p (hc hb) henter ho hd (hx hb) (ha hb) hk') hk
theorem inv_p {o : Oper} {s : MS} {K : MS → Prop} {X : PV → MS → Prop} {x : Operand} {m : String} {as : Array Operand} {ts : Array TypeId} {f : FuncId} {rt : TypeId} {recv : PV} {args rs : List PV}
    (hc : PureF P f (recv :: args) rs) (henter : ∀ args w, (callFunc f args).run P w = .ok (.enter f args) w) (hm : ∀ (v : Value) w, (method (P.types.size + Made.depth) rt v m).run P w = .ok (f, v) w) (ho : o.op = .call { callee := .invoke x m, args := as, argTypes := ts }) (hd : dstOk N o.dst = true) (hx : ev s.env x = some (.iface rt recv)) (ha : evs s.env as.toList = some args)
    (hk : K { s with env := put s.env o.dst (packA rs) }) : OpM P r N o s K X := by
  refine OpM_invoke (l := []) ho hd hx ha hm henter hc (fun i o h => by simp [lk] at h) ?_
  exact callK_pure hk
def Tr (_ : Nat) : Prop := True
omit [Glob] in
@[go_sem low] theorem lt_yes {a b : Nat} (h : a < b) : (a < b) = True := by simp [h]
omit [Glob] in
@[go_sem low] theorem le_yes {a b : Nat} (h : a ≤ b) : (a ≤ b) = True := by simp [h]
def setE (t : Nat) (p : PV) : Env → Env
  | [] => [(t, p)]
  | (k, v) :: r => if k = t then (t, p) :: r else (k, v) :: setE t p r
omit [Glob] in
theorem Wk.of' {s : MS} {K : MS → Prop} (e : Env) (l : List (Nat × AObj)) (hk : K ⟨e, l, s.f0, s.B, s.M, s.df⟩) (h1 : subEnv s.env e) (h2 : subL s.l l) (h3 : keepB s.B s.f0 l s.l) : Wk s.st K := .of hk h1 h2 h3 rfl rfl (Nat.le_refl _) rfl
theorem wpM_loopS {c : Code} {s : MS} {Q : ExitA → MS → Prop} (I : MS → Nat → MS → Prop) (n₀ : Nat) (h₀ : Wk s.st (I s n₀))
    (round : ∀ n s', I s n s' → wpM P r N c s' (ExitA.thenM (fun s1 => Wk s1.st (fun s2 => ∃ n', n' < n ∧ I s n' s2)) Q)) : wpM P r N (.loop c) s Q := wpM_loop (I s) n₀ h₀ round
variable {o : Oper} {e : Env} {f : Nat → Option AObj} {K : Out → Prop} {an : Ann}
theorem loud_p {x : Operand} {as : Array Operand} {ts : Array TypeId} {fn : FuncId} {args rs : List PV} (hc : PureF P fn args rs) (henter : ∀ args w, (callFunc fn args).run P w = .ok (.enter fn args) w)
    (ho : o.op = .call { callee := .value x, args := as, argTypes := ts }) (hx : ev e x = some (.fn (.func fn) [] [])) (ha : evs e as.toList = some args) (hk : an.nm = []) (h : K ⟨packA rs, [], []⟩) : loudC P o e f K an := by
  refine loud_fn (first := []) (cap := []) (ps := args) (l := []) (k := 0) (by simpa [PureF] using hc) henter ho hx ha (fun i o h => by simp [lk] at h) (by rw [hk]; rfl) ?_
  rintro out rfl
  exact ⟨rfl, h⟩
theorem loudG_p {b : Bool} {x : Operand} {as : Array Operand} {ts : Array TypeId} {fn : FuncId} {args rs : List PV} (hc : b = true → PureF P fn args rs) (henter : ∀ args w, (callFunc fn args).run P w = .ok (.enter fn args) w)
    (ho : o.op = .call { callee := .value x, args := as, argTypes := ts }) (hx : b = true → ev e x = some (.fn (.func fn) [] [])) (ha : b = true → evs e as.toList = some args) (hk : an.nm = []) (h : K ⟨gd b (packA rs), [], []⟩) :
    loG (some b) (loudC P o e f K an) K :=
  loudG (fun _ hb h' => loud_p (hc hb) henter ho (hx hb) (ha hb) hk h') h
theorem loudi_p {x : Operand} {m : String} {as : Array Operand} {ts : Array TypeId} {fn : FuncId} {rt : TypeId} {recv : PV} {args rs : List PV} (hc : PureF P fn (recv :: args) rs) (henter : ∀ args w, (callFunc fn args).run P w = .ok (.enter fn args) w) (hm : ∀ (v : Value) w, (method (P.types.size + Made.depth) rt v m).run P w = .ok (fn, v) w)
    (ho : o.op = .call { callee := .invoke x m, args := as, argTypes := ts }) (hx : ev e x = some (.iface rt recv)) (ha : evs e as.toList = some args) (hk : an.nm = []) (h : K ⟨packA rs, [], []⟩) : loudC P o e f K an := by
  refine loud_inv (l := []) (k := 0) hc henter hm ho hx ha (fun i o h => by simp [lk] at h) (by rw [hk]; rfl) ?_
  rintro out rfl
  exact ⟨rfl, h⟩
theorem pureF_of {f : FuncId} {fn : Func} {c : Code} {N : Nat} {args rs : List PV} (hf : P.funcs[f]? = some fn) (hb : fn.body = some c) (hN : fn.ntmps = N) (hargs : args.length ≤ N) (hp : PV.pureL rs = true)
    (h : ∀ f0 B Q, (∀ e s, s.f0 = f0 → s.B = B → s.df = [] → keysIn B [] s.l → resA P s.σ s.env fn.results.toList = some rs → e = .ret ∨ e = .normal → Q e s) → wpM P none N c ⟨envOf 0 args, [], f0, B, B, []⟩ Q) : PureF P f args rs := by
  refine callF_of' hf hb hN hargs fun f0 B ns Q hB hns hQ => h f0 B Q fun e s h1 h2 h3 h4 h5 h6 => ?_
  obtain rfl : ns = [] := List.eq_nil_of_length_eq_zero hns
  have := hQ .ret s (ret0 [] h1 h2 h3 h5 rfl (by rw [h2]; exact h4) (pure_idsL _ hp) trivial trivial)
  rcases h6 with rfl | rfl
  · exact this
  · exact hQ .normal s (ret0n [] h1 h2 h3 h5 rfl (by rw [h2]; exact h4) (pure_idsL _ hp) trivial trivial)
end
attribute [go_sem] setE
end Sg
namespace Sg
open Go
set_option linter.unusedSectionVars false
variable [Glob]
attribute [go_sem] MS.frz subE subAL dels thOf PV.sub PV.subL false_and and_false
omit [Glob] in
@[go_sem] theorem subObj_cells (θ : TypeId → Nat → Nat → Nat → Option PV) (T : TypeId) (cs : List PV) : subObj θ (.cells T cs) = .cells T (PV.subL θ cs) := rfl
omit [Glob] in
@[go_sem] theorem subObj_map (θ : TypeId → Nat → Nat → Nat → Option PV) (es : List (PV × PV)) : subObj θ (.map es) = .map (es.map fun x => (x.1.sub θ, x.2.sub θ)) := rfl
omit [Glob] in
@[go_sem] theorem subObj_loop (θ : TypeId → Nat → Nat → Nat → Option PV) (b d : Nat) (st : LoopState) (pend : Option Code) (fn : FuncId) (N : Nat) (env : Env) (ps : Array Nat) (as body : Code) : subObj θ (.loop b d st pend fn N env ps as body) = .loop b d st pend fn N (mapE (PV.sub θ) env) ps as body := rfl
omit [Glob] in
@[go_sem] theorem subObj_dfr (θ : TypeId → Nat → Nat → Nat → Option PV) (b : Nat) : subObj θ (.dfr b) = .dfr b := rfl
omit [Glob] in
@[go_sem] theorem rep_zero (z : List PV) : rep 0 z = [] := rfl
omit [Glob] in
@[go_sem] theorem rep_one (z : List PV) : rep 1 z = z := by simp [rep]
omit [Glob] in
theorem listIte_yes {α : Type} (c : Prop) [Decidable c] (a b : List α) (h : c) : (if c then a else b) = a := if_pos h
omit [Glob] in
theorem listIte_no {α : Type} (c : Prop) [Decidable c] (a b : List α) (h : ¬ c) : (if c then a else b) = b := if_neg h
omit [Glob] in
theorem natIte_yes (c : Prop) [Decidable c] (a b : Nat) (h : c) : (if c then a else b) = a := if_pos h
omit [Glob] in
theorem natIte_no (c : Prop) [Decidable c] (a b : Nat) (h : ¬ c) : (if c then a else b) = b := if_neg h
attribute [go_sem low] listIte_yes listIte_no natIte_yes natIte_no
omit [Glob] in
@[go_sem] theorem fillA_nil (f : Nat → Option (Nat × Nat)) (cells : List PV) : fillA f cells [] = some cells := by rw [fillA]
omit [Glob] in
@[go_sem] theorem fillA_cons (f : Nat → Option (Nat × Nat)) (cells : List PV) (i : Nat) (v : PV) (rest : List (Nat × PV)) : fillA f cells ((i, v) :: rest) = (match f i with
    | none => none
    | some (off, size) => if v.cellsOf.length = size ∧ off + v.cellsOf.length ≤ cells.length ∧ v.whole = true then fillA f (splice cells off v.cellsOf) rest else none) := by
  rw [fillA]
  cases f i <;> rfl
section
variable {P : Program}
theorem callF_ofR {f : FuncId} {fn : Func} {c : Code} {N : Nat} {args rs : List PV} {l : List (Nat × AObj)} (hf : P.funcs[f]? = some fn) (hb : fn.body = some c) (hN : fn.ntmps = N) (hargs : args.length ≤ N) (hp : PV.pureL rs = true)
    (h : ∀ f0 B Q, (∀ i o, lk i l = some o → f0 i = some o ∧ i < B) → (∀ e s, s.f0 = f0 → s.B = B → s.df = [] → keysIn B [] s.l → resA P s.σ s.env fn.results.toList = some rs → e = .ret ∨ e = .normal → Q e s) → wpM P none N c ⟨envOf 0 args, [], f0, B, B, []⟩ Q) :
    CallF P f args l 0 (fun _ o => o = { rs := rs }) := by
  intro σ ns hinf hl hk hnd hnf g w vals hvals hi
  obtain ⟨B, hB⟩ := hinf
  obtain rfl : ns = [] := List.eq_nil_of_length_eq_zero hk
  have hkB : ∀ i o, σ.f i = some o → i < B := by
    intro i o h
    rcases Nat.lt_or_ge i B with h' | h'
    · exact h'
    · have := (hi.obj i o h).has
      rw [hi.fr i (hB i h')] at this; cases this
  have hwp := h σ.f B (fun e s => (e = .ret ∨ e = .normal) ∧ s.f0 = σ.f ∧ s.B = B ∧ s.df = [] ∧ keysIn B [] s.l ∧ resA P s.σ s.env fn.results.toList = some rs) (fun i o ho => ⟨hl i o ho, hkB i o (hl i o ho)⟩) (fun e s a b c d e f => ⟨f, a, b, c, d, e⟩)
  let s0 : MS := ⟨[], [], σ.f, B, B, []⟩
  have hI : Inv P g s0.σ w := by
    refine hi.weak (fun i o h => ?_) (fun i h => hB i h)
    simp only [s0, MS.σ, MS.f, lk] at h
    split at h
    · exact h
    · cases h
  have hcall := callsIn_body (s := s0) (K := fun rs' s => rs' = rs ∧ s.f0 = σ.f ∧ s.B = B ∧ keysIn B [] s.l) (X := fun _ _ => False) hf hb hN hargs hvals hI (wpM_mono hwp (by
    rintro e s ⟨he, h1, h2, h3, h4, h5⟩
    have hu : s.undf [] = s := by cases s; simp only at h3; subst h3; rfl
    rcases he with rfl | rfl
    · exact ⟨[], h3, trivial, rs, by rw [hu]; exact h5, rfl, by rw [hu]; exact h1, by rw [hu]; exact h2, by rw [hu]; exact h4⟩
    · exact ⟨[], h3, trivial, rs, by rw [hu]; exact h5, rfl, by rw [hu]; exact h1, by rw [hu]; exact h2, by rw [hu]; exact h4⟩))
  refine hcall.mono ?_
  intro e w' hR
  cases e with
  | outgrown => exact hR.elim
  | panicked ch => obtain ⟨_, _, _, _, _, _, _, _, _, k⟩ := hR; exact k.elim
  | returned v =>
    obtain ⟨g', rs', s, h1, h5, h4, hr, rfl, e1, e2, e3⟩ := hR
    let g2 : Gh := { io := g.io, H := g'.H }
    have hle : g.le g2 := ⟨fun i e hi' => hi', h1.H⟩
    have hfold : ∀ i o, σ.f i = some o → s.f i = some o := by
      intro i o ho
      have hib := hkB i o ho
      have hn : lk i s.l = none := by
        cases hl' : lk i s.l with
        | none => rfl
        | some o' =>
          rcases keysIn_lk e3 i o' hl' with h | h
          · omega
          · simp [hasKey, lk] at h
      simp only [MS.f, hn, e2, e1, if_pos hib]; exact ho
    have hg'io : ∀ i o, σ.f i = some o → g'.io i = g.io i := by
      intro i o ho
      have := (hi.obj i o ho).has
      obtain ⟨e, he⟩ := Option.isSome_iff_exists.1 this
      rw [he]; exact h1.io i e he
    refine ⟨g2, { rs := rs' }, hle, h5, ?_, fun x hx => by simp at hx, rfl, ?_⟩
    · have hσ : Inv P g2 σ w' := by
        refine ⟨h4.hH, fun i o ho => ?_, fun i j o o' e e' a b c d => ?_, fun i o e a b => ?_, fun i hi' => ?_, hi.gl.mono hle⟩
        · refine (h4.obj i o (hfold i o ho)).turn (fun _ _ h => h) (hg'io i o ho).symm ?_
          refine AObj.ids_mono (fun j hj => ?_) (hi.obj i o ho).named
          obtain ⟨e, he⟩ := Option.isSome_iff_exists.1 (show (g.io j).isSome = true from hj)
          show g.io j = g'.io j
          rw [he]; exact (h1.io j e he).symm
        · rw [← hg'io i o a] at c
          rw [← hg'io j o' b] at d
          exact h4.inj i j o o' e e' (hfold i o a) (hfold j o' b) c d
        · rw [← hg'io i o a] at b
          exact h4.dis i o e (hfold i o a) b
        · exact hi.fr i hi'
      exact hσ.weak (fun i o h => by simpa [Store.after, lk] using h) (fun i h => h.1)
    · exact hr.turn (fun _ _ h => h) (pure_ids _ (packA_pure hp))
omit [Glob] in
theorem hidden_f {s : MS} {l : List (Nat × AObj)} (h : ∀ i o, lk i l = some o → s.f0 i = some o ∧ i < s.B) (hk : keysIn s.B [] s.l) : ∀ i o, lk i l = some o → s.f i = some o := by
  intro i o ho
  obtain ⟨h1, h2⟩ := h i o ho
  have hn : lk i s.l = none := by
    cases hl' : lk i s.l with
    | none => rfl
    | some o' =>
      rcases keysIn_lk hk i o' hl' with h | h
      · omega
      · simp [hasKey, lk] at h
  simp only [MS.f, hn, if_pos h2]; exact h1
variable {r : Option Nat} {N : Nat}
theorem call_r {o : Oper} {s : MS} {K : MS → Prop} {X : PV → MS → Prop} {x : Operand} {as : Array Operand} {ts : Array TypeId} {f : FuncId} {args rs : List PV} {l : List (Nat × AObj)}
    (hc : CallF P f args l 0 (fun _ o => o = { rs := rs })) (hl : ∀ i o, lk i l = some o → s.f i = some o) (henter : ∀ args w, (callFunc f args).run P w = .ok (.enter f args) w) (ho : o.op = .call { callee := .value x, args := as, argTypes := ts }) (hd : dstOk N o.dst = true) (hx : ev s.env x = some (.fn (.func f) [] [])) (ha : evs s.env as.toList = some args)
    (hk : K { s with env := put s.env o.dst (packA rs) }) : OpM P r N o s K X := by
  refine OpM_call (first := []) (cap := []) (ps := args) (l := l) (k := 0) ho hd hx ha henter (by simpa using hc) hl ?_
  exact callK_pure hk
theorem call_rs {o : Oper} {s : MS} {K : MS → Prop} {X : PV → MS → Prop} {x : Operand} {as : Array Operand} {ts : Array TypeId} {f : FuncId} {args rs : List PV} {l : List (Nat × AObj)}
    (hc : CallF P f args l 0 (fun _ o => o = { rs := rs })) (hl : subF s l) (henter : ∀ args w, (callFunc f args).run P w = .ok (.enter f args) w) (ho : o.op = .call { callee := .value x, args := as, argTypes := ts }) (hd : dstOk N o.dst = true) (hx : ev s.env x = some (.fn (.func f) [] [])) (ha : evs s.env as.toList = some args)
    (hk : K { s with env := put s.env o.dst (packA rs) }) : OpM P r N o s K X := call_r hc (subF_spec hl) henter ho hd hx ha hk
theorem callG_r {ops : Array Oper} {lo : List Oper} {Q : ExitA → MS → Prop} {s : MS} {o : Oper} {b : Bool} {x : Operand} {as : Array Operand} {ts : Array TypeId} {f : FuncId} {args rs : List PV} {l : List (Nat × AObj)}
    (hc : b = true → CallF P f args l 0 (fun _ o => o = { rs := rs })) (hl : ∀ i o, lk i l = some o → s.f i = some o) (henter : ∀ args w, (callFunc f args).run P w = .ok (.enter f args) w) (ho : o.op = .call { callee := .value x, args := as, argTypes := ts }) (hd : dstOk N o.dst = true) (hx : b = true → ev s.env x = some (.fn (.func f) [] [])) (ha : b = true → evs s.env as.toList = some args)
    (hk : kVal P r N ops lo Q s o.dst (gd b (packA rs))) :
    opG (some b) (OpM P r N o s (kRun P r N ops lo Q) (kPan Q)) (kVal P r N ops lo Q s o.dst) :=
  callG (fun _ _ hb hk' => call_r (hc hb) hl henter ho hd (hx hb) (ha hb) hk') hk
variable {o : Oper} {e : Env} {f : Nat → Option AObj} {K : Out → Prop} {an : Ann}
theorem loud_r {x : Operand} {as : Array Operand} {ts : Array TypeId} {fn : FuncId} {args rs : List PV} {l : List (Nat × AObj)} (hc : CallF P fn args l 0 (fun _ o => o = { rs := rs })) (hl : ∀ i o, lk i l = some o → f i = some o) (henter : ∀ args w, (callFunc fn args).run P w = .ok (.enter fn args) w)
    (ho : o.op = .call { callee := .value x, args := as, argTypes := ts }) (hx : ev e x = some (.fn (.func fn) [] [])) (ha : evs e as.toList = some args) (hk : an.nm = []) (h : K ⟨packA rs, [], []⟩) : loudC P o e f K an := by
  refine loud_fn (first := []) (cap := []) (ps := args) (l := l) (k := 0) (by simpa using hc) henter ho hx ha hl (by rw [hk]; rfl) ?_
  rintro out rfl
  exact ⟨rfl, h⟩
theorem loudG_r {b : Bool} {x : Operand} {as : Array Operand} {ts : Array TypeId} {fn : FuncId} {args rs : List PV} {l : List (Nat × AObj)} (hc : b = true → CallF P fn args l 0 (fun _ o => o = { rs := rs })) (hl : ∀ i o, lk i l = some o → f i = some o) (henter : ∀ args w, (callFunc fn args).run P w = .ok (.enter fn args) w)
    (ho : o.op = .call { callee := .value x, args := as, argTypes := ts }) (hx : b = true → ev e x = some (.fn (.func fn) [] [])) (ha : b = true → evs e as.toList = some args) (hk : an.nm = []) (h : K ⟨gd b (packA rs), [], []⟩) :
    loG (some b) (loudC P o e f K an) K :=
  loudG (fun _ hb h' => loud_r (hc hb) hl henter ho (hx hb) (ha hb) hk h') h
def subG (f : Nat → Option AObj) : List (Nat × AObj) → Prop
  | [] => True
  | (k, o) :: r => f k = some o ∧ subG f r
attribute [go_sem] subG
omit [Glob] in
theorem subG_spec {f : Nat → Option AObj} : {l : List (Nat × AObj)} → subG f l → ∀ i o, lk i l = some o → f i = some o
  | [], _, i, o, h => by simp [lk] at h
  | (k, v) :: r, ⟨h1, h2⟩, i, o, h => by
    simp only [lk] at h
    split at h
    · rename_i e; subst e; injection h with h; subst h; exact h1
    · exact subG_spec h2 i o h
theorem CallF.noFoot {f : FuncId} {args : List PV} {l : List (Nat × AObj)} {k : Nat} {Ω : List Nat → COut → Prop} (h : CallF P f args [] k Ω) : CallF P f args l k Ω :=
  fun σ ns a _ c d e => h σ ns a (fun i o h => by simp [lk] at h) c d e
end
end Sg
namespace Sg
open Go
set_option linter.unusedSectionVars false
variable [Glob]
mutual
def PV.le : PV → PV → Prop
  | .emp, .rows _ [] => True
  | .agg a, .agg b => PV.leL a b
  | p, q => p = q
def PV.leL : List PV → List PV → Prop
  | [], [] => True
  | x :: a, y :: b => x.le y ∧ PV.leL a b
  | _, _ => False
end
mutual
theorem le_refl : (p : PV) → p.le p
  | .agg a => by simp only [PV.le]; exact leL_refl a
  | .emp => by simp [PV.le]
  | .bool _ | .int _ _ | .str _ | .nilp | .ptr _ _ | .vptr _ | .kptr _ _ | .rows _ _ | .sl _ _ _ _ | .map _ | .nilm | .nilfn | .fn _ _ _ | .nilif | .iface _ _ | .tuple _ | .dead => by simp [PV.le]
theorem leL_refl : (l : List PV) → PV.leL l l
  | [] => trivial
  | x :: l => ⟨le_refl x, leL_refl l⟩
end
@[go_sem] theorem le_same (p : PV) : p.le p = True := by simp [le_refl]
@[go_sem] theorem leL_same (l : List PV) : PV.leL l l = True := by simp [leL_refl]
omit [Glob] in
@[go_sem] theorem le_emp (e : TypeId) : PV.le .emp (.rows e []) = True := by simp [PV.le]
omit [Glob] in
@[go_sem] theorem le_agg (a b : List PV) : PV.le (.agg a) (.agg b) = PV.leL a b := by simp [PV.le]
omit [Glob] in
@[go_sem] theorem leL_cons (x y : PV) (a b : List PV) : PV.leL (x :: a) (y :: b) = (x.le y ∧ PV.leL a b) := by simp [PV.leL]
omit [Glob] in
theorem leL_len : {a b : List PV} → PV.leL a b → a.length = b.length
  | [], [], _ => rfl
  | x :: a, y :: b, h => by simp only [PV.leL] at h; simp [leL_len h.2]
  | [], _ :: _, h => by simp [PV.leL] at h
  | _ :: _, [], h => by simp [PV.leL] at h
omit [Glob] in
theorem leL_get : {a b : List PV} → (h : PV.leL a b) → ∀ j (h1 : j < a.length) (h2 : j < b.length), (a[j]).le b[j]
  | x :: a, y :: b, h, 0, _, _ => by simp only [PV.leL] at h; exact h.1
  | x :: a, y :: b, h, j + 1, h1, h2 => by
    simp only [PV.leL] at h
    exact leL_get h.2 j (by simpa using h1) (by simpa using h2)
  | [], [], _, _, h1, _ => by simp at h1
  | [], _ :: _, h, _, _, _ => by simp [PV.leL] at h
  | _ :: _, [], h, _, _, _ => by simp [PV.leL] at h
omit [Glob] in
theorem le_inv {p q : PV} (h : p.le q) : p = q ∨ (p = .emp ∧ ∃ e, q = .rows e []) ∨ ∃ a b, p = .agg a ∧ q = .agg b ∧ PV.leL a b := by
  cases p with
  | emp =>
    cases q with
    | rows e r =>
      cases r with
      | nil => exact .inr (.inl ⟨rfl, e, rfl⟩)
      | cons x y => simp [PV.le] at h
    | _ => simp [PV.le] at h <;> simp
  | agg a =>
    cases q with
    | agg b => simp only [PV.le] at h; exact .inr (.inr ⟨a, b, rfl, rfl, h⟩)
    | _ => simp [PV.le] at h
  | _ => exact .inl (by simpa [PV.le] using h)
omit [Glob] in
theorem R.le {P : Program} {g : Gh} {p : PV} {v : Value} (h : R P g p v) : ∀ q, p.le q → R P g q v := by
  induction h with
  | emp a =>
    intro q hq
    rcases le_inv hq with rfl | ⟨_, e, rfl⟩ | ⟨a, b, h, _⟩
    · exact .emp a
    · exact .rows0 _ a 0
    · cases h
  | agg cs vs hl h ih =>
    intro q hq
    rcases le_inv hq with rfl | ⟨h, _⟩ | ⟨a, b, e1, rfl, hq⟩
    · exact .agg cs vs hl h
    · cases h
    · injection e1 with e1
      subst e1
      have hlen := leL_len hq
      exact .agg _ vs (by rw [hl, hlen]) (fun j hj => ih j (by omega) _ (leL_get hq j (by omega) hj))
  | bool b => intro q hq; rcases le_inv hq with rfl | ⟨h, _⟩ | ⟨_, _, h, _⟩ <;> first | exact .bool b | cases h
  | int k n => intro q hq; rcases le_inv hq with rfl | ⟨h, _⟩ | ⟨_, _, h, _⟩ <;> first | exact .int k n | cases h
  | str k => intro q hq; rcases le_inv hq with rfl | ⟨h, _⟩ | ⟨_, _, h, _⟩ <;> first | exact .str k | cases h
  | nilp => intro q hq; rcases le_inv hq with rfl | ⟨h, _⟩ | ⟨_, _, h, _⟩ <;> first | exact .nilp | cases h
  | ptr id off b N T h => intro q hq; rcases le_inv hq with rfl | ⟨h, _⟩ | ⟨_, _, h, _⟩ <;> first | exact .ptr id off b N T h | cases h
  | vptr cs b off arr T fr h hn hp hr ih => intro q hq; rcases le_inv hq with rfl | ⟨h, _⟩ | ⟨_, _, h, _⟩ <;> first | exact .vptr cs b off arr T fr h hn hp hr | cases h
  | kptr k ko => intro q hq; rcases le_inv hq with rfl | ⟨h, _⟩ | ⟨_, _, h, _⟩ <;> first | exact .kptr k ko | cases h
  | rows0 e a cap => intro q hq; rcases le_inv hq with rfl | ⟨h, _⟩ | ⟨_, _, h, _⟩ <;> first | exact .rows0 e a cap | cases h
  | rows e r b off cap arr T fr h hes hc hn hl hp hce hr ih => intro q hq; rcases le_inv hq with rfl | ⟨h, _⟩ | ⟨_, _, h, _⟩ <;> first | exact .rows e r b off cap arr T fr h hes hc hn hl hp hce hr | cases h
  | sl e id off len cap b N T h hlc hc => intro q hq; rcases le_inv hq with rfl | ⟨h, _⟩ | ⟨_, _, h, _⟩ <;> first | exact .sl e id off len cap b N T h hlc hc | cases h
  | sl0 e id off a b T h => intro q hq; rcases le_inv hq with rfl | ⟨h, _⟩ | ⟨_, _, h, _⟩ <;> first | exact .sl0 e id off a b T h | cases h
  | map id b N T h => intro q hq; rcases le_inv hq with rfl | ⟨h, _⟩ | ⟨_, _, h, _⟩ <;> first | exact .map id b N T h | cases h
  | nilm => intro q hq; rcases le_inv hq with rfl | ⟨h, _⟩ | ⟨_, _, h, _⟩ <;> first | exact .nilm | cases h
  | nilfn => intro q hq; rcases le_inv hq with rfl | ⟨h, _⟩ | ⟨_, _, h, _⟩ <;> first | exact .nilfn | cases h
  | fn f a c va vc ha hc h1 h2 => intro q hq; rcases le_inv hq with rfl | ⟨h, _⟩ | ⟨_, _, h, _⟩ <;> first | exact .fn f a c va vc ha hc h1 h2 | cases h
  | nilif => intro q hq; rcases le_inv hq with rfl | ⟨h, _⟩ | ⟨_, _, h, _⟩ <;> first | exact .nilif | cases h
  | iface t v u h => intro q hq; rcases le_inv hq with rfl | ⟨h, _⟩ | ⟨_, _, h, _⟩ <;> first | exact .iface t v u h | cases h
  | tuple cs vs hl h => intro q hq; rcases le_inv hq with rfl | ⟨h, _⟩ | ⟨_, _, h, _⟩ <;> first | exact .tuple cs vs hl h | cases h
  | dead v => intro q hq; rcases le_inv hq with rfl | ⟨h, _⟩ | ⟨_, _, h, _⟩ <;> first | exact .dead v | cases h
omit [Glob] in
theorem le_cell {p q : PV} (h : p.le q) (hc : p.cell = true) : q.cell = true := by
  rcases le_inv h with rfl | ⟨rfl, e, rfl⟩ | ⟨a, b, rfl, rfl, _⟩
  · exact hc
  · rfl
  · simp [PV.cell] at hc
def leO : AObj → AObj → Prop
  | .cells T a, .cells T' b => T = T' ∧ PV.leL a b
  | o, o' => o = o'
omit [Glob] in
@[go_sem] theorem leO_cells (T T' : TypeId) (a b : List PV) : leO (.cells T a) (.cells T' b) = (T = T' ∧ PV.leL a b) := rfl
theorem leO_refl (o : AObj) : leO o o := by
  cases o <;> simp [leO, leL_refl]
@[go_sem] theorem leO_same (o : AObj) : leO o o = True := by simp [leO_refl]
def leEnv (e : Env) : Env → Prop
  | [] => True
  | (t, q) :: r => (match get e t with | some p => p.le q | none => False) ∧ leEnv e r
def leObjs (l : List (Nat × AObj)) : List (Nat × AObj) → Prop
  | [] => True
  | (i, o') :: r => (match lk i l with | some o => leO o o' | none => False) ∧ leObjs l r
attribute [go_sem] leEnv leObjs
omit [Glob] in
theorem leEnv_get {e : Env} : {e' : Env} → leEnv e e' → ∀ t q, get e' t = some q → ∃ p, get e t = some p ∧ p.le q
  | [], _, t, q, h => by simp [get] at h
  | (k, v) :: r, ⟨h1, h2⟩, t, q, h => by
    simp only [get] at h
    split at h
    · rename_i e1; subst e1; injection h with h; subst h
      cases hg : get e k with
      | none => rw [hg] at h1; exact h1.elim
      | some p => rw [hg] at h1; exact ⟨p, rfl, h1⟩
    · exact leEnv_get h2 t q h
omit [Glob] in
theorem leObjs_lk {l : List (Nat × AObj)} : {l' : List (Nat × AObj)} → leObjs l l' → ∀ i o', lk i l' = some o' → ∃ o, lk i l = some o ∧ leO o o'
  | [], _, i, o, h => by simp [lk] at h
  | (k, v) :: r, ⟨h1, h2⟩, i, o, h => by
    simp only [lk] at h
    split at h
    · rename_i e1; subst e1; injection h with h; subst h
      cases hg : lk k l with
      | none => rw [hg] at h1; exact h1.elim
      | some p => rw [hg] at h1; exact ⟨p, rfl, h1⟩
    · exact leObjs_lk h2 i o h
section
variable {P : Program} {r : Option Nat} {N : Nat}
theorem wpM_le {c : Code} {s : MS} {Q : ExitA → MS → Prop} (e : Env) (l : List (Nat × AObj)) (h1 : leEnv s.env e) (h2 : leObjs s.l l) (h3 : keepB s.B s.f0 l s.l) (h : wpM P r N c { s with env := e, l := l } Q) : wpM P r N c s Q := by
  refine wpA_turn (st' := MS.st { s with env := e, l := l }) (fun g w a ha hi => ⟨g, .refl g, ⟨⟨ha.env.1, fun t q hq => ?_, ha.env.2.2⟩, ha.df⟩, ?_⟩) h
  · obtain ⟨p, hp, hl⟩ := leEnv_get h1 t q hq
    exact (ha.env.2.1 t p hp).le q hl
  · have hf : ∀ i o, (MS.f { s with env := e, l := l } i) = some o → ∃ o0, s.f i = some o0 ∧ leO o0 o := by
      intro i o h
      simp only [MS.f] at h ⊢
      cases hl : lk i l with
      | some o' =>
        rw [hl] at h; injection h with h; subst h
        obtain ⟨o0, h0, hle⟩ := leObjs_lk h2 i _ hl
        exact ⟨o0, by rw [h0], hle⟩
      | none =>
        rw [hl] at h
        simp only at h
        cases hs : lk i s.l with
        | some o2 =>
          rcases keepB_lk h3 i o2 hs hl with hB | hB
          · rw [if_neg (by omega)] at h; cases h
          · rw [hB] at h; split at h <;> cases h
        | none => exact ⟨o, h, leO_refl o⟩
    refine ⟨hi.hH, fun i o h => ?_, fun i j o o' e1 e2 a b => ?_, fun i o e1 a => ?_, hi.fr, hi.gl⟩
    · obtain ⟨o0, h0, hle⟩ := hf i o h
      have hob := hi.obj i o0 h0
      unfold leO at hle
      split at hle
      · rename_i T a T' b
        obtain ⟨rfl, hle⟩ := hle
        obtain ⟨bk, arr, k1, k2, k3, k4⟩ := hob
        have hlen := leL_len hle
        exact ⟨bk, arr, k1, k2, by omega, fun j hj => ⟨(k4 j (by omega)).1.le _ (leL_get hle j (by omega) hj), le_cell (leL_get hle j (by omega) hj) (k4 j (by omega)).2⟩⟩
      · subst hle; exact hob
    · obtain ⟨o1, h1, _⟩ := hf _ _ a
      obtain ⟨o2, h2, _⟩ := hf _ _ b
      exact hi.inj i j o1 o2 e1 e2 h1 h2
    · obtain ⟨o1, h1, _⟩ := hf _ _ a
      exact hi.dis i o1 e1 h1
end
end Sg
namespace Sg
open Go
set_option linter.unusedSectionVars false
variable [Glob]
omit [Glob] in
theorem method_run {P : Program} {t : TypeId} {info : TypeInfo} {d : TypeDesc} {name : String} {mm : Method} {f : FuncId} (hi : P.info? t = some info) (hu : P.underlying t = some d) (hd : ∀ e, d ≠ .pointer e)
    (hf : info.methods.find? (·.name == name) = some mm) (hp : mm.path = #[]) (hfn : mm.func = some (f, false)) (v : Value) (w : World) : (method (P.types.size + Made.depth) t v name).run P w = .ok (f, v) w := by
  have e : P.types.size + Made.depth = (P.types.size + 99) + 1 := rfl
  have hti : (typeInfo t).run P w = .ok info w := by
    unfold typeInfo
    have hpr : (program : Sem Program).run P w = .ok P w := rfl
    simp only [Sem.run_bind, hpr, Result.andThen_ok, hi]
    rfl
  rw [e, method]
  simp only [Sem.run_bind, hti, Result.andThen_ok, hf, hp, follow, Sem.run_pure, hfn, receiverAt, run_underlying hu]
  cases d <;> first | exact absurd rfl (hd _) | simp [Place.get, Sem.run_bind, Sem.run_pure, Result.andThen_ok]
end Sg
namespace Sg
open Go
set_option linter.unusedSectionVars false
variable [Glob]
section
variable {P : Program} {r : Option Nat} {N : Nat}
def inlL (f : Nat → Option AObj) (M : Nat) : List (Nat × AObj) → Prop
  | [] => True
  | (k, o) :: rest => (f k = some o ∧ k < M) ∧ inlL f M rest
def apartL (l2 : List (Nat × AObj)) : List (Nat × AObj) → Prop
  | [] => True
  | (k, _) :: rest => lk k l2 = none ∧ apartL l2 rest
attribute [go_sem] inlL apartL
omit [Glob] in
theorem inlL_lk {f : Nat → Option AObj} {M : Nat} : {l : List (Nat × AObj)} → inlL f M l → ∀ i o, lk i l = some o → f i = some o ∧ i < M
  | [], _, i, o, h => by simp [lk] at h
  | (k, v) :: rest, ⟨h1, h2⟩, i, o, h => by
    simp only [lk] at h
    split at h
    · rename_i e; subst e; injection h with h; subst h; exact h1
    · exact inlL_lk h2 i o h
omit [Glob] in
theorem apartL_lk {l2 : List (Nat × AObj)} : {l : List (Nat × AObj)} → apartL l2 l → ∀ i o, lk i l = some o → lk i l2 = none
  | [], _, i, o, h => by simp [lk] at h
  | (k, v) :: rest, ⟨h1, h2⟩, i, o, h => by
    simp only [lk] at h
    split at h
    · rename_i e; subst e; exact h1
    · exact apartL_lk h2 i o h
theorem wpM_frameC {c : Code} {s : MS} {Q : ExitA → MS → Prop} (l1 l2 : List (Nat × AObj)) (h1 : inlL s.f s.M l1) (h2 : inlL s.f s.M l2) (hd : apartL l2 l1) (hk : keepB s.B s.f0 (l1 ++ l2) s.l) (hBM : s.B ≤ s.M)
    (h : ∀ f0, wpM P r N c ⟨s.env, l1, cutL l1 f0, s.M, s.M, s.df⟩ (fun e s' => s'.f0 = cutL l1 f0 ∧ s'.B = s.M ∧ keysIn s.M l1 s'.l ∧ keepB s.B s.f0 s'.l l1 ∧ Q e ⟨s'.env, s'.l ++ l2, s.f0, s.B, s'.M, s'.df⟩)) : wpM P r N c s Q := by
  let f0 : Nat → Option AObj := cutL l1 s.f
  have hw : Weak s.st (MS.st ⟨s.env, l1, f0, s.M, s.M, s.df⟩) := by
    refine ⟨fun t p e => .inr e, fun i o hh => ?_, fun i hh => hh, rfl⟩
    simp only [MS.st, MS.σ] at hh ⊢
    have hh : (match lk i l1 with | some o => some o | none => if i < s.M then f0 i else none) = some o := hh
    cases hl : lk i l1 with
    | some o' => rw [hl] at hh; injection hh with hh; subst hh; exact (inlL_lk h1 i _ hl).1
    | none =>
      rw [hl] at hh
      simp only at hh
      split at hh
      · simpa [f0, cutL, hl] using hh
      · cases hh
  refine wpA_weak hw (wpA_mono (h s.f) ?_)
  rintro e st ⟨s', w', e1, e2, e3, e4, hq⟩
  refine ⟨_, w'.trans ?_, hq⟩
  refine ⟨fun t p e => .inr e, fun i o hh => ?_, fun i hh => hh, rfl⟩
  have hh : (match lk i (s'.l ++ l2) with | some o => some o | none => if i < s.B then s.f0 i else none) = some o := hh
  show (match lk i s'.l with | some o => some o | none => if i < s'.B then s'.f0 i else none) = some o
  rw [lk_append] at hh
  cases hl : lk i s'.l with
  | some o' => rw [hl] at hh; exact hh
  | none =>
    rw [hl] at hh
    simp only at hh ⊢
    rw [e1, e2]
    cases hl2 : lk i l2 with
    | some o2 =>
      rw [hl2] at hh
      simp only at hh
      injection hh with hh
      subst hh
      obtain ⟨k1, k2⟩ := inlL_lk h2 i _ hl2
      rw [if_pos k2]
      have hno : lk i l1 = none := by
        cases hl1 : lk i l1 with
        | none => rfl
        | some o1 => have := apartL_lk hd i o1 hl1; rw [hl2] at this; cases this
      simp [f0, cutL, hno, k1]
    | none =>
      rw [hl2] at hh
      simp only at hh
      split at hh
      · rename_i hlt
        by_cases hiM : i < s.M
        · rw [if_pos hiM]
          have hno : lk i l1 = none ∨ ∃ o1, lk i l1 = some o1 := by
            cases lk i l1 with
            | none => exact .inl rfl
            | some o1 => exact .inr ⟨o1, rfl⟩
          rcases hno with hno | ⟨o1, ho1⟩
          · simp only [f0, cutL, hno, Option.isSome_none, Bool.false_eq_true, if_false]
            have : lk i s.l = none := by
              cases hs : lk i s.l with
              | none => rfl
              | some o3 =>
                rcases keepB_lk hk i o3 hs (by rw [lk_append, hno, hl2]) with hB | hB
                · omega
                · rw [hB] at hh; cases hh
            simp only [MS.f, this, if_pos hlt]; exact hh
          · rcases keepB_lk e4 i o1 ho1 hl with hB | hB
            · omega
            · rw [hB] at hh; cases hh
        · omega
      · cases hh
theorem wpM_frame {c : Code} {s : MS} {Q : ExitA → MS → Prop} (l1 l2 : List (Nat × AObj)) (h1 : inlL s.f s.M l1) (h2 : inlL s.f s.M l2) (hd : apartL l2 l1) (hk : keepB s.B s.f0 (l1 ++ l2) s.l) (hBM : s.B ≤ s.M)
    (h : ∀ f0, wpM P r N c ⟨s.env, l1, f0, s.M, s.M, s.df⟩ (fun e s' => s'.f0 = f0 ∧ s'.B = s.M ∧ keysIn s.M l1 s'.l ∧ keepB s.B s.f0 s'.l l1 ∧ Q e ⟨s'.env, s'.l ++ l2, s.f0, s.B, s'.M, s'.df⟩)) : wpM P r N c s Q :=
  wpM_frameC l1 l2 h1 h2 hd hk hBM fun f0 => h _
theorem wpM_wk {c : Code} {s : MS} {Q : ExitA → MS → Prop} (h : wpM P r N c s (fun e s' => Wk s'.st (Q e))) : wpM P r N c s Q := by
  refine wpA_mono h ?_
  rintro e st ⟨s', w, s2, w2, k⟩
  exact ⟨s2, w.trans w2, k⟩
theorem wpM_code {c c' : Code} (e : c' = c) {s : MS} {Q : ExitA → MS → Prop} (h : wpM P r N c' s Q) : wpM P r N c s Q := e ▸ h
theorem OpM_roundK {o : Oper} {s : MS} {K : MS → Prop} {X : PV → MS → Prop} {x : Operand} {as : Array Operand} {ts : Array TypeId} {b : Nat} {vs : List PV} (id : Nat) {d : Nat} {pe : Option Code} {fn : FuncId} {N' : Nat} {env : Env} {ps : Array Nat} {asg body : Code}
    (ho : o.op = .call { callee := .value x, args := as, argTypes := ts }) (hd : dstOk N o.dst = true) (hx : ev s.env x = some (.fn (.yield b) [] [])) (ha : evs s.env as.toList = some vs)
    (hl : s.f id = some (.loop b d .ready pe fn N' env ps asg body)) (hps : ps.size = vs.length) (hpN : ps.toList.all (fun t => decide (t < N')) = true)
    (h : ∀ K' : MS → Prop, (∀ s', K s' → K' s') → wpM P (some b) N' asg ⟨putAll env ps.toList vs, s.l, s.f0, s.B, s.M, []⟩ fun e s1 => e = .normal ∧ ∃ d1 pe1 fn1 N1 env1 ps1 as1 body1, s1.f id = some (.loop b d1 .ready pe1 fn1 N1 env1 ps1 as1 body1) ∧
      wpM P (some b) N' body { s1 with l := setl id (.loop b d1 .busy pe1 fn1 N1 env1 ps1 as1 body1) s1.l } (roundQ id b fun v s2 => K' { s2 with env := put s.env o.dst (.bool v), df := s.df })) : OpM P r N o s K X :=
  OpM_round id ho hd hx ha hl hps hpN (h K fun _ h => h)
theorem OpM_inlineK {o : Oper} {s : MS} {K : MS → Prop} {X : PV → MS → Prop} {x : Operand} {as : Array Operand} {ts : Array TypeId} {f : FuncId} {first cap ps : List PV} {fn : Func} {c : Code} {N' : Nat}
    (hf : P.funcs[f]? = some fn) (hb : fn.body = some c) (hN : fn.ntmps = N') (hargs : (first ++ ps ++ cap).length ≤ N')
    (henter : ∀ args w, (callFunc f args).run P w = .ok (.enter f args) w) (ho : o.op = .call { callee := .value x, args := as, argTypes := ts }) (hd : dstOk N o.dst = true) (hx : ev s.env x = some (.fn (.func f) first cap)) (ha : evs s.env as.toList = some ps)
    (h : ∀ (K' : MS → Prop), (∀ s', K s' → K' s') → wpM P none N' c ⟨envOf 0 (first ++ ps ++ cap), s.l, s.f0, s.B, s.M, []⟩ (endQ P fn.results.toList (fun rs s' => K' { s' with env := put s.env o.dst (packA rs), df := s.df }) (fun v s' => X v { s' with env := s.env, df := s.df }))) : OpM P r N o s K X :=
  OpM_inline hf hb hN hargs henter ho hd hx ha (h K fun _ h => h)
theorem call_cap {o : Oper} {s : MS} {K : MS → Prop} {X : PV → MS → Prop} {x : Operand} {as : Array Operand} {ts : Array TypeId} {f : FuncId} {cap args rs : List PV} {l : List (Nat × AObj)}
    (hc : CallF P f (args ++ cap) l 0 (fun _ o => o = { rs := rs })) (hl : ∀ i o, lk i l = some o → s.f i = some o) (henter : ∀ args w, (callFunc f args).run P w = .ok (.enter f args) w) (ho : o.op = .call { callee := .value x, args := as, argTypes := ts }) (hd : dstOk N o.dst = true) (hx : ev s.env x = some (.fn (.func f) [] cap)) (ha : evs s.env as.toList = some args)
    (hk : K { s with env := put s.env o.dst (packA rs) }) : OpM P r N o s K X := by
  refine OpM_call (first := []) (cap := cap) (ps := args) (l := l) (k := 0) ho hd hx ha henter (by simpa using hc) hl ?_
  exact callK_pure hk
theorem pureF_ofM {f : FuncId} {fn : Func} {c : Code} {N : Nat} {args rs : List PV} (hf : P.funcs[f]? = some fn) (hb : fn.body = some c) (hN : fn.ntmps = N) (hargs : args.length ≤ N) (hp : PV.pureL rs = true)
    (h : ∀ f0 B Q, (∀ ids e s, s.f0 = f0 → s.B = B → s.df = ids.map DA.mark → dfrs s ids → keysIn B [] (dels ids s.l) → resA P (s.undf ids).σ s.env fn.results.toList = some rs → e = .ret ∨ e = .normal → Q e s) → wpM P none N c ⟨envOf 0 args, [], f0, B, B, []⟩ Q) : PureF P f args rs := by
  refine callF_ofM hf hb hN hargs fun f0 B ns Q hB hns hQ => h f0 B Q fun ids e s h1 h2 h3 h4 h5 h6 h7 => ?_
  obtain rfl : ns = [] := List.eq_nil_of_length_eq_zero hns
  rcases h7 with rfl | rfl
  · exact hQ .ret s ⟨ids, h3, h4, ret0 (s := s.undf ids) [] h1 h2 rfl h6 rfl (by show keysIn s.B [] (dels ids s.l); rw [h2]; exact h5) (pure_idsL _ hp) trivial trivial⟩
  · exact hQ .normal s ⟨ids, h3, h4, ret0n (s := s.undf ids) [] h1 h2 rfl h6 rfl (by show keysIn s.B [] (dels ids s.l); rw [h2]; exact h5) (pure_idsL _ hp) trivial trivial⟩
attribute [go_sem] putAll dfrs MS.undf endQ
end
end Sg
namespace Sg
open Go
set_option linter.unusedSectionVars false
variable [Glob]
section
variable {P : Program} {r : Option Nat} {N : Nat}
def InPlace (P : Program) (f : FuncId) (ps : List PV) (p : PV) : Prop := ∀ g w vals, RL P g ps vals → ∃ v, (callFunc f vals).run P w = .ok (.value v) w ∧ R P g p v
omit [Glob] in
theorem resolve_valueV {ρ : Operand → Value} {x : Operand} {as : Array Operand} {ts : Array TypeId} {t : TypeId} {f : FuncId} {va vc : Array Value} {v : Value} {w : World} (hx : ρ x = .func (.func f) va vc) (hv : (callFunc f (va ++ as.map ρ ++ vc)).run P w = .ok (.value v) w) :
    (do let d ← resolve ρ { callee := .value x, args := as, argTypes := ts } t; invoke d.target d.args : Sem Next).run P w = .ok (.value v) w := by
  simp only [resolve, hx, Deferred.ofValue, Sem.run_bind, Sem.run_pure, Result.andThen_ok, invoke, hv]
theorem OpM_vcall {o : Oper} {s : MS} {K : MS → Prop} {X : PV → MS → Prop} {x : Operand} {as : Array Operand} {ts : Array TypeId} {f : FuncId} {ps : List PV} {p : PV}
    (hf : InPlace P f ps p) (ho : o.op = .call { callee := .value x, args := as, argTypes := ts }) (hd : dstOk N o.dst = true) (hx : ev s.env x = some (.fn (.func f) [] [])) (ha : evs s.env as.toList = some ps)
    (hk : K { s with env := put s.env o.dst p }) : OpM P r N o s K X := by
  refine OpA_run (fun c h => by rw [ho] at h; cases h) p s.σ hd (fun g w a hra hi => ?_) (.here hk)
  have h1 := R_ev hra hx
  have h2 := evs_RL hra ha
  generalize hv : a.eval x = v at h1
  cases h1 with
  | fn _ _ _ va vc e1 e2 e3 e4 =>
    obtain ⟨u, k1, k2⟩ := hf g w _ h2
    obtain rfl : va = #[] := Array.eq_empty_of_size_eq_zero (by simpa using e1)
    obtain rfl : vc = #[] := Array.eq_empty_of_size_eq_zero (by simpa using e2)
    refine ⟨g, u, w, ?_, .refl g, k2, hi, .refl w⟩
    unfold execOp
    simp only [ho]
    exact resolve_valueV hv (by simpa using k1)
omit [Glob] in
theorem resolve_invokeV {ρ : Operand → Value} {x : Operand} {m : String} {as : Array Operand} {ts : Array TypeId} {t rt : TypeId} {f : FuncId} {v u : Value} {w : World} (hx : ρ x = .iface rt v)
    (hm : ∀ (v : Value) w, (method (P.types.size + Made.depth) rt v m).run P w = .ok (f, v) w) (hv : (callFunc f (#[v] ++ as.map ρ)).run P w = .ok (.value u) w) :
    (do let d ← resolve ρ { callee := .invoke x m, args := as, argTypes := ts } t; invoke d.target d.args : Sem Next).run P w = .ok (.value u) w := by
  have e : (#[Value.iface rt v] ++ Array.map ρ as).extract 1 (#[Value.iface rt v] ++ Array.map ρ as).size = Array.map ρ as := by
    apply Array.ext'
    simp
    rw [List.take_of_length_le (by simp)]
  have e0 : (#[Value.iface rt v] ++ Array.map ρ as)[0]? = some (Value.iface rt v) := by rw [Array.getElem?_append_left (by simp)]; rfl
  have hp : (program : Sem Program).run P w = .ok P w := rfl
  simp only [resolve, hx, Sem.run_bind, Sem.run_pure, Result.andThen_ok, invoke, e0, callMethod, e, hp, hm, hv]
theorem OpM_vinvoke {o : Oper} {s : MS} {K : MS → Prop} {X : PV → MS → Prop} {x : Operand} {m : String} {as : Array Operand} {ts : Array TypeId} {f : FuncId} {rt : TypeId} {recv : PV} {ps : List PV} {p : PV}
    (hf : InPlace P f (recv :: ps) p) (hm : ∀ (v : Value) w, (method (P.types.size + Made.depth) rt v m).run P w = .ok (f, v) w) (ho : o.op = .call { callee := .invoke x m, args := as, argTypes := ts }) (hd : dstOk N o.dst = true) (hx : ev s.env x = some (.iface rt recv)) (ha : evs s.env as.toList = some ps)
    (hk : K { s with env := put s.env o.dst p }) : OpM P r N o s K X := by
  refine OpA_run (fun c h => by rw [ho] at h; cases h) p s.σ hd (fun g w a hra hi => ?_) (.here hk)
  have h1 := R_ev hra hx
  have h2 := evs_RL hra ha
  generalize hv : a.eval x = v at h1
  cases h1 with
  | iface _ _ u h1 =>
    obtain ⟨u', k1, k2⟩ := hf g w (#[u] ++ as.map a.eval) (RL.append (l := [recv]) (a := #[u]) ⟨rfl, fun j hj => match j, hj with | 0, _ => h1⟩ h2)
    refine ⟨g, u', w, ?_, .refl g, k2, hi, .refl w⟩
    unfold execOp
    simp only [ho]
    exact resolve_invokeV hv hm k1
end
end Sg
namespace Sg
open Go
set_option linter.unusedSectionVars false
variable [Glob]
mutual
def PV.leN (e : TypeId) (id : Nat) : PV → PV → Prop
  | .emp, .sl e' i 0 0 => e' = e ∧ i = id
  | .agg a, .agg b => PV.leNL e id a b
  | p, q => p = q
def PV.leNL (e : TypeId) (id : Nat) : List PV → List PV → Prop
  | [], [] => True
  | x :: a, y :: b => x.leN e id y ∧ PV.leNL e id a b
  | _, _ => False
end
mutual
theorem leN_refl (e : TypeId) (id : Nat) : (p : PV) → p.leN e id p
  | .agg a => by simp only [PV.leN]; exact leNL_refl e id a
  | .emp => by simp [PV.leN]
  | .bool _ | .int _ _ | .str _ | .nilp | .ptr _ _ | .vptr _ | .kptr _ _ | .rows _ _ | .sl _ _ _ _ | .map _ | .nilm | .nilfn | .fn _ _ _ | .nilif | .iface _ _ | .tuple _ | .dead => by simp [PV.leN]
theorem leNL_refl (e : TypeId) (id : Nat) : (l : List PV) → PV.leNL e id l l
  | [] => trivial
  | x :: l => ⟨leN_refl e id x, leNL_refl e id l⟩
end
@[go_sem] theorem leN_same (e : TypeId) (id : Nat) (p : PV) : p.leN e id p = True := by simp [leN_refl]
@[go_sem] theorem leNL_same (e : TypeId) (id : Nat) (l : List PV) : PV.leNL e id l l = True := by simp [leNL_refl]
omit [Glob] in
@[go_sem] theorem leN_emp (e e' : TypeId) (id i : Nat) : PV.leN e id .emp (.sl e' i 0 0) = (e' = e ∧ i = id) := by simp [PV.leN]
omit [Glob] in
@[go_sem] theorem leN_agg (e : TypeId) (id : Nat) (a b : List PV) : PV.leN e id (.agg a) (.agg b) = PV.leNL e id a b := by simp [PV.leN]
omit [Glob] in
@[go_sem] theorem leNL_cons (e : TypeId) (id : Nat) (x y : PV) (a b : List PV) : PV.leNL e id (x :: a) (y :: b) = (x.leN e id y ∧ PV.leNL e id a b) := by simp [PV.leNL]
omit [Glob] in
theorem leNL_len {e : TypeId} {id : Nat} : {a b : List PV} → PV.leNL e id a b → a.length = b.length
  | [], [], _ => rfl
  | x :: a, y :: b, h => by simp only [PV.leNL] at h; simp [leNL_len h.2]
  | [], _ :: _, h => by simp [PV.leNL] at h
  | _ :: _, [], h => by simp [PV.leNL] at h
omit [Glob] in
theorem leNL_get {e : TypeId} {id : Nat} : {a b : List PV} → (h : PV.leNL e id a b) → ∀ j (h1 : j < a.length) (h2 : j < b.length), (a[j]).leN e id b[j]
  | x :: a, y :: b, h, 0, _, _ => by simp only [PV.leNL] at h; exact h.1
  | x :: a, y :: b, h, j + 1, h1, h2 => by
    simp only [PV.leNL] at h
    exact leNL_get h.2 j (by simpa using h1) (by simpa using h2)
  | [], [], _, _, h1, _ => by simp at h1
  | [], _ :: _, h, _, _, _ => by simp [PV.leNL] at h
  | _ :: _, [], h, _, _, _ => by simp [PV.leNL] at h
omit [Glob] in
theorem leN_inv {e : TypeId} {id : Nat} {p q : PV} (h : p.leN e id q) : p = q ∨ (p = .emp ∧ q = .sl e id 0 0) ∨ ∃ a b, p = .agg a ∧ q = .agg b ∧ PV.leNL e id a b := by
  cases p with
  | emp =>
    cases q with
    | sl e' i o n =>
      cases o with
      | zero => cases n with
        | zero => simp only [PV.leN] at h; obtain ⟨rfl, rfl⟩ := h; exact .inr (.inl ⟨rfl, rfl⟩)
        | succ n => simp [PV.leN] at h
      | succ o => simp [PV.leN] at h
    | _ => simp [PV.leN] at h <;> simp
  | agg a =>
    cases q with
    | agg b => simp only [PV.leN] at h; exact .inr (.inr ⟨a, b, rfl, rfl, h⟩)
    | _ => simp [PV.leN] at h
  | _ => exact .inl (by simpa [PV.leN] using h)
omit [Glob] in
theorem R.leN {P : Program} {g : Gh} {e : TypeId} {id b : Nat} {T : TypeId} (hio : g.io id = some (b, 0, T)) {p : PV} {v : Value} (h : R P g p v) : ∀ q, p.leN e id q → R P g q v := by
  induction h with
  | emp a =>
    intro q hq
    rcases leN_inv hq with rfl | ⟨_, rfl⟩ | ⟨a, b, h, _⟩
    · exact .emp a
    · exact .sl0 _ _ _ a b T hio
    · cases h
  | agg cs vs hl h ih =>
    intro q hq
    rcases leN_inv hq with rfl | ⟨h, _⟩ | ⟨a, b, e1, rfl, hq⟩
    · exact .agg cs vs hl h
    · cases h
    · injection e1 with e1
      subst e1
      have hlen := leNL_len hq
      exact .agg _ vs (by rw [hl, hlen]) (fun j hj => ih j (by omega) _ (leNL_get hq j (by omega) hj))
  | bool b => intro q hq; rcases leN_inv hq with rfl | ⟨h, _⟩ | ⟨_, _, h, _⟩ <;> first | exact .bool b | cases h
  | int k n => intro q hq; rcases leN_inv hq with rfl | ⟨h, _⟩ | ⟨_, _, h, _⟩ <;> first | exact .int k n | cases h
  | str k => intro q hq; rcases leN_inv hq with rfl | ⟨h, _⟩ | ⟨_, _, h, _⟩ <;> first | exact .str k | cases h
  | nilp => intro q hq; rcases leN_inv hq with rfl | ⟨h, _⟩ | ⟨_, _, h, _⟩ <;> first | exact .nilp | cases h
  | ptr id off b N T h => intro q hq; rcases leN_inv hq with rfl | ⟨h, _⟩ | ⟨_, _, h, _⟩ <;> first | exact .ptr id off b N T h | cases h
  | vptr cs b off arr T fr h hn hp hr ih => intro q hq; rcases leN_inv hq with rfl | ⟨h, _⟩ | ⟨_, _, h, _⟩ <;> first | exact .vptr cs b off arr T fr h hn hp hr | cases h
  | kptr k ko => intro q hq; rcases leN_inv hq with rfl | ⟨h, _⟩ | ⟨_, _, h, _⟩ <;> first | exact .kptr k ko | cases h
  | rows0 e a cap => intro q hq; rcases leN_inv hq with rfl | ⟨h, _⟩ | ⟨_, _, h, _⟩ <;> first | exact .rows0 e a cap | cases h
  | rows e r b off cap arr T fr h hes hc hn hl hp hce hr ih => intro q hq; rcases leN_inv hq with rfl | ⟨h, _⟩ | ⟨_, _, h, _⟩ <;> first | exact .rows e r b off cap arr T fr h hes hc hn hl hp hce hr | cases h
  | sl e id off len cap b N T h hlc hc => intro q hq; rcases leN_inv hq with rfl | ⟨h, _⟩ | ⟨_, _, h, _⟩ <;> first | exact .sl e id off len cap b N T h hlc hc | cases h
  | sl0 e id off a b T h => intro q hq; rcases leN_inv hq with rfl | ⟨h, _⟩ | ⟨_, _, h, _⟩ <;> first | exact .sl0 e id off a b T h | cases h
  | map id b N T h => intro q hq; rcases leN_inv hq with rfl | ⟨h, _⟩ | ⟨_, _, h, _⟩ <;> first | exact .map id b N T h | cases h
  | nilm => intro q hq; rcases leN_inv hq with rfl | ⟨h, _⟩ | ⟨_, _, h, _⟩ <;> first | exact .nilm | cases h
  | nilfn => intro q hq; rcases leN_inv hq with rfl | ⟨h, _⟩ | ⟨_, _, h, _⟩ <;> first | exact .nilfn | cases h
  | fn f a c va vc ha hc h1 h2 => intro q hq; rcases leN_inv hq with rfl | ⟨h, _⟩ | ⟨_, _, h, _⟩ <;> first | exact .fn f a c va vc ha hc h1 h2 | cases h
  | nilif => intro q hq; rcases leN_inv hq with rfl | ⟨h, _⟩ | ⟨_, _, h, _⟩ <;> first | exact .nilif | cases h
  | iface t v u h => intro q hq; rcases leN_inv hq with rfl | ⟨h, _⟩ | ⟨_, _, h, _⟩ <;> first | exact .iface t v u h | cases h
  | tuple cs vs hl h => intro q hq; rcases leN_inv hq with rfl | ⟨h, _⟩ | ⟨_, _, h, _⟩ <;> first | exact .tuple cs vs hl h | cases h
  | dead v => intro q hq; rcases leN_inv hq with rfl | ⟨h, _⟩ | ⟨_, _, h, _⟩ <;> first | exact .dead v | cases h
omit [Glob] in
theorem leN_cell {e : TypeId} {id : Nat} {p q : PV} (h : p.leN e id q) (hc : p.cell = true) : q.cell = true := by
  rcases leN_inv h with rfl | ⟨rfl, rfl⟩ | ⟨a, b, rfl, rfl, _⟩
  · exact hc
  · rfl
  · simp [PV.cell] at hc
def leNO (e : TypeId) (id : Nat) : AObj → AObj → Prop
  | .cells T a, .cells T' b => T = T' ∧ PV.leNL e id a b
  | o, o' => o = o'
omit [Glob] in
@[go_sem] theorem leNO_cells (e : TypeId) (id : Nat) (T T' : TypeId) (a b : List PV) : leNO e id (.cells T a) (.cells T' b) = (T = T' ∧ PV.leNL e id a b) := rfl
theorem leNO_refl (e : TypeId) (id : Nat) (o : AObj) : leNO e id o o := by
  cases o <;> simp [leNO, leNL_refl]
@[go_sem] theorem leNO_same (e : TypeId) (id : Nat) (o : AObj) : leNO e id o o = True := by simp [leNO_refl]
def leNEnv (e : TypeId) (id : Nat) (v : Env) : Env → Prop
  | [] => True
  | (t, q) :: r => (match get v t with | some p => p.leN e id q | none => False) ∧ leNEnv e id v r
def leNObjs (e : TypeId) (id : Nat) (l : List (Nat × AObj)) : List (Nat × AObj) → Prop
  | [] => True
  | (i, o') :: r => (match lk i l with | some o => leNO e id o o' | none => False) ∧ leNObjs e id l r
attribute [go_sem] leNEnv leNObjs
omit [Glob] in
theorem leNEnv_get {e : TypeId} {id : Nat} {v : Env} : {e' : Env} → leNEnv e id v e' → ∀ t q, get e' t = some q → ∃ p, get v t = some p ∧ p.leN e id q
  | [], _, t, q, h => by simp [get] at h
  | (k, x) :: r, ⟨h1, h2⟩, t, q, h => by
    simp only [get] at h
    split at h
    · rename_i e1; subst e1; injection h with h; subst h
      cases hg : get v k with
      | none => rw [hg] at h1; exact h1.elim
      | some p => rw [hg] at h1; exact ⟨p, rfl, h1⟩
    · exact leNEnv_get h2 t q h
omit [Glob] in
theorem leNObjs_lk {e : TypeId} {id : Nat} {l : List (Nat × AObj)} : {l' : List (Nat × AObj)} → leNObjs e id l l' → ∀ i o', lk i l' = some o' → ∃ o, lk i l = some o ∧ leNO e id o o'
  | [], _, i, o, h => by simp [lk] at h
  | (k, v) :: r, ⟨h1, h2⟩, i, o, h => by
    simp only [lk] at h
    split at h
    · rename_i e1; subst e1; injection h with h; subst h
      cases hg : lk k l with
      | none => rw [hg] at h1; exact h1.elim
      | some p => rw [hg] at h1; exact ⟨p, rfl, h1⟩
    · exact leNObjs_lk h2 i o h
section
variable {P : Program} {r : Option Nat} {N : Nat}
theorem wpM_nil {c : Code} {s : MS} {Q : ExitA → MS → Prop} (e : TypeId) (v : Env) (l : List (Nat × AObj)) (h1 : leNEnv e s.M s.env v) (h2 : leNObjs e s.M s.l l) (h3 : keepB s.B s.f0 l s.l)
    (h : wpM P r N c { s with env := v, l := (s.M, .cells e []) :: l, M := s.M + 1 } Q) : wpM P r N c s Q := by
  refine wpA_turn (st' := MS.st { s with env := v, l := (s.M, .cells e []) :: l, M := s.M + 1 }) (fun g w a ha hi => ?_) h
  have hfree : g.io s.M = none := hi.fr s.M (Nat.le_refl _)
  obtain ⟨g', hg'⟩ : ∃ g' : Gh, g' = ⟨fun i => if i = s.M then some (0, 0, e) else g.io i, g.H⟩ := ⟨_, rfl⟩
  have hle : g.le g' := by
    subst hg'
    refine ⟨fun i x hx => ?_, fun _ _ h => h⟩
    show (if i = s.M then _ else _) = _
    rw [if_neg]
    · exact hx
    · intro e1; rw [e1, hfree] at hx; cases hx
  have hM : g'.io s.M = some (0, 0, e) := by subst hg'; simp
  have hoth : ∀ i, i ≠ s.M → g'.io i = g.io i := by intro i hi; subst hg'; simp [hi]
  have hH : g'.H = g.H := by subst hg'; rfl
  refine ⟨g', hle, ⟨⟨ha.env.1, fun t q hq => ?_, ha.env.2.2.mono hle⟩, ha.df.mono hle⟩, ?_⟩
  · obtain ⟨p, hp, hl⟩ := leNEnv_get h1 t q hq
    exact ((ha.env.2.1 t p hp).mono hle).leN hM q hl
  · have hf : ∀ i o, i ≠ s.M → (MS.f { s with env := v, l := (s.M, .cells e []) :: l, M := s.M + 1 } i) = some o → ∃ o0, s.f i = some o0 ∧ leNO e s.M o0 o := by
      intro i o hne h
      simp only [MS.f, lk] at h ⊢
      rw [if_neg (fun h => hne h.symm)] at h
      cases hl : lk i l with
      | some o' =>
        rw [hl] at h; injection h with h; subst h
        obtain ⟨o0, h0, hle⟩ := leNObjs_lk h2 i _ hl
        exact ⟨o0, by rw [h0], hle⟩
      | none =>
        rw [hl] at h
        simp only at h
        cases hs : lk i s.l with
        | some o2 =>
          rcases keepB_lk h3 i o2 hs hl with hB | hB
          · rw [if_neg (by omega)] at h; cases h
          · rw [hB] at h; split at h <;> cases h
        | none => exact ⟨o, h, leNO_refl e s.M o⟩
    have hfM : ∀ o, (MS.f { s with env := v, l := (s.M, .cells e []) :: l, M := s.M + 1 } s.M) = some o → o = .cells e [] := by
      intro o h; simp [MS.f, lk] at h; exact h.symm
    refine ⟨by rw [hH]; exact hi.hH, fun i o h => ?_, fun i j o o' e1 e2 a b c d p1 p2 p3 => ?_, fun i o e1 a c p1 => ?_, fun i h => ?_, hi.gl.mono hle⟩
    · by_cases hne : i = s.M
      · subst hne
        obtain rfl := hfM o h
        exact ⟨0, #[], hM, .inl rfl, Nat.le_refl _, fun j hj => by simp at hj⟩
      obtain ⟨o0, h0, hlo⟩ := hf i o hne h
      have hob := hi.obj i o0 h0
      have hob' : ObjOk P g' w i o0 := hob.turn (fun b o h => by rw [hH]; exact h) (hoth i hne) (AObj.ids_mono (fun j hj => hoth j (by intro e1; rw [e1, hfree] at hj; cases hj)) hob.named)
      unfold leNO at hlo
      split at hlo
      · rename_i T a T' b
        obtain ⟨rfl, hlo⟩ := hlo
        obtain ⟨bk, arr, k1, k2, k3, k4⟩ := hob'
        have hlen := leNL_len hlo
        exact ⟨bk, arr, k1, k2, by omega, fun j hj => ⟨(k4 j (by omega)).1.leN hM _ (leNL_get hlo j (by omega) hj), leN_cell (leNL_get hlo j (by omega) hj) (k4 j (by omega)).2⟩⟩
      · subst hlo; exact hob'
    · by_cases hi1 : i = s.M
      · subst hi1; rw [hM] at c; injection c with c; subst c; simp at p1
      by_cases hj1 : j = s.M
      · subst hj1; rw [hM] at d; injection d with d; subst d; simp at p2
      obtain ⟨o1, h1, _⟩ := hf _ _ hi1 a
      obtain ⟨o2, h2, _⟩ := hf _ _ hj1 b
      exact hi.inj i j o1 o2 e1 e2 h1 h2 (hoth i hi1 ▸ c) (hoth j hj1 ▸ d) p1 p2 p3
    · by_cases hi1 : i = s.M
      · subst hi1; rw [hM] at c; injection c with c; subst c; simp at p1
      obtain ⟨o1, h1, _⟩ := hf _ _ hi1 a
      rw [hH]
      exact hi.dis i o1 e1 h1 (hoth i hi1 ▸ c) p1
    · have hlt : s.M + 1 ≤ i := h
      rw [hoth i (by omega)]
      exact hi.fr i (show s.M ≤ i by omega)
end
end Sg
namespace Sg
open Go
set_option linter.unusedSectionVars false
variable [Glob]
def rho (y z i : Nat) : Nat := if i = y then z else i
def renK (y z : Nat) : List (Nat × AObj) → List (Nat × AObj)
  | [] => []
  | (k, o) :: r => (rho y z k, o.ren (rho y z)) :: renK y z r
def MS.rn (s : MS) (y : Nat) : MS := { s with env := mapE (PV.ren (rho y s.M)) s.env, l := renK y s.M s.l, M := s.M + 1 }
omit [Glob] in
theorem lk_renK {y z : Nat} (hyz : y ≠ z) : (l : List (Nat × AObj)) → lk z l = none → ∀ i, lk i (renK y z l) = if i = z then (lk y l).map (AObj.ren (rho y z)) else if i = y then none else (lk i l).map (AObj.ren (rho y z))
  | [], _, i => by simp [renK, lk]
  | (k, o) :: r, h, i => by
    simp only [lk] at h
    split at h
    · cases h
    rename_i hkz
    have ih := lk_renK hyz r h i
    simp only [renK, lk, rho, ih]
    by_cases h1 : k = y
    · subst h1
      simp only [if_true]
      by_cases h2 : z = i
      · subst h2; simp
      · rw [if_neg h2]
        have h2' : ¬ i = z := fun e => h2 e.symm
        by_cases h3 : i = k
        · subst h3; simp [h2']
        · have h3' : ¬ k = i := fun e => h3 e.symm
          simp [h2', h3, h3']
    · rw [if_neg h1]
      by_cases h2 : k = i
      · subst h2
        rw [if_pos rfl, if_neg hkz, if_neg h1, if_pos rfl]; rfl
      · rw [if_neg h2, if_neg h2]
        by_cases h3 : i = z
        · rw [if_pos h3, if_pos h3, if_neg h1]
        · rw [if_neg h3, if_neg h3]
section
variable {P : Program} {r : Option Nat} {N : Nat}
theorem rn_ok {s : MS} {y : Nat} {o : AObj} (hy : lk y s.l = some o) (hcut : s.B ≤ y ∨ s.f0 y = none) (hBM : s.B ≤ s.M) (hdf : s.df = []) {g : Gh} {w : World} {a : Act} (ha : RA P g N s.st a) (hi : Inv P g s.σ w) :
    ∃ g', g.le g' ∧ RA P g' N (s.rn y).st a ∧ Inv P g' (s.rn y).σ w := by
  have hfy : s.f y = some o := by simp [MS.f, hy]
  have hMfree : g.io s.M = none := hi.fr s.M (Nat.le_refl _)
  have hyM : y ≠ s.M := by
    rintro rfl
    have := (hi.obj _ o hfy).has
    rw [hMfree] at this; cases this
  have hlM : lk s.M s.l = none := by
    cases h : lk s.M s.l with
    | none => rfl
    | some o' =>
      have := (hi.obj s.M o' (by simp [MS.σ, MS.f, h])).has
      rw [hMfree] at this; cases this
  let ρ := rho y s.M
  let g' : Gh := { io := fun i => if i = s.M then g.io y else g.io i, H := g.H }
  have hle : g.le g' := by
    refine ⟨fun id e h => ?_, fun b o h => h⟩
    show (if id = s.M then g.io y else g.io id) = some e
    rw [if_neg]
    · exact h
    · rintro rfl; rw [hMfree] at h; cases h
  have hio : ∀ id, (g.io id).isSome = true → g'.io (ρ id) = g.io id := by
    intro id h
    show (if (if id = y then s.M else id) = s.M then g.io y else g.io (if id = y then s.M else id)) = g.io id
    by_cases h1 : id = y
    · subst h1; simp
    · rw [if_neg h1, if_neg]
      rintro rfl; rw [hMfree] at h; cases h
  have hR : ∀ p v, R P g p v → R P g' (p.ren ρ) v := fun p v h => R.ren (g' := g') h (fun _ _ h => h) (Sg.ids_mono (fun i hi => hio i hi) _ h.named)
  have hO : ∀ i o n, ObjOk P g w i o → g'.io n = g.io i → ObjOk P g' w n (o.ren ρ) := fun i o n h hn => ObjOk.ren (g' := g') h (fun _ _ h => h) hn (AObj.ids_mono (fun i hi => hio i hi) h.named)
  have hfl : ∀ i o', (s.rn y).σ.f i = some o' → (i = s.M ∧ o' = o.ren ρ) ∨ (i ≠ s.M ∧ i ≠ y ∧ ((∃ o1, s.f i = some o1 ∧ o' = o1.ren ρ) ∨ s.f i = some o')) := by
    intro i o' h
    have h : (match lk i (renK y s.M s.l) with | some o => some o | none => if i < s.B then s.f0 i else none) = some o' := h
    rw [lk_renK hyM _ hlM] at h
    by_cases h1 : i = s.M
    · subst h1
      rw [if_pos rfl, hy] at h
      injection h with h
      exact .inl ⟨rfl, h.symm⟩
    · rw [if_neg h1] at h
      by_cases h2 : i = y
      · subst h2
        rw [if_pos rfl] at h
        simp only at h
        rcases hcut with hc | hc
        · rw [if_neg (by omega)] at h; cases h
        · rw [hc] at h; split at h <;> cases h
      · rw [if_neg h2] at h
        refine .inr ⟨h1, h2, ?_⟩
        cases hl : lk i s.l with
        | some o1 =>
          rw [hl] at h
          injection h with h
          exact .inl ⟨o1, by simp [MS.f, hl], h.symm⟩
        | none =>
          rw [hl] at h
          exact .inr (by simp only [MS.f, hl]; exact h)
  have hback : ∀ i o', (s.rn y).σ.f i = some o' → ∃ j o1, s.f j = some o1 ∧ g'.io i = g.io j ∧ ρ j = i := by
    intro i o' h
    rcases hfl i o' h with ⟨rfl, _⟩ | ⟨h1, h2, h3⟩
    · exact ⟨y, o, hfy, by show (if s.M = s.M then g.io y else _) = _; rw [if_pos rfl], by show (if y = y then s.M else y) = s.M; rw [if_pos rfl]⟩
    · have hx : ∃ o1, s.f i = some o1 := by
        rcases h3 with ⟨o1, h, _⟩ | h
        · exact ⟨o1, h⟩
        · exact ⟨o', h⟩
      obtain ⟨o1, ho1⟩ := hx
      exact ⟨i, o1, ho1, by show (if i = s.M then g.io y else g.io i) = _; rw [if_neg h1], by show (if i = y then s.M else i) = i; rw [if_neg h2]⟩
  refine ⟨g', hle, ⟨⟨ha.env.1, fun t p h => ?_, ha.env.2.2.mono hle⟩, ?_⟩, ⟨hi.hH, fun i o' h => ?_, fun i j o1 o2 e1 e2 h1 h2 k1 k2 p1 p2 hb => ?_, fun i o1 e1 h1 k1 p1 => ?_, fun i h => ?_, hi.gl.mono hle⟩⟩
  · have h : get (mapE (PV.ren ρ) s.env) t = some p := h
    rw [get_mapE] at h
    cases hp : get s.env t with
    | none => rw [hp] at h; cases h
    | some q =>
      rw [hp] at h
      injection h with h
      subst h
      exact hR _ _ (ha.env.2.1 t q hp)
  · have := ha.df
    simp only [MS.st, hdf] at this
    show RDs P g' s.df a.defers
    rw [hdf]
    match hds : a.defers, this with
    | [], _ => trivial
    | _ :: _, h => exact h.elim
  · rcases hfl i o' h with ⟨rfl, rfl⟩ | ⟨h1, h2, ⟨o1, h3, rfl⟩ | h3⟩
    · exact hO y o _ (hi.obj y o hfy) (by show (if s.M = s.M then g.io y else _) = _; rw [if_pos rfl])
    · exact hO i o1 i (hi.obj i o1 h3) (by show (if i = s.M then g.io y else g.io i) = _; rw [if_neg h1])
    · exact ObjOk.turn (g' := g') (hi.obj i o' h3) (fun _ _ h => h) (by show (if i = s.M then g.io y else g.io i) = _; rw [if_neg h1]) (AObj.ids_mono (fun j hj => by
        show (if j = s.M then g.io y else g.io j) = g.io j
        rw [if_neg]; rintro rfl; rw [hMfree] at hj; cases hj) (hi.obj i o' h3).named)
  · obtain ⟨a1, b1, c1, d1, f1⟩ := hback i o1 h1
    obtain ⟨a2, b2, c2, d2, f2⟩ := hback j o2 h2
    rw [d1] at k1
    rw [d2] at k2
    have := hi.inj a1 a2 b1 b2 e1 e2 c1 c2 k1 k2 p1 p2 hb
    rw [← f1, ← f2, this]
  · obtain ⟨a1, b1, c1, d1, f1⟩ := hback i o1 h1
    rw [d1] at k1
    exact hi.dis a1 b1 e1 c1 k1 p1
  · have h : s.M + 1 ≤ i := h
    show (if i = s.M then g.io y else g.io i) = none
    rw [if_neg (by omega)]
    exact hi.fr i (by show s.M ≤ i; omega)
theorem wpM_ren {c : Code} {s : MS} {Q : ExitA → MS → Prop} (y : Nat) (o : AObj) (hy : lk y s.l = some o) (hcut : okDel s.B s.f0 [(y, none)]) (hBM : s.B ≤ s.M) (hdf : s.df = []) (h : wpM P r N c (s.rn y) Q) : wpM P r N c s Q :=
  wpA_turn (fun _ _ _ ha hi => rn_ok hy hcut.1 hBM hdf ha hi) h
end
attribute [go_sem] renK MS.rn mapE
omit [Glob] in
@[go_sem] theorem rho_eq (y z i : Nat) : rho y z i = if i = y then z else i := rfl
end Sg
namespace Sg
open Go
set_option linter.unusedSectionVars false
variable [Glob]
attribute [go_sem ↓] reduceIte Array.reduceGetElem?
attribute [go_sem] Nat.reduceEqDiff Nat.reduceAdd Nat.reduceSub Nat.reduceMul Nat.reduceLeDiff Nat.reduceLT reduceCtorEq Nat.zero_add Nat.add_zero Nat.mul_one
attribute [go_sem] wrap64 Int.reduceNeg Int.reduceLT Int.reduceLE Int.reduceBEq Int.reduceToNat Int.toNat_natCast Int.reduceAdd Bool.true_eq_false Bool.false_eq_true eq_self imp_self forall_const false_implies decide_eq_true_eq decide_eq_false_iff_not not_false_eq_true Bool.not_true Bool.not_false Bool.false_or Bool.or_false Bool.true_or Bool.or_true Bool.false_and Bool.and_false
omit [Glob] in
theorem S_ {p q : Prop} (h : q) (e : q → p := by intro h; simp (maxSteps := 1000000) -implicitDefEqProofs (disch := omega) only [go_sem]; exact h) : p := e h
omit [Glob] in
theorem T_ {p : Prop} (h : p := by simp (maxSteps := 1000000) -implicitDefEqProofs (disch := omega) only [go_sem]) : p := h
omit [Glob] in
theorem F_ {p : Prop} (h : p := by first | rfl | simp (maxSteps := 1000000) -implicitDefEqProofs (disch := omega) only [go_sem]) : p := h
omit [Glob] in
theorem G_ {p : Prop} (h : p := by first | rfl | (simp (maxSteps := 1000000) -implicitDefEqProofs (disch := omega) only [go_sem] <;> rfl)) : p := h
omit [Glob] in
theorem SD_ {p q : Prop} (h : q) (e : q → p := by intro h; simp (contextual := true) (maxSteps := 1000000) -implicitDefEqProofs (disch := first | omega | (simp only [decide_eq_true_eq, decide_eq_false_iff_not, Bool.and_eq_true, Bool.or_eq_false_iff, Bool.not_eq_true'] at *; omega)) only [go_sem]; exact h) : p := e h
omit [Glob] in
theorem SO_ {p q : Prop} (h : q) (e : q → p := by intro h; simp (maxSteps := 1000000) -implicitDefEqProofs (disch := omega) only [go_sem, hO, hA]; exact h) : p := e h
omit [Glob] in
theorem SE_ {p q : Prop} (h : q) (e : q → p := by intro h; simp (contextual := true) (maxSteps := 1000000) -implicitDefEqProofs (disch := first | omega | (simp only [decide_eq_true_eq, decide_eq_false_iff_not, Bool.and_eq_true, Bool.or_eq_false_iff, Bool.not_eq_true'] at *; omega)) only [go_sem, hO, hA]; exact h) : p := e h
def AtL {α : Type} (O : Array α) : Nat → List α → Prop
  | _, [] => True
  | k, x :: l => O[k]? = some x ∧ AtL O (k + 1) l
omit [Glob] in
theorem atL_nil {α : Type} (O : Array α) (k : Nat) : AtL O k [] = True := rfl
omit [Glob] in
theorem atL_cons {α : Type} (O : Array α) (k : Nat) (x : α) (l : List α) : AtL O k (x :: l) = (O[k]? = some x ∧ AtL O (k + 1) l) := rfl
omit [Glob] in
theorem atL_of {α : Type} (O : Array α) : ∀ (l : List α) (k : Nat), (∀ j, (h : j < l.length) → O[k + j]? = some l[j]) → AtL O k l
  | [], _, _ => trivial
  | x :: l, k, h => ⟨h 0 (by simp), atL_of O l (k + 1) fun j hj => by
      have := h (j + 1) (by simpa using hj)
      rw [show k + 1 + j = k + (j + 1) by omega]; simpa using this⟩
omit [Glob] in
theorem atL_self {α : Type} (L : List α) : AtL L.toArray 0 L := atL_of _ L 0 fun j hj => by simp [hj]
section
variable {P : Program} {r : Option Nat} {N : Nat} {ops : List Oper}
theorem wpM_dr (hm : P.follows .mixedOrders = true) (k p : Nat) (tbl : List Nat) (an : List AnI) (ord : List Nat) (pre : List (List Nat)) {id : Nat} {s : MS} {Q : ExitA → MS → Prop} (m : Nat) (hlen : tbl.length = m) (htbl : tbl.Nodup)
    (hc : (checkD N m ops.toArray an ord pre && an.all (fun a => a.nm.all (fun x => decide (p ≤ x) && decide (x < m)))) = true) (hnm : ∀ n ∈ tbl.drop p, s.M ≤ n ∧ n < s.M + k)
    (h' : ∀ (O : Array Oper) (A : Array AnI) (K : MS → Prop), AtL O 0 ops → AtL A 0 an → (∀ s, Q .normal s → K s) → runD P O tbl A ord { s with M := s.M + k } K) : wpM P r N (.region id ops.toArray true) s Q :=
  wpM_drawn hm k p tbl an.toArray ord pre m hlen htbl (by simpa using hc) hnm fun O A K hO hA hK => h' O A K (hO ▸ atL_self ops) (hA ▸ atL_self an) hK
end
end Sg
namespace Sg
open Go
set_option linter.unusedSectionVars false
set_option linter.unusedVariables false
variable [Glob]
def KS (_ : List Nat) : Prop := True
section
variable {P : Program} {r : Option Nat} {N : Nat}
theorem wpM_regionH {ks : List Nat} (_ : KS ks) {id : Nat} {ops : Array Oper} {s : MS} {Q : ExitA → MS → Prop} (hd : ops.toList.all (fun o => dstOk N o.dst) = true)
    (h : ∀ Q' : ExitA → MS → Prop, (∀ e s, keepQ ks Q e s → Q' e s) → runL P r N ops ops.toList s Q') : wpM P r N (.region id ops false) s Q := wpM_regionK ks hd h
end
omit [Glob] in
theorem n_ {p q : Prop} (h : q) (e : q → p := by
  intro h
  repeat (first | refine wpM_seq ?_ | refine wpM_block ?_ | (refine wpM_skip ?_; try simp (maxSteps := 1000000) -implicitDefEqProofs (disch := omega) only [go_sem]) | (refine wpM_exit ?_; try simp (maxSteps := 1000000) -implicitDefEqProofs (disch := omega) only [go_sem]))
  exact h) : p := e h
omit [Glob] in
theorem g_ (ks : List Nat) {p q : Prop} (h : q) (e : KS ks → q → p := by
  intro hk h
  repeat (first | refine wpM_seq ?_ | refine wpM_block ?_ | (refine wpM_skip ?_; try simp (maxSteps := 1000000) -implicitDefEqProofs (disch := omega) only [go_sem]) | (refine wpM_exit ?_; try simp (maxSteps := 1000000) -implicitDefEqProofs (disch := omega) only [go_sem]))
  refine wpM_regionH hk rfl ?_
  intro Q1 hQ1
  simp (maxSteps := 1000000) -implicitDefEqProofs (disch := omega) only [go_sem]
  refine hQ1 _ _ ?_
  simp (maxSteps := 1000000) -implicitDefEqProofs (disch := omega) only [go_sem]
  exact h) : p := e trivial h
omit [Glob] in
theorem gD_ (ks : List Nat) {p q : Prop} (h : q) (e : KS ks → q → p := by
  intro hk h
  repeat (first | refine wpM_seq ?_ | refine wpM_block ?_ | (refine wpM_skip ?_; try simp (maxSteps := 1000000) -implicitDefEqProofs (disch := omega) only [go_sem]) | (refine wpM_exit ?_; try simp (maxSteps := 1000000) -implicitDefEqProofs (disch := omega) only [go_sem]))
  refine wpM_regionH hk rfl ?_
  intro Q1 hQ1
  simp (contextual := true) (maxSteps := 1000000) -implicitDefEqProofs (disch := first | omega | (simp only [decide_eq_true_eq, decide_eq_false_iff_not, Bool.and_eq_true, Bool.or_eq_false_iff, Bool.not_eq_true'] at *; omega)) only [go_sem]
  refine hQ1 _ _ ?_
  simp (maxSteps := 1000000) -implicitDefEqProofs (disch := omega) only [go_sem]
  exact h) : p := e trivial h
omit [Glob] in
theorem c_ {p a b A B : Prop} (h1 : a → A) (h2 : b → B) (e : (a → A) → (b → B) → p := by
  intro h1 h2
  repeat (first | refine wpM_seq ?_ | refine wpM_block ?_ | (refine wpM_skip ?_; try simp (maxSteps := 1000000) -implicitDefEqProofs (disch := omega) only [go_sem]) | (refine wpM_exit ?_; try simp (maxSteps := 1000000) -implicitDefEqProofs (disch := omega) only [go_sem]))
  refine wpM_condK ?_
  simp (maxSteps := 1000000) -implicitDefEqProofs (disch := omega) only [go_sem]
  exact ⟨h1, h2⟩) : p := e h1 h2
omit [Glob] in
theorem c1_ {p q : Prop} (h : q) (e : q → p := by
  intro h
  repeat (first | refine wpM_seq ?_ | refine wpM_block ?_ | (refine wpM_skip ?_; try simp (maxSteps := 1000000) -implicitDefEqProofs (disch := omega) only [go_sem]) | (refine wpM_exit ?_; try simp (maxSteps := 1000000) -implicitDefEqProofs (disch := omega) only [go_sem]))
  refine wpM_condK ?_
  simp (maxSteps := 1000000) -implicitDefEqProofs (disch := omega) only [go_sem]
  exact h) : p := e h
omit [Glob] in
theorem fin1_ {q g : Prop} (_ : q = True) (_ : q) (hg : g) : g := hg
omit [Glob] in
theorem e_ {p q a : Prop} (hr : a) (h : q) (e : a → q → p := by
  intro hr h
  repeat (first | refine wpM_seq ?_ | refine wpM_block ?_ | (refine wpM_skip ?_; try simp (maxSteps := 1000000) -implicitDefEqProofs (disch := omega) only [go_sem]) | (refine wpM_exit ?_; try simp (maxSteps := 1000000) -implicitDefEqProofs (disch := omega) only [go_sem]))
  first | (refine wpM_ret ?_; try simp (maxSteps := 1000000) -implicitDefEqProofs (disch := omega) only [go_sem]) | skip
  first | refine hQ _ _ rfl rfl rfl ?_ ?_ (.inl rfl) | refine hQ _ _ rfl rfl rfl ?_ ?_ (.inr rfl)
  · simp (maxSteps := 1000000) -implicitDefEqProofs (disch := omega) only [go_sem, le_yes, true_or]
  rw [hr]
  first
  | (refine fin1_ rfl h ?_; simp (maxSteps := 1000000) -implicitDefEqProofs (disch := omega) only [go_sem, List.cons.injEq, PV.bool.injEq, PV.int.injEq, PV.agg.injEq]; done)
  | (try simp (maxSteps := 1000000) -implicitDefEqProofs (disch := omega) only [go_sem, List.cons.injEq, PV.bool.injEq, PV.int.injEq, PV.agg.injEq]
     exact h)) : p := e hr h
omit [Glob] in
theorem L_ {p : Prop} (h : p := by
  first
  | (simp (maxSteps := 1000000) -implicitDefEqProofs (disch := omega) only [go_sem, PV.int.injEq, Int.natCast_add, Int.natCast_one, Int.natCast_zero, true_or, le_yes]; done)
  | rfl
  | trivial
  | (simp (maxSteps := 1000000) -implicitDefEqProofs (disch := omega) only [go_sem, PV.int.injEq, Int.natCast_add, Int.natCast_one, Int.natCast_zero, true_or]; simp; done)
  | (simp; done)) : p := h
omit [Glob] in
theorem M_ {p : Prop} (h : p := by
  first
  | omega
  | (simp (maxSteps := 1000000) -implicitDefEqProofs (disch := omega) only [go_sem]; done)
  | (simp (maxSteps := 1000000) -implicitDefEqProofs (disch := omega) only [go_sem]; omega)) : p := h
section
variable {P : Program} {r : Option Nat} {N : Nat}
theorem cp_ {o : Oper} {s : MS} {K : MS → Prop} {X : PV → MS → Prop} {x : Operand} {as : Array Operand} {ts : Array TypeId} {f : FuncId} {args rs : List PV} {q : Prop}
    (hc : PureF P f args rs) (henter : ∀ args w, (callFunc f args).run P w = .ok (.enter f args) w) (h : q)
    (ho : o.op = .call { callee := .value x, args := as, argTypes := ts } := by exact rfl) (hd : dstOk N o.dst = true := by exact rfl)
    (hx : ev s.env x = some (.fn (.func f) [] []) := by first | exact rfl | simp (maxSteps := 1000000) -implicitDefEqProofs (disch := omega) only [go_sem])
    (ha : evs s.env as.toList = some args := by first | exact rfl | (simp (maxSteps := 1000000) -implicitDefEqProofs (disch := omega) only [go_sem] <;> rfl))
    (e : q → K { s with env := put s.env o.dst (packA rs) } := by
      intro h
      simp (maxSteps := 1000000) -implicitDefEqProofs (disch := omega) only [go_sem]
      exact h) : OpM P r N o s K X := call_p hc henter ho hd hx ha (e h)
theorem cpD_ {o : Oper} {s : MS} {K : MS → Prop} {X : PV → MS → Prop} {x : Operand} {as : Array Operand} {ts : Array TypeId} {f : FuncId} {args rs : List PV} {q : Prop}
    (hc : PureF P f args rs) (henter : ∀ args w, (callFunc f args).run P w = .ok (.enter f args) w) (h : q)
    (ho : o.op = .call { callee := .value x, args := as, argTypes := ts } := by exact rfl) (hd : dstOk N o.dst = true := by exact rfl)
    (hx : ev s.env x = some (.fn (.func f) [] []) := by first | exact rfl | simp (maxSteps := 1000000) -implicitDefEqProofs (disch := omega) only [go_sem])
    (ha : evs s.env as.toList = some args := by first | exact rfl | (simp (maxSteps := 1000000) -implicitDefEqProofs (disch := omega) only [go_sem] <;> rfl))
    (e : q → K { s with env := put s.env o.dst (packA rs) } := by
      intro h
      simp (contextual := true) (maxSteps := 1000000) -implicitDefEqProofs (disch := first | omega | (simp only [decide_eq_true_eq, decide_eq_false_iff_not, Bool.and_eq_true, Bool.or_eq_false_iff, Bool.not_eq_true'] at *; omega)) only [go_sem]
      exact h) : OpM P r N o s K X := call_p hc henter ho hd hx ha (e h)
theorem cg_ {ops : Array Oper} {l : List Oper} {Q : ExitA → MS → Prop} {s : MS} {o : Oper} {b : Bool} {x : Operand} {as : Array Operand} {ts : Array TypeId} {f : FuncId} {args rs : List PV} {q : Prop}
    (hc : b = true → PureF P f args rs) (henter : ∀ args w, (callFunc f args).run P w = .ok (.enter f args) w) (h : q)
    (ho : o.op = .call { callee := .value x, args := as, argTypes := ts } := by exact rfl) (hd : dstOk N o.dst = true := by exact rfl)
    (hx : b = true → ev s.env x = some (.fn (.func f) [] []) := by intro hb; simp (maxSteps := 1000000) -implicitDefEqProofs (disch := omega) only [go_sem]; done)
    (ha : b = true → evs s.env as.toList = some args := by intro hb; first | exact rfl | (simp (maxSteps := 1000000) -implicitDefEqProofs (disch := omega) only [hb, gd_of hb, go_sem] <;> rfl); done)
    (e : q → kVal P r N ops l Q s o.dst (gd b (packA rs)) := by
      intro h
      simp (contextual := true) (maxSteps := 1000000) -implicitDefEqProofs (disch := first | omega | (simp only [decide_eq_true_eq, decide_eq_false_iff_not, Bool.and_eq_true, Bool.or_eq_false_iff, Bool.not_eq_true'] at *; omega)) only [go_sem]
      exact h) :
    opG (some b) (OpM P r N o s (kRun P r N ops l Q) (kPan Q)) (kVal P r N ops l Q s o.dst) := callG_p hc henter ho hd hx ha (e h)
theorem dr_ (hm : P.follows .mixedOrders = true) (ks : List Nat) (k p : Nat) (tbl : List Nat) (an : List AnI) (ord : List Nat) (pre : List (List Nat)) {id : Nat} {s : MS} {Q : ExitA → MS → Prop} {ops : List Oper} (m : Nat)
    (h' : ∀ (O : Array Oper) (A : Array AnI) (K : MS → Prop), AtL O 0 ops → AtL A 0 an → (∀ s, keepQ ks Q .normal s → K s) → runD P O tbl A ord { s with M := s.M + k } K)
    (hc : (checkD N m ops.toArray an ord pre && an.all (fun a => a.nm.all (fun x => decide (p ≤ x) && decide (x < m)))) = true := by decide +kernel) (hlen : tbl.length = m := by exact rfl) (htbl : tbl.Nodup := by simp) (hnm : ∀ n ∈ tbl.drop p, s.M ≤ n ∧ n < s.M + k := by simp) :
    wpM P r N (.region id ops.toArray true) s Q := wpM_keep ks (wpM_dr hm k p tbl an ord pre m hlen htbl hc hnm h')
variable {o : Oper} {e : Env} {f : Nat → Option AObj} {K : Out → Prop} {an : Ann}
theorem lp_ {x : Operand} {as : Array Operand} {ts : Array TypeId} {fn : FuncId} {args rs : List PV} {q : Prop} (hc : PureF P fn args rs) (henter : ∀ args w, (callFunc fn args).run P w = .ok (.enter fn args) w) (h : q)
    (ho : o.op = .call { callee := .value x, args := as, argTypes := ts } := by exact rfl) (hx : ev e x = some (.fn (.func fn) [] []) := by exact rfl) (ha : evs e as.toList = some args := by first | exact rfl | (simp (maxSteps := 1000000) -implicitDefEqProofs (disch := omega) only [go_sem] <;> rfl)) (hk : an.nm = [] := by exact rfl)
    (e' : q → K ⟨packA rs, [], []⟩ := by
      intro h
      simp (maxSteps := 1000000) -implicitDefEqProofs (disch := omega) only [go_sem, hO, hA]
      exact h) : loudC P o e f K an := loud_p hc henter ho hx ha hk (e' h)
theorem lpE_ {x : Operand} {as : Array Operand} {ts : Array TypeId} {fn : FuncId} {args rs : List PV} {q : Prop} (hc : PureF P fn args rs) (henter : ∀ args w, (callFunc fn args).run P w = .ok (.enter fn args) w) (h : q)
    (ho : o.op = .call { callee := .value x, args := as, argTypes := ts } := by exact rfl) (hx : ev e x = some (.fn (.func fn) [] []) := by exact rfl) (ha : evs e as.toList = some args := by first | exact rfl | (simp (maxSteps := 1000000) -implicitDefEqProofs (disch := omega) only [go_sem] <;> rfl)) (hk : an.nm = [] := by exact rfl)
    (e' : q → K ⟨packA rs, [], []⟩ := by
      intro h
      simp (contextual := true) (maxSteps := 1000000) -implicitDefEqProofs (disch := first | omega | (simp only [decide_eq_true_eq, decide_eq_false_iff_not, Bool.and_eq_true, Bool.or_eq_false_iff, Bool.not_eq_true'] at *; omega)) only [go_sem, hO, hA]
      exact h) : loudC P o e f K an := loud_p hc henter ho hx ha hk (e' h)
theorem lg_ {b : Bool} {x : Operand} {as : Array Operand} {ts : Array TypeId} {fn : FuncId} {args rs : List PV} {q : Prop} (hc : b = true → PureF P fn args rs) (henter : ∀ args w, (callFunc fn args).run P w = .ok (.enter fn args) w) (h : q)
    (ho : o.op = .call { callee := .value x, args := as, argTypes := ts } := by exact rfl) (hx : b = true → ev e x = some (.fn (.func fn) [] []) := by intro hb; simp (maxSteps := 1000000) -implicitDefEqProofs (disch := omega) only [go_sem]; done) (ha : b = true → evs e as.toList = some args := by intro hb; first | exact rfl | (simp (maxSteps := 1000000) -implicitDefEqProofs (disch := omega) only [hb, gd_of hb, go_sem] <;> rfl); done) (hk : an.nm = [] := by exact rfl)
    (e' : q → K ⟨gd b (packA rs), [], []⟩ := by
      intro h
      simp (contextual := true) (maxSteps := 1000000) -implicitDefEqProofs (disch := first | omega | (simp only [decide_eq_true_eq, decide_eq_false_iff_not, Bool.and_eq_true, Bool.or_eq_false_iff, Bool.not_eq_true'] at *; omega)) only [go_sem, hO, hA]
      exact h) :
    loG (some b) (loudC P o e f K an) K := loudG_p hc henter ho hx ha hk (e' h)
end
end Sg
namespace Sg
open Go
set_option linter.unusedSectionVars false
set_option linter.unusedVariables false
variable [Glob]
section
variable {P : Program} {r : Option Nat} {N : Nat} {ops : Array Oper}
theorem CR_ann {ann ann' : Nat → Ann} {Q : FS → Prop} : {l : List Nat} → {s : FS} → (∀ j ∈ l, ann' j = ann j) → CR P ops ann l s Q → CR P ops ann' l s Q
  | [], s, _, h => h
  | j :: l, s, he, h => by
    have hj := he j (by simp)
    have ih : ∀ s, CR P ops ann l s Q → CR P ops ann' l s Q := fun s h => CR_ann (fun j hj => he j (by simp [hj])) h
    simp only [CR] at h ⊢
    rw [hj]
    obtain ⟨o, ho, h⟩ := h
    refine ⟨o, ho, ?_⟩
    split
    · rename_i hl
      rw [if_pos hl] at h
      rcases h with ⟨k1, k2, k3⟩ | ⟨k1, fn, args, lst, Ω, m1, m2, m3, m4⟩
      · exact .inl ⟨k1, k2, ih _ k3⟩
      · exact .inr ⟨k1, fn, args, lst, Ω, m1, m2, m3, fun out hout => ⟨(m4 out hout).1, (m4 out hout).2.1, ih _ (m4 out hout).2.2⟩⟩
    · rename_i hl
      rw [if_neg hl] at h
      obtain ⟨out, k1, k2, k3⟩ := h
      exact ⟨out, k1, k2, ih _ k3⟩
theorem CR_both {ann : Nat → Ann} {Q : FS → Prop} {i : Nat} {l1 l2 : List Nat} {s : FS} (hl : (ann i).loud = false) (h1 : CR P ops ann (i :: l1) s Q) (h2 : CR P ops ann (i :: l2) s Q) : CR P ops ann [i] s (fun s' => CR P ops ann l1 s' Q ∧ CR P ops ann l2 s' Q) := by
  simp only [CR] at h1 h2 ⊢
  obtain ⟨o, ho, h1⟩ := h1
  obtain ⟨o', ho', h2⟩ := h2
  rw [ho] at ho'
  injection ho' with ho'
  subst ho'
  rw [if_neg (by simp [hl])] at h1 h2
  obtain ⟨out, a1, a2, a3⟩ := h1
  obtain ⟨out', b1, b2, b3⟩ := h2
  rw [a1] at b1
  injection b1 with b1
  subst b1
  refine ⟨o, ho, ?_⟩
  rw [if_neg (by simp [hl])]
  exact ⟨out, a1, a2, a3, b3⟩
omit [Glob] in
theorem rem_set {ord l1 l2 : List Nat} {listed : Array Bool} {i : Nat} (hnd : (rem ord listed).Nodup) (hsplit : rem ord listed = l1 ++ i :: l2) (hil : i < listed.size) : rem ord (listed.setIfInBounds i true) = l1 ++ l2 := by
  rw [hsplit] at hnd
  have hi1 : i ∉ l1 := fun hm => (List.nodup_append.1 hnd).2.2 i hm i (by simp) rfl
  have hi2 : i ∉ l2 := by
    have := (List.nodup_append.1 hnd).2.1
    exact (List.nodup_cons.1 this).1
  have e3 : rem ord (listed.setIfInBounds i true) = (rem ord listed).filter (fun j => j != i) := by
    unfold rem
    rw [List.filter_filter]
    refine List.filter_congr fun j hj => ?_
    by_cases hji : j = i
    · subst hji; simp [Array.getD, hil]
    · rw [getD_set_ne true (Ne.symm hji)]; simp [hji]
  rw [e3, hsplit, List.filter_append, List.filter_cons]
  have f1 : l1.filter (fun j => j != i) = l1 := List.filter_eq_self.2 fun j hj => by simp; rintro rfl; exact hi1 hj
  have f2 : l2.filter (fun j => j != i) = l2 := List.filter_eq_self.2 fun j hj => by simp; rintro rfl; exact hi2 hj
  rw [f1, f2]; simp
omit [Glob] in
theorem closed_set {listed : Array Bool} (hc : Closed ops listed) {i : Nat} {o : Oper} (ho : ops[i]? = some o) (hall : ∀ e ∈ o.after, Region.binds .any e = true → listed.getD e.on false = true) : Closed ops (listed.setIfInBounds i true) := by
  intro b ob hob hlb e he hb
  by_cases hbi : b = i
  · subst hbi
    rw [ho] at hob; injection hob with hob; subst hob
    exact getD_set_true (hall e he hb)
  · rw [getD_set_ne false (Ne.symm hbi)] at hlb
    exact getD_set_true (hc b ob hob hlb e he hb)
def Rl (ops : Array Oper) (ann : Nat → Ann) (pre : Nat → List Nat) (a b : Nat) : Prop := a ∈ pre b ∨ ((ann a).loud = false ∧ ∀ oa ob, ops[a]? = some oa → ops[b]? = some ob → Apart oa.dst ob.dst (ann a) (ann b))
theorem front_of {ann ann' : Nat → Ann} {pre : Nat → List Nat} {ord l1 l2 : List Nat} {listed : Array Bool} (hs : Sched ops ann' ord pre) (hc : Closed ops listed) (hsz : listed.size = ops.size) {i : Nat} {o : Oper} (ho : ops[i]? = some o) (hall : ∀ e ∈ o.after, Region.binds .any e = true → listed.getD e.on false = true)
    (hsplit : rem ord listed = l1 ++ i :: l2) (hp : ∀ x ∈ l1, Rl ops ann pre x i) : ∀ x ∈ l1, (ann x).loud = false ∧ ∀ oa ob, ops[x]? = some oa → ops[i]? = some ob → Apart oa.dst ob.dst (ann x) (ann i) := by
  intro x hx
  refine (hp x hx).resolve_left fun h => ?_
  have hx' : x ∈ rem ord listed := by rw [hsplit]; simp [hx]
  have h2 := anc_listed hs hc i o ho hall x h
  have h3 := (List.mem_filter.1 hx').2
  have h4 : x < listed.size := by rw [hsz]; exact hs.bound x (List.mem_filter.1 hx').1
  simp [Array.getD, h4] at h2 h3
  rw [h2] at h3; cases h3
omit [Glob] in
theorem pw_at {R : Nat → Nat → Prop} {l1 l2 : List Nat} {i : Nat} (h : (l1 ++ i :: l2).Pairwise R) : ∀ x ∈ l1, R x i := fun x hx => (List.pairwise_append.1 h).2.2 x hx i (by simp)
theorem draw_core2 {ann ann1 ann2 : Nat → Ann} {ord1 ord2 : List Nat} {pre : Nat → List Nat} {a b : Nat} (hab : a ≠ b) (hs1 : Sched ops ann1 ord1 pre) (hs2 : Sched ops ann2 ord2 pre) (hd : ∀ o ∈ ops.toList, dstOk N o.dst = true)
    (he1 : ∀ j, j ≠ a → ann1 j = ann j) (he2 : ∀ j, j ≠ b → ann2 j = ann j) (hna : (ann a).nm = []) (hnb : (ann b).nm = [])
    (hna1 : (ann1 a).nm = []) (hnb2 : (ann2 b).nm = [])
    (p1 : ∀ x i, x ≠ b ∨ i ≠ a → x ≠ a ∨ i ≠ b → ∀ l1 l2, (∃ l, l.Sublist ord1 ∧ l = l1 ++ i :: l2) → x ∈ l1 → Rl ops ann pre x i)
    (p2 : ∀ x i, x ≠ b ∨ i ≠ a → x ≠ a ∨ i ≠ b → ∀ l1 l2, (∃ l, l.Sublist ord2 ∧ l = l1 ++ i :: l2) → x ∈ l1 → Rl ops ann pre x i)
    (o1 : ∀ l1 l2, (∃ l, l.Sublist ord1 ∧ l = l1 ++ a :: l2) → b ∉ l1) (o2 : ∀ l1 l2, (∃ l, l.Sublist ord2 ∧ l = l1 ++ b :: l2) → a ∉ l1)
    (hq : ∀ i ∈ ord1, i ≠ a → i ≠ b → (ann i).loud = true → a ∈ pre i ∨ b ∈ pre i) (ha0 : a < ops.size) (hb0 : b < ops.size) {Q : ExitA → St → Prop} : ∀ (fuel : Nat) (listed : Array Bool) (st : St) (g0 : Gh) (w0 : World) (g : Gh) (w : World) (act : Act),
    listed.size = ops.size → Closed ops listed → listed.getD a false = false → listed.getD b false = false → (rem ord1 listed).length ≤ fuel → (rem ord2 listed).length ≤ fuel →
    CR P ops ann (rem ord1 listed) st.fs (fun fs => ∀ st', st'.fs = fs → Q .normal st') → CR P ops ann (rem ord2 listed) st.fs (fun fs => ∀ st', st'.fs = fs → Q .normal st') →
    st.σ.inf' → (∀ j ∈ rem ord1 listed, ∀ n ∈ (ann j).nm, st.σ.fr n) → g0.le g → Frame w0 w → RA P g N st act → Inv P g st.σ w →
    wpAnyIn (Fe r) 0 P .any ops (post P N g0 w0 Q) fuel listed act w := by
  intro fuel
  induction fuel with
  | zero =>
    intro listed st g0 w0 g w act hsz hc hla hlb hl1 hl2 hcr1 hcr2 hinf hnf hg hf ha hi
    exfalso
    have hr := List.eq_nil_of_length_eq_zero (Nat.le_zero.1 hl1)
    have : a ∈ rem ord1 listed := List.mem_filter.2 ⟨hs1.all a ha0, by
      have h4 : a < listed.size := by omega
      simp [Array.getD, h4] at hla ⊢; exact hla⟩
    rw [hr] at this; simp at this
  | succ fuel ih =>
    intro listed st g0 w0 g w act hsz hc hla hlb hl1 hl2 hcr1 hcr2 hinf hnf hg hf ha hi
    refine ⟨fun hnr => ?_, fun i hir => ?_⟩
    ·
      exfalso
      have key : ∀ n j, j ≤ n → j ∈ rem ord1 listed → False := by
        intro n
        induction n with
        | zero =>
          intro j hj hm
          obtain ⟨hmo, hml⟩ := List.mem_filter.1 hm
          have hlt := hs1.bound j hmo
          have : j ∈ Region.ready .any ops listed := mem_ready.2 ⟨by simpa using hml, ops[j], Array.getElem?_eq_getElem hlt, fun e he hb => by
            have := hs1.edges j _ (Array.getElem?_eq_getElem hlt) e he hb
            omega⟩
          rw [hnr] at this; simp at this
        | succ n ihn =>
          intro j hj hm
          obtain ⟨hmo, hml⟩ := List.mem_filter.1 hm
          have hlt := hs1.bound j hmo
          have : j ∈ Region.ready .any ops listed := mem_ready.2 ⟨by simpa using hml, ops[j], Array.getElem?_eq_getElem hlt, fun e he hb => by
            have h1 := hs1.edges j _ (Array.getElem?_eq_getElem hlt) e he hb
            have h2 : e.on ∉ rem ord1 listed := fun hm' => ihn e.on (by omega) hm'
            have h3 : listed.getD e.on true = true := by
              cases hle : listed.getD e.on true with
              | true => rfl
              | false => exact absurd (List.mem_filter.2 ⟨hs1.all e.on (by omega), by rw [hle]; rfl⟩) h2
            have h4 : e.on < listed.size := by omega
            simpa [Array.getD, h4] using h3⟩
          rw [hnr] at this; simp at this
      have : a ∈ rem ord1 listed := List.mem_filter.2 ⟨hs1.all a ha0, by
        have h4 : a < listed.size := by omega
        simp [Array.getD, h4] at hla ⊢; exact hla⟩
      exact key a a (Nat.le_refl _) this
    · obtain ⟨h1, o, ho, hall⟩ := mem_ready.1 hir
      have hlt := (Array.getElem?_eq_some_iff.1 ho).1
      have hil : i < listed.size := by omega
      have hmem1 : i ∈ rem ord1 listed := List.mem_filter.2 ⟨hs1.all i hlt, by rw [h1]; rfl⟩
      have hmem2 : i ∈ rem ord2 listed := List.mem_filter.2 ⟨hs2.all i hlt, by rw [h1]; rfl⟩
      obtain ⟨l1, l2, hsp1⟩ := List.append_of_mem hmem1
      obtain ⟨m1, m2, hsp2⟩ := List.append_of_mem hmem2
      have hnd1 : (rem ord1 listed).Nodup := hs1.nodup.filter _
      have hnd2 : (rem ord2 listed).Nodup := hs2.nodup.filter _
      have hr1 := rem_set hnd1 hsp1 hil
      have hr2 := rem_set hnd2 hsp2 hil
      have sub1 : ∃ l, l.Sublist ord1 ∧ l = l1 ++ i :: l2 := ⟨_, List.filter_sublist, hsp1⟩
      have sub2 : ∃ l, l.Sublist ord2 ∧ l = m1 ++ i :: m2 := ⟨_, List.filter_sublist, hsp2⟩
      have hi1 : i ∉ l1 := fun hm => by rw [hsp1] at hnd1; exact (List.nodup_append.1 hnd1).2.2 i hm i (by simp) rfl
      have hi2 : i ∉ l2 := fun hm => by rw [hsp1] at hnd1; exact (List.nodup_cons.1 (List.nodup_append.1 hnd1).2.1).1 hm
      have hj1 : i ∉ m1 := fun hm => by rw [hsp2] at hnd2; exact (List.nodup_append.1 hnd2).2.2 i hm i (by simp) rfl
      have hj2 : i ∉ m2 := fun hm => by rw [hsp2] at hnd2; exact (List.nodup_cons.1 (List.nodup_append.1 hnd2).2.1).1 hm
      have hmm : ∀ j, j ∈ m1 ++ m2 → j ∈ l1 ++ l2 := by
        intro j hj
        have hji : j ≠ i := by rintro rfl; simp at hj; exact hj.elim hj1 hj2
        have : j ∈ rem ord2 listed := by rw [hsp2]; simp at hj ⊢; rcases hj with h | h <;> simp [h]
        obtain ⟨g1, g2⟩ := List.mem_filter.1 this
        have : j ∈ rem ord1 listed := List.mem_filter.2 ⟨hs1.all j (hs2.bound j g1), g2⟩
        rw [hsp1] at this
        simp [hji] at this ⊢; exact this
      have hmem1' : ∀ j, j ∈ l1 ++ l2 → j ∈ rem ord1 listed := by intro j hj; rw [hsp1]; simp at hj ⊢; rcases hj with h | h <;> simp [h]
      have hstep : ∀ (l : List Nat) (Q' : FS → Prop), (ann i).nm.Nodup → CR P ops ann (i :: l) st.fs Q' → StepA P r N ops i st (fun st' => (∃ o out, ops[i]? = some o ∧ okOut (ann i) out ∧ st' = { st with env := put st.env o.dst out.v, σ := st.σ.after out.u out.nw }) ∧ CR P ops ann l st'.fs Q') :=
        fun l Q' hn h => CR_step hd hinf hn (hnf i hmem1) h
      have hfree : ∀ out : Out, okOut (ann i) out → (∀ j ∈ l1 ++ l2, ∀ n ∈ (ann i).nm, n ∉ (ann j).nm) → ∀ j ∈ l1 ++ l2, ∀ n ∈ (ann j).nm, (st.σ.after out.u out.nw).fr n := by
        intro out e2 hdis j hj n hn
        refine ⟨hnf j (hmem1' j hj) n hn, ?_⟩
        cases hlk : lk n out.nw with
        | none => rfl
        | some x => exact absurd hn (hdis j hj n (e2.2 n x hlk))
      by_cases hia : i = a
      · subst hia
        have hb1 : b ∉ l1 := o1 l1 l2 sub1
        have hfront := front_of (ann := ann) hs1 hc hsz ho hall hsp1 fun x hx => p1 x i (.inl (by rintro rfl; exact hb1 hx)) (.inr hab) l1 l2 sub1 hx
        rw [hsp1] at hcr1
        have hcr' := CR_front hfront hcr1
        refine hstep (l1 ++ l2) _ (by rw [hna]; exact List.nodup_nil) hcr' g w act ha hi _ _ ?_
        rintro g' st' a' w' k1 k2 k3 k4 ⟨⟨o', out, e1, e2, rfl⟩, k6⟩
        have hno : ∀ j ∈ l1 ++ l2, j ≠ i := by rintro j hj rfl; simp at hj; exact hj.elim hi1 hi2
        refine draw_core hs1 hd fuel (listed.setIfInBounds i true) _ g0 w0 g' w' a' (by simpa using hsz) (closed_set hc ho hall) ?_ ?_ (inf_after hinf _ _) ?_ (hg.trans k1) (hf.trans k4) k2 k3
        · rw [hr1]; rw [hsp1] at hl1; simp at hl1 ⊢; omega
        · rw [hr1]; exact CR_ann (fun j hj => he1 j (hno j hj)) k6
        · rw [hr1]
          intro j hj n hn
          rw [he1 j (hno j hj)] at hn
          exact hfree out e2 (fun j hj n hn => by rw [hna] at hn; simp at hn) j hj n hn
      by_cases hib : i = b
      · subst hib
        have hb1 : a ∉ m1 := o2 m1 m2 sub2
        have hfront := front_of (ann := ann) hs2 hc hsz ho hall hsp2 fun x hx => p2 x i (.inr hia) (.inl (by rintro rfl; exact hb1 hx)) m1 m2 sub2 hx
        rw [hsp2] at hcr2
        have hcr' := CR_front hfront hcr2
        refine hstep (m1 ++ m2) _ (by rw [hnb]; exact List.nodup_nil) hcr' g w act ha hi _ _ ?_
        rintro g' st' a' w' k1 k2 k3 k4 ⟨⟨o', out, e1, e2, rfl⟩, k6⟩
        have hno : ∀ j ∈ m1 ++ m2, j ≠ i := by rintro j hj rfl; simp at hj; exact hj.elim hj1 hj2
        refine draw_core hs2 hd fuel (listed.setIfInBounds i true) _ g0 w0 g' w' a' (by simpa using hsz) (closed_set hc ho hall) ?_ ?_ (inf_after hinf _ _) ?_ (hg.trans k1) (hf.trans k4) k2 k3
        · rw [hr2]; rw [hsp2] at hl2; simp at hl2 ⊢; omega
        · rw [hr2]; exact CR_ann (fun j hj => he2 j (hno j hj)) k6
        · rw [hr2]
          intro j hj n hn
          rw [he2 j (hno j hj)] at hn
          exact hfree out e2 (fun j hj n hn => by rw [hnb] at hn; simp at hn) j (hmm j hj) n hn
      · have hloud : (ann i).loud = false := by
          cases hl : (ann i).loud with
          | false => rfl
          | true =>
            exfalso
            have hsa : a < listed.size := by omega
            have hsb : b < listed.size := by omega
            rcases hq i (List.mem_filter.1 hmem1).1 hia hib hl with h | h
            · have := anc_listed hs1 hc i o ho hall a h
              rw [hla] at this; cases this
            · have := anc_listed hs1 hc i o ho hall b h
              rw [hlb] at this; cases this
        have hfront1 := front_of (ann := ann) hs1 hc hsz ho hall hsp1 fun x hx => p1 x i (.inr hia) (.inr hib) l1 l2 sub1 hx
        have hfront2 := front_of (ann := ann) hs2 hc hsz ho hall hsp2 fun x hx => p2 x i (.inr hia) (.inr hib) m1 m2 sub2 hx
        rw [hsp1] at hcr1
        rw [hsp2] at hcr2
        have hcr' := CR_both hloud (CR_front hfront1 hcr1) (CR_front hfront2 hcr2)
        refine hstep [] _ (by rw [← he1 i hia]; exact hs1.nmd i (List.mem_filter.1 hmem1).1) hcr' g w act ha hi _ _ ?_
        rintro g' st' a' w' k1 k2 k3 k4 ⟨⟨o', out, e1, e2, rfl⟩, k6, k7⟩
        refine ih (listed.setIfInBounds i true) _ g0 w0 g' w' a' (by simpa using hsz) (closed_set hc ho hall) ?_ ?_ ?_ ?_ (by rw [hr1]; exact k6) (by rw [hr2]; exact k7) (inf_after hinf _ _) ?_ (hg.trans k1) (hf.trans k4) k2 k3
        · rw [getD_set_ne false hia]; exact hla
        · rw [getD_set_ne false hib]; exact hlb
        · rw [hr1]; rw [hsp1] at hl1; simp at hl1 ⊢; omega
        · rw [hr2]; rw [hsp2] at hl2; simp at hl2 ⊢; omega
        · rw [hr1]
          refine hfree out e2 fun j hj n hn hn' => ?_
          by_cases hja : j = a
          · subst hja; rw [hna] at hn'; simp at hn'
          · have hji : i ≠ j := by rintro rfl; simp at hj; exact hj.elim hi1 hi2
            rw [← he1 i hia] at hn
            rw [← he1 j hja] at hn'
            exact hs1.nms i j (List.mem_filter.1 hmem1).1 (List.mem_filter.1 (hmem1' j hj)).1 hji n hn hn'
def rlB (ops : Array Oper) (an : Nat → AnI) (pre : Nat → List Nat) (a b : Nat) : Bool := (pre b).contains a || (!(an a).loud && apartB ((ops[a]?).bind (·.dst)) ((ops[b]?).bind (·.dst)) (an a) (an b))
def pairsX (ops : Array Oper) (an : Nat → AnI) (pre : Nat → List Nat) (a b : Nat) : List Nat → Bool
  | [] => true
  | x :: r => r.all (fun i => !(x == b && i == a) && ((x == a && i == b) || rlB ops an pre x i)) && pairsX ops an pre a b r
omit [Glob] in
theorem pairsX_spec {tbl : List Nat} (h : tbl.Nodup) {an : Nat → AnI} {pre : Nat → List Nat} {a b : Nat} : {l : List Nat} → (∀ j ∈ l, inB tbl.length (an j) = true) → pairsX ops an pre a b l = true →
    l.Pairwise fun x i => ¬ (x = b ∧ i = a) ∧ ((x = a ∧ i = b) ∨ Rl ops (fun j => (an j).ann tbl) pre x i)
  | [], _, _ => List.Pairwise.nil
  | x :: r, hi, hc => by
    simp only [pairsX, Bool.and_eq_true, List.all_eq_true] at hc
    refine List.pairwise_cons.2 ⟨fun y hy => ?_, pairsX_spec h (fun j hj => hi j (by simp [hj])) hc.2⟩
    obtain ⟨h1, h2⟩ := hc.1 y hy
    refine ⟨by rintro ⟨rfl, rfl⟩; simp at h1, ?_⟩
    simp only [Bool.or_eq_true, Bool.and_eq_true, beq_iff_eq] at h2
    rcases h2 with h2 | h2
    · exact .inl h2
    · refine .inr ?_
      simp only [rlB, Bool.or_eq_true, List.contains_eq_mem, decide_eq_true_eq, Bool.and_eq_true, Bool.not_eq_true'] at h2
      rcases h2 with h2 | ⟨h2, h3⟩
      · exact .inl h2
      · refine .inr ⟨h2, fun oa ob ha hb => ?_⟩
        rw [ha, hb] at h3
        exact apartB_spec h (hi x (by simp)) (hi y (by simp [hy])) h3
def AnI.clear (a : AnI) : AnI := { a with ro := [], wo := [], loud := false }
def checkD2 (N m : Nat) (ops : Array Oper) (an : List AnI) (ord1 ord2 : List Nat) (pre : List (List Nat)) (a b : Nat) : Bool :=
  checkD N m ops (an.set a (an.getD a default).clear) ord1 pre && checkD N m ops (an.set b (an.getD b default).clear) ord2 pre &&
  pairsX ops (fun j => an.getD j default) (fun j => pre.getD j []) a b ord1 && pairsX ops (fun j => an.getD j default) (fun j => pre.getD j []) b a ord2 &&
  ord1.all (fun j => inB m (an.getD j default)) && ord2.all (fun j => inB m (an.getD j default)) &&
  ord1.all (fun i => i == a || i == b || !(an.getD i default).loud || (pre.getD i []).contains a || (pre.getD i []).contains b) &&
  (an.getD a default).nm.isEmpty && (an.getD b default).nm.isEmpty && decide (a ≠ b) && decide (a < ops.size) && decide (b < ops.size) && decide (an.length = ops.size)
theorem wpA_drawn2 (hm : P.follows .mixedOrders = true) {tbl : List Nat} (htbl : tbl.Nodup) {an : List AnI} {ord1 ord2 : List Nat} {pre : List (List Nat)} {a b : Nat} (hc : checkD2 N tbl.length ops an ord1 ord2 pre a b = true) {Q : ExitA → St → Prop} {id : Nat} {st : St} (hinf : st.σ.inf')
    (hnf : ∀ j ∈ ord1, ∀ n ∈ ((an.getD j default).ann tbl).nm, st.σ.fr n)
    (h1 : CR P ops (fun j => (an.getD j default).ann tbl) ord1 st.fs (fun fs => ∀ st', st'.fs = fs → Q .normal st')) (h2 : CR P ops (fun j => (an.getD j default).ann tbl) ord2 st.fs (fun fs => ∀ st', st'.fs = fs → Q .normal st')) : wpA P r N (.region id ops true) st Q := by
  simp only [checkD2, Bool.and_eq_true, decide_eq_true_eq, List.isEmpty_iff] at hc
  obtain ⟨⟨⟨⟨⟨⟨⟨⟨⟨⟨⟨⟨c1, c2⟩, c3⟩, c4⟩, c5⟩, c6⟩, c7⟩, c8⟩, c9⟩, hab⟩, ha0⟩, hb0⟩, hlen⟩ := hc
  obtain ⟨hs1, hd⟩ := checkD_spec htbl c1
  obtain ⟨hs2, _⟩ := checkD_spec htbl c2
  have q1 := pairsX_spec (ops := ops) htbl (fun j hj => List.all_eq_true.1 c5 j hj) c3
  have q2 := pairsX_spec (ops := ops) htbl (fun j hj => List.all_eq_true.1 c6 j hj) c4
  have hset : ∀ (c j : Nat), j ≠ c → (an.set c (an.getD c default).clear).getD j default = an.getD j default := by
    intro c j hj
    simp only [List.getD, List.getElem?_set]
    rw [if_neg (Ne.symm hj)]
  have hsame : ∀ c, c < ops.size → (an.set c (an.getD c default).clear).getD c default = (an.getD c default).clear := by
    intro c hcl
    simp only [List.getD, List.getElem?_set]
    simp [hlen, hcl]
  intro g w act ha hi
  refine wpIn_region_any hm ?_
  have hrem : ∀ ord : List Nat, (∀ j ∈ ord, j < ops.size) → rem ord (Array.replicate ops.size false) = ord := by
    intro ord hb
    refine List.filter_eq_self.2 fun j hj => ?_
    have := hb j hj
    simp [Array.getD, this]
  have hr1 := hrem ord1 hs1.bound
  have hr2 := hrem ord2 hs2.bound
  have hi2 : Inv P g st.σ { w with drawn := w.drawn + 1 } := hi.heapEq rfl
  refine draw_core2 (ann := fun j => (an.getD j default).ann tbl) hab hs1 hs2 hd (fun j hj => by rw [hset a j hj]) (fun j hj => by rw [hset b j hj]) (by show (an.getD a default).nm.map _ = []; rw [c8]; rfl) (by show (an.getD b default).nm.map _ = []; rw [c9]; rfl) (by show ((an.set a (an.getD a default).clear).getD a default).nm.map _ = []; rw [hsame a ha0]; show (an.getD a default).nm.map _ = []; rw [c8]; rfl) (by show ((an.set b (an.getD b default).clear).getD b default).nm.map _ = []; rw [hsame b hb0]; show (an.getD b default).nm.map _ = []; rw [c9]; rfl)
    ?_ ?_ ?_ ?_ ?_ ha0 hb0 ops.size (Array.replicate ops.size false) st g w g _ act (by simp) ?_ (by simp [Array.getD, ha0]) (by simp [Array.getD, hb0]) ?_ ?_ (by rw [hr1]; exact h1) (by rw [hr2]; exact h2) hinf (by rw [hr1]; exact hnf) (.refl g) ⟨rfl, rfl, rfl, Nat.le_refl _⟩ ha hi2
  · rintro x i hx1 hx2 l1 l2 ⟨l, hsub, rfl⟩ hx
    have := pw_at (q1.sublist hsub) x hx
    refine this.2.resolve_left ?_
    rintro ⟨rfl, rfl⟩
    rcases hx2 with h | h <;> exact h rfl
  · rintro x i hx1 hx2 l1 l2 ⟨l, hsub, rfl⟩ hx
    have := pw_at (q2.sublist hsub) x hx
    refine this.2.resolve_left ?_
    rintro ⟨rfl, rfl⟩
    rcases hx1 with h | h <;> exact h rfl
  · rintro l1 l2 ⟨l, hsub, rfl⟩ hb
    exact (pw_at (q1.sublist hsub) b hb).1 ⟨rfl, rfl⟩
  · rintro l1 l2 ⟨l, hsub, rfl⟩ hb
    exact (pw_at (q2.sublist hsub) a hb).1 ⟨rfl, rfl⟩
  · intro i hio hia hib hl
    have := List.all_eq_true.1 c7 i hio
    have hl' : (an.getD i default).loud = true := hl
    simp only [hl', hia, hib, Bool.or_eq_true, beq_iff_eq, false_or, Bool.not_true, Bool.false_eq_true, List.contains_eq_mem, decide_eq_true_eq] at this
    exact this
  · intro b' o ho hl
    have hlt := (Array.getElem?_eq_some_iff.1 ho).1
    simp [Array.getD, hlt] at hl
  · rw [hr1]
    have hsub : ord1 ⊆ List.range ops.size := fun j hj => List.mem_range.2 (hs1.bound j hj)
    have := hs1.nodup.length_le_of_subset hsub
    simpa using this
  · rw [hr2]
    have hsub : ord2 ⊆ List.range ops.size := fun j hj => List.mem_range.2 (hs2.bound j hj)
    have := hs2.nodup.length_le_of_subset hsub
    simpa using this
theorem dr2_ (hm : P.follows .mixedOrders = true) (ks : List Nat) (tbl : List Nat) (an : List AnI) (ord1 ord2 : List Nat) (pre : List (List Nat)) (a b : Nat) {id : Nat} {s : MS} {Q : ExitA → MS → Prop} {ops : List Oper} (m : Nat)
    (h1 : ∀ (O : Array Oper) (A : Array AnI) (K : MS → Prop), AtL O 0 ops → AtL A 0 an → (∀ s, keepQ ks Q .normal s → K s) → runD P O tbl A ord1 s K)
    (h2 : ∀ (O : Array Oper) (A : Array AnI) (K : MS → Prop), AtL O 0 ops → AtL A 0 an → (∀ s, keepQ ks Q .normal s → K s) → runD P O tbl A ord2 s K)
    (hc : checkD2 N m ops.toArray an ord1 ord2 pre a b = true := by decide +kernel) (hnm : an.all (fun a => a.nm.isEmpty) = true := by decide) (hlen : tbl.length = m := by exact rfl) (htbl : tbl.Nodup := by simp) :
    wpM P r N (.region id ops.toArray true) s Q := by
  refine wpM_keep ks ?_
  subst hlen
  have hann : (fun j => (an.getD j default).ann tbl) = annOf tbl an.toArray := by
    funext j
    simp [annOf, List.getD, Array.getD_eq_getD_getElem?]
  have hno : ∀ j, ((an.getD j default).ann tbl).nm = [] := by
    intro j
    by_cases hj : j < an.length
    · have := List.all_eq_true.1 hnm _ (List.getElem_mem hj)
      simp only [List.isEmpty_iff] at this
      simp [AnI.ann, List.getD, hj, this]
    · simp [AnI.ann, List.getD, hj, default, instInhabitedAnI.default]
  have hw : WF s.st.fs s := ⟨fun t p e => e, fun i o e => e, fun i hi => hi, rfl⟩
  have run : ∀ ord, (∀ (O : Array Oper) (A : Array AnI) (K : MS → Prop), AtL O 0 ops → AtL A 0 an → (∀ s, keepQ ks Q .normal s → K s) → runD P O tbl A ord s K) →
      CR P ops.toArray (fun j => (an.getD j default).ann tbl) ord s.st.fs (fun fs => ∀ st', st'.fs = fs → Wk st' (keepQ ks Q .normal)) := by
    intro ord h
    have h := h ops.toArray an.toArray _ (atL_self ops) (atL_self an) (fun s h => h)
    have := runD_CR ord s _ (fun j hj n hn => by rw [← hann] at hn; rw [hno j] at hn; simp at hn) h hw
    rw [hann]
    refine wpM_drawn.CR_mono this ?_
    rintro fs ⟨s', w', hk⟩ st' rfl
    exact ⟨s', ⟨fun t p e => .inr (w'.e t p e), w'.f, w'.fr, w'.df⟩, hk⟩
  exact wpA_drawn2 hm htbl hc ⟨s.M, fun i hi => hi⟩ (fun j hj n hn => by rw [hno j] at hn; simp at hn) (run ord1 h1) (run ord2 h2)
end
end Sg
namespace Sg
open Go
set_option linter.unusedSectionVars false
set_option linter.unusedVariables false
variable [Glob]
def sbp (y : Nat) (cs : List PV) : PV → PV
  | .ptr id off => if id = y ∧ off = 0 then .vptr cs else .ptr id off
  | p => p
def MS.fzp (s : MS) (y : Nat) (cs : List PV) : MS := { s with env := mapE (sbp y cs) s.env, l := dell y s.l }
section
variable {P : Program} {r : Option Nat} {N : Nat}
theorem fzp_ok {s : MS} {y : Nat} {T : TypeId} {cs : List PV} (hy : lk y s.l = some (.cells T cs)) (hB : s.B ≤ y) (hp : PV.pureL cs = true) (hpos : 0 < cs.length) {g : Gh} {w : World} {a : Act} (ha : RA P g N s.st a) (hi : Inv P g s.σ w) :
    ∃ g', g.le g' ∧ RA P g' N (s.fzp y cs).st a ∧ Inv P g' (s.fzp y cs).σ w := by
  classical
  have hfy : s.f y = some (.cells T cs) := by simp [MS.f, hy]
  obtain ⟨b, arr, hio, hh, hcs, hrr⟩ := hi.obj y _ hfy
  have hh := hh.resolve_left (by omega)
  let g' : Gh := { io := g.io, H := fun k => if k = b then w.heap[b]? else g.H k }
  have hnone : g.H b = none := hi.dis y _ _ hfy hio (by show 0 < arr.size; omega)
  have hle : g.le g' := by
    refine ⟨fun _ _ h => h, fun k o h => ?_⟩
    show (if k = b then w.heap[b]? else g.H k) = some o
    rw [if_neg]
    · exact h
    · rintro rfl; rw [hnone] at h; cases h
  have hHb : g'.H b = some (.cells arr T (0, 0)) := by show (if b = b then w.heap[b]? else _) = _; rw [if_pos rfl, hh]
  have hR : ∀ p v, R P g p v → R P g' (sbp y cs p) v := by
    intro p v h
    cases p with
    | ptr id off =>
      simp only [sbp]
      split
      · rename_i hc
        obtain ⟨rfl, rfl⟩ := hc
        cases h with
        | ptr _ _ b' N' T' h' =>
          rw [hio] at h'
          injection h' with h'
          injection h' with h1 h2
          subst h1
          refine .vptr cs b 0 arr T (0, 0) hHb (by omega) hp fun j hj => ?_
          rw [Nat.zero_add]
          exact (hrr j hj).1.mono hle
      · exact h.mono hle
    | _ => exact h.mono hle
  have hf : ∀ i o, (s.fzp y cs).f i = some o → i ≠ y ∧ s.f i = some o := by
    intro i o h
    have h : (match lk i (dell y s.l) with | some o => some o | none => if i < s.B then s.f0 i else none) = some o := h
    rw [lk_dell] at h
    by_cases hiy : y = i
    · subst hiy
      rw [if_pos rfl] at h
      simp only at h
      rw [if_neg (by omega)] at h; cases h
    · rw [if_neg hiy] at h
      exact ⟨fun e => hiy e.symm, h⟩
  refine ⟨g', hle, ⟨⟨ha.env.1, fun t p h => ?_, ha.env.2.2.mono hle⟩, ha.df.mono hle⟩, ⟨fun k o h => ?_, fun i o h => ?_, fun i j o1 o2 e1 e2 h1 h2 => ?_, fun i o e1 h1 k1 p1 => ?_, hi.fr, hi.gl.mono hle⟩⟩
  · have h : get (mapE (sbp y cs) s.env) t = some p := h
    rw [get_mapE] at h
    cases hq : get s.env t with
    | none => rw [hq] at h; cases h
    | some q =>
      rw [hq] at h
      injection h with h
      subst h
      exact hR _ _ (ha.env.2.1 t q hq)
  · have h : (if k = b then w.heap[b]? else g.H k) = some o := h
    split at h
    · rename_i e; subst e; exact h
    · exact hi.hH k o h
  · obtain ⟨_, h2⟩ := hf i o h
    exact (hi.obj i o h2).mono hle (fun _ _ => rfl)
  · obtain ⟨_, k1⟩ := hf i o1 h1
    obtain ⟨_, k2⟩ := hf j o2 h2
    exact hi.inj i j o1 o2 e1 e2 k1 k2
  · obtain ⟨hne, h2⟩ := hf i o h1
    show (if e1.1 = b then w.heap[b]? else g.H e1.1) = none
    rw [if_neg]
    · exact hi.dis i o e1 h2 k1 p1
    · intro e
      exact hne (hi.inj i y _ _ _ _ h2 hfy k1 hio p1 (by show 0 < arr.size; omega) e)
theorem wpM_fzp {c : Code} {s : MS} {Q : ExitA → MS → Prop} (y : Nat) (T : TypeId) (cs : List PV) (hy : lk y s.l = some (.cells T cs)) (hB : s.B ≤ y) (hp : PV.pureL cs = true) (hpos : 0 < cs.length) (h : wpM P r N c (s.fzp y cs) Q) : wpM P r N c s Q :=
  wpA_turn (fun _ _ _ ha hi => fzp_ok hy hB hp hpos ha hi) h
end
attribute [go_sem] MS.fzp
omit [Glob] in
@[go_sem] theorem sbp_ptr (y : Nat) (cs : List PV) (id off : Nat) : sbp y cs (.ptr id off) = if id = y ∧ off = 0 then .vptr cs else .ptr id off := rfl
omit [Glob] in
@[go_sem] theorem sbp_int (y : Nat) (cs : List PV) (k : IntKind) (n : Int) : sbp y cs (.int k n) = .int k n := rfl
omit [Glob] in
@[go_sem] theorem sbp_bool (y : Nat) (cs : List PV) (b : Bool) : sbp y cs (.bool b) = .bool b := rfl
omit [Glob] in
@[go_sem] theorem sbp_fn (y : Nat) (cs : List PV) (f : Fn) (a c : List PV) : sbp y cs (.fn f a c) = .fn f a c := rfl
omit [Glob] in
@[go_sem] theorem sbp_nilfn (y : Nat) (cs : List PV) : sbp y cs .nilfn = .nilfn := rfl
omit [Glob] in
@[go_sem] theorem sbp_agg (y : Nat) (cs l : List PV) : sbp y cs (.agg l) = .agg l := rfl
end Sg
namespace Sg
open Go
set_option linter.unusedSectionVars false
variable [Glob]
section
variable {P : Program} {r : Option Nat} {N : Nat}
theorem OpA_turn {o : Oper} {st st' : St} {K : St → Prop} {X : PV → St → Prop} (h : ∀ g w a, RA P g N st a → Inv P g st.σ w → ∃ g', g.le g' ∧ RA P g' N st' a ∧ Inv P g' st'.σ w) (ho : OpA P r N o st' K X) : OpA P r N o st K X := by
  intro g w a ha hi next Q' h1 h2
  obtain ⟨g', hg, ha', hi'⟩ := h g w a ha hi
  exact ho g' w a ha' hi' next Q' (fun g2 st2 a2 w2 hle => h1 g2 st2 a2 w2 (hg.trans hle)) (fun g2 st2 a2 w2 v u hle => h2 g2 st2 a2 w2 v u (hg.trans hle))
theorem OpM_frz {o : Oper} {s : MS} {K : MS → Prop} {X : PV → MS → Prop} (fz : List Nat) (t : List (TypeId × Nat × Nat × Nat × List (List PV))) (hB : ∀ i ∈ fz, s.B ≤ i) (hr : ∀ x ∈ t, x.2.1 ∈ fz ∧ RowsOf P s.f x.1 x.2.1 x.2.2.1 x.2.2.2.1 x.2.2.2.2)
    (h : OpM P r N o (s.frz fz t) K X) : OpM P r N o s K X := OpA_turn (fun _ _ _ ha hi => frz_ok fz t hB hr ha hi) h
theorem OpM_le {o : Oper} {s : MS} {K : MS → Prop} {X : PV → MS → Prop} (e : Env) (l : List (Nat × AObj)) (h1 : leEnv s.env e) (h2 : leObjs s.l l) (h3 : keepB s.B s.f0 l s.l) (h : OpM P r N o { s with env := e, l := l } K X) : OpM P r N o s K X := by
  refine OpA_turn (st' := MS.st { s with env := e, l := l }) (fun g w a ha hi => ⟨g, .refl g, ⟨⟨ha.env.1, fun t q hq => ?_, ha.env.2.2⟩, ha.df⟩, ?_⟩) h
  · obtain ⟨p, hp, hl⟩ := leEnv_get h1 t q hq
    exact (ha.env.2.1 t p hp).le q hl
  · have hf : ∀ i o, (MS.f { s with env := e, l := l } i) = some o → ∃ o0, s.f i = some o0 ∧ leO o0 o := by
      intro i o h
      simp only [MS.f] at h ⊢
      cases hl : lk i l with
      | some o' =>
        rw [hl] at h; injection h with h; subst h
        obtain ⟨o0, h0, hle⟩ := leObjs_lk h2 i _ hl
        exact ⟨o0, by rw [h0], hle⟩
      | none =>
        rw [hl] at h
        simp only at h
        cases hs : lk i s.l with
        | some o2 =>
          rcases keepB_lk h3 i o2 hs hl with hB | hB
          · rw [if_neg (by omega)] at h; cases h
          · rw [hB] at h; split at h <;> cases h
        | none => exact ⟨o, h, leO_refl o⟩
    refine ⟨hi.hH, fun i o h => ?_, fun i j o o' e1 e2 a b => ?_, fun i o e1 a => ?_, hi.fr, hi.gl⟩
    · obtain ⟨o0, h0, hle⟩ := hf i o h
      have hob := hi.obj i o0 h0
      unfold leO at hle
      split at hle
      · rename_i T a T' b
        obtain ⟨rfl, hle⟩ := hle
        obtain ⟨bk, arr, k1, k2, k3, k4⟩ := hob
        have hlen := leL_len hle
        exact ⟨bk, arr, k1, k2, by omega, fun j hj => ⟨(k4 j (by omega)).1.le _ (leL_get hle j (by omega) hj), le_cell (leL_get hle j (by omega) hj) (k4 j (by omega)).2⟩⟩
      · subst hle; exact hob
    · obtain ⟨o1, h1, _⟩ := hf _ _ a
      obtain ⟨o2, h2, _⟩ := hf _ _ b
      exact hi.inj i j o1 o2 e1 e2 h1 h2
    · obtain ⟨o1, h1, _⟩ := hf _ _ a
      exact hi.dis i o1 e1 h1
theorem CallF.le1 {f : FuncId} {p q : PV} {l : List (Nat × AObj)} {k : Nat} {Ω : List Nat → COut → Prop} (h : CallF P f [q] l k Ω) (hp : p.le q) : CallF P f [p] l k Ω := by
  intro σ ns a b c d e g w vals x y
  refine h σ ns a b c d e g w vals ⟨x.1, fun j hj => ?_⟩ y
  match j, hj with
  | 0, hj => exact (x.2 0 hj).le _ hp
end
end Sg
namespace Sg
open Go
set_option linter.unusedSectionVars false
set_option linter.unusedVariables false
variable [Glob]
def Ann.more (a : Ann) (R W G : List Nat) : Ann := ⟨a.rd, a.ro ++ R, a.wo ++ W, a.nm ++ G, a.loud⟩
def fixA (c : Nat) (R W G : List Nat) (ann : Nat → Ann) (j : Nat) : Ann := if j = c then (ann j).more R W G else ann j
omit [Glob] in
theorem fixA_ne {c : Nat} {R W G : List Nat} {ann : Nat → Ann} {j : Nat} (h : j ≠ c) : fixA c R W G ann j = ann j := if_neg h
omit [Glob] in
theorem fixA_self {c : Nat} {R W G : List Nat} {ann : Nat → Ann} : fixA c R W G ann c = (ann c).more R W G := if_pos rfl
omit [Glob] in
theorem fixA_loud {c : Nat} {R W G : List Nat} {ann : Nat → Ann} (j : Nat) : (fixA c R W G ann j).loud = (ann j).loud := by
  unfold fixA; split <;> rfl
def farA (a : Ann) (i : Nat) : Prop := i ∉ a.ro ∧ i ∉ a.wo ∧ i ∉ a.nm
omit [Glob] in
theorem apart_fix {da db : Option Nat} {a b : Ann} {R W G : List Nat} (h : Apart da db a b) (hf : ∀ i, i ∈ R ∨ i ∈ W ∨ i ∈ G → farA a i) : Apart da db a (b.more R W G) := by
  refine ⟨h.ab, h.ba, h.d, fun i hi => ?_, fun i hi => ?_, fun i hi => ?_, fun i hi => ?_⟩
  · obtain ⟨h1, h2, h3⟩ := h.wa i hi
    refine ⟨fun hx => ?_, fun hx => ?_, fun hx => ?_⟩
    · rcases List.mem_append.1 hx with hx | hx
      · exact h1 hx
      · exact (hf i (.inl hx)).2.1 hi
    · rcases List.mem_append.1 hx with hx | hx
      · exact h2 hx
      · exact (hf i (.inr (.inl hx))).2.1 hi
    · rcases List.mem_append.1 hx with hx | hx
      · exact h3 hx
      · exact (hf i (.inr (.inr hx))).2.1 hi
  · rcases List.mem_append.1 hi with hi | hi
    · exact h.wb i hi
    · exact ⟨(hf i (.inr (.inl hi))).1, (hf i (.inr (.inl hi))).2.2⟩
  · obtain ⟨h1, h2⟩ := h.na i hi
    refine ⟨fun hx => ?_, fun hx => ?_⟩
    · rcases List.mem_append.1 hx with hx | hx
      · exact h1 hx
      · exact (hf i (.inl hx)).2.2 hi
    · rcases List.mem_append.1 hx with hx | hx
      · exact h2 hx
      · exact (hf i (.inr (.inr hx))).2.2 hi
  · rcases List.mem_append.1 hi with hi | hi
    · exact h.nb i hi
    · exact (hf i (.inr (.inr hi))).1
theorem sched_fix {ops : Array Oper} {ann : Nat → Ann} {ord : List Nat} {pre : Nat → List Nat} {c : Nat} {R W G : List Nat} (h : Sched ops ann ord pre) (hl : (ann c).loud = true) (hG : G.Nodup) (hf : ∀ j ∈ ord, ∀ i, i ∈ R ∨ i ∈ W ∨ i ∈ G → farA (ann j) i) : Sched ops (fixA c R W G ann) ord pre := by
  refine ⟨h.all, h.bound, h.nodup, h.anc, h.edges, ?_, fun a b ha hb hne n hn => ?_, fun a ha => ?_⟩
  · refine List.Pairwise.imp_of_mem (fun {a b} ha hb hp => ?_) h.pairs
    rcases hp with hp | ⟨hp1, hp2⟩
    · exact .inl hp
    · refine .inr ⟨by rw [fixA_loud]; exact hp1, fun oa ob hoa hob => ?_⟩
      have hac : a ≠ c := by rintro rfl; rw [hl] at hp1; cases hp1
      rw [fixA_ne hac]
      by_cases hbc : b = c
      · subst hbc
        rw [fixA_self]
        exact apart_fix (hp2 oa ob hoa hob) (hf a ha)
      · rw [fixA_ne hbc]; exact hp2 oa ob hoa hob
  · by_cases hac : a = c
    · subst hac
      rw [fixA_self] at hn
      rw [fixA_ne (Ne.symm hne)]
      rcases List.mem_append.1 hn with hn | hn
      · exact h.nms a b ha hb hne n hn
      · exact (hf b hb n (.inr (.inr hn))).2.2
    · rw [fixA_ne hac] at hn
      by_cases hbc : b = c
      · subst hbc
        rw [fixA_self]
        intro hx
        rcases List.mem_append.1 hx with hx | hx
        · exact h.nms a b ha hb hne n hn hx
        · exact (hf a ha n (.inr (.inr hx))).2.2 hn
      · rw [fixA_ne hbc]; exact h.nms a b ha hb hne n hn
  · by_cases hac : a = c
    · subst hac
      rw [fixA_self]
      exact List.nodup_append.2 ⟨h.nmd a ha, hG, fun x hx y hy e => by subst e; exact (hf a ha x (.inr (.inr hy))).2.2 hx⟩
    · rw [fixA_ne hac]; exact h.nmd a ha
section
variable {P : Program} {r : Option Nat} {N : Nat} {ops : Array Oper}
theorem CR_append {ann : Nat → Ann} {Q : FS → Prop} : {l1 l2 : List Nat} → {s : FS} → CR P ops ann l1 s (fun s' => CR P ops ann l2 s' Q) → CR P ops ann (l1 ++ l2) s Q
  | [], l2, s, h => h
  | j :: l1, l2, s, h => by
    simp only [List.cons_append, CR] at h ⊢
    obtain ⟨o, ho, h⟩ := h
    refine ⟨o, ho, ?_⟩
    split
    · rename_i hl
      rw [if_pos hl] at h
      rcases h with ⟨k1, k2, k3⟩ | ⟨k1, fn, args, lst, Ω, m1, m2, m3, m4⟩
      · exact .inl ⟨k1, k2, CR_append k3⟩
      · exact .inr ⟨k1, fn, args, lst, Ω, m1, m2, m3, fun out hout => ⟨(m4 out hout).1, (m4 out hout).2.1, CR_append (m4 out hout).2.2⟩⟩
    · rename_i hl
      rw [if_neg hl] at h
      obtain ⟨out, k1, k2, k3⟩ := h
      exact ⟨out, k1, k2, CR_append k3⟩
def MSub (s' s : MS) : Prop := s'.env = s.env ∧ (∀ i x, s'.f i = some x → s.f i = some x) ∧ s'.M = s.M ∧ s'.df = s.df
omit [Glob] in
theorem WF.sub {fs : FS} {s s' : MS} (h : WF fs s) (hs : MSub s' s) : WF fs s' := ⟨fun t p e => h.e t p (by rw [← hs.1]; exact e), fun i o e => h.f i o (hs.2.1 i o e), fun i hi => h.fr i (by rw [← hs.2.2.1]; exact hi), by rw [hs.2.2.2]; exact h.df⟩
def kG2 (P : Program) (ops : Array Oper) (tbl : List Nat) (R W G : List Nat) (s : MS) (K : MS → Prop) (o : Oper) (ai : AnI) : Prop :=
  (rdOk s.env ai.rd ∧ roOk s ((ai.ann tbl).ro ++ R)) ∧
    loudA P ops o ((ai.ann tbl).more R W G) (keepE s.env ai.rd) (resF s.f ((ai.ann tbl).ro ++ R)) fun out =>
      ((∀ i x, lk i out.u = some x → i ∈ (ai.ann tbl).wo ++ W) ∧ (∀ i x, lk i out.nw = some x → i ∈ (ai.ann tbl).nm ++ G)) ∧ ∃ s', MSub s' (s.out o.dst out s.M) ∧ okDel s.B s.f0 out.u ∧ K s'
def kG (P : Program) (ops : Array Oper) (tbl : List Nat) (an : Array AnI) (c : Nat) (R W G : List Nat) (s : MS) (K : MS → Prop) (o : Oper) : Prop := bindI an[c]? (kG2 P ops tbl R W G s K o)
def stepG (P : Program) (ops : Array Oper) (tbl : List Nat) (an : Array AnI) (c : Nat) (R W G : List Nat) (s : MS) (K : MS → Prop) : Prop := bindD ops[c]? (kG P ops tbl an c R W G s K)
def contG (P : Program) (ops : Array Oper) (tbl : List Nat) (an : Array AnI) (l : List Nat) (K : MS → Prop) (s : MS) : Prop := runD P ops tbl an l s K
theorem stepG_CR {tbl : List Nat} {an : Array AnI} {c : Nat} {R W G : List Nat} {K : MS → Prop} {s : MS} {fs : FS} {l2 : List Nat} (hl : (annOf tbl an c).loud = true) (hnm : ∀ n ∈ (annOf tbl an c).nm ++ G, n < s.M) (h : stepG P ops tbl an c R W G s K) (hw : WF fs s) {Q : FS → Prop} (hQ : ∀ s1, s1.M = s.M → K s1 → ∀ fs1, WF fs1 s1 → CR P ops (fixA c R W G (annOf tbl an)) l2 fs1 Q) : CR P ops (fixA c R W G (annOf tbl an)) (c :: l2) fs Q := by
  obtain ⟨o, ho, ai, hai, ⟨h1, h2⟩, h⟩ := h
  have hann := annOf_some (tbl := tbl) hai
  refine ⟨o, ho, ?_⟩
  rw [fixA_self, hann]
  rw [hann] at hl hnm
  rw [if_pos (show ((ai.ann tbl).more R W G).loud = true from hl)]
  show loudA P ops o ((ai.ann tbl).more R W G) (keepF fs.e (ai.ann tbl).rd) (resF fs.f ((ai.ann tbl).ro ++ R)) _
  rw [keepE_eq (rd := (ai.ann tbl).rd) hw.e h1, resF_eq hw.f h2]
  have next : ∀ out, (((∀ i x, lk i out.u = some x → i ∈ (ai.ann tbl).wo ++ W) ∧ (∀ i x, lk i out.nw = some x → i ∈ (ai.ann tbl).nm ++ G)) ∧ ∃ s', MSub s' (s.out o.dst out s.M) ∧ okDel s.B s.f0 out.u ∧ K s') → CR P ops (fixA c R W G (annOf tbl an)) l2 (fs.upd o.dst out) Q := by
    rintro out ⟨a1, s', hs', a2, a3⟩
    refine hQ s' hs'.2.2.1 a3 _ (WF.sub (WF_upd hw a2 fun i hi => ?_) hs')
    cases hl' : lk i out.nw with
    | none => rfl
    | some x =>
      have := hnm i (a1.2 i x hl')
      omega
  rcases h with ⟨k1, k2⟩ | ⟨k1, fn, args, lst, Ω, m1, m2, m3, m4⟩
  · exact .inl ⟨k1, k2.1, next _ k2⟩
  · exact .inr ⟨k1, fn, args, lst, Ω, m1, m2, m3, fun out hout => ⟨(m4 out hout).1, (m4 out hout).2.1, next _ (m4 out hout).2⟩⟩
theorem kG2_fn {tbl : List Nat} {R W G : List Nat} {s : MS} {K : MS → Prop} {o : Oper} {ai : AnI} {x : Operand} {as : Array Operand} {ts : Array TypeId} {fn : FuncId} {first cap ps : List PV} {T : List (Nat × AObj)} {Ω : List Nat → COut → Prop}
    (hc : CallF P fn (first ++ ps ++ cap) T G.length Ω) (henter : ∀ args w, (callFunc fn args).run P w = .ok (.enter fn args) w) (hop : o.op = .call { callee := .value x, args := as, argTypes := ts }) (hg : o.guard = none) (hai : ai.ro = [] ∧ ai.wo = [] ∧ ai.nm = [])
    (hrd : rdOk s.env ai.rd) (hx : ev (keepE s.env ai.rd) x = some (.fn (.func fn) first cap)) (ha : evs (keepE s.env ai.rd) as.toList = some ps)
    (hT : ∀ i ob, lk i T = some ob → s.f i = some ob ∧ i ∈ R) (hR : ∀ i ∈ R, (s.f i).isSome = true)
    (hk : ∀ out, Ω G out → out.pan = none ∧ (∀ i x, lk i out.u = some x → i ∈ W) ∧ (∀ i x, lk i out.nw = some x → i ∈ G) ∧ okDel s.B s.f0 out.u ∧ ∃ s', MSub s' (s.out o.dst ⟨packA out.rs, out.u, out.nw⟩ s.M) ∧ K s') : kG2 P ops tbl R W G s K o ai := by
  obtain ⟨h1, h2, h3⟩ := hai
  have e1 : (ai.ann tbl).ro = [] := by simp [AnI.ann, h1]
  have e2 : (ai.ann tbl).wo = [] := by simp [AnI.ann, h2]
  have e3 : (ai.ann tbl).nm = [] := by simp [AnI.ann, h3]
  have roR : ∀ l : List Nat, (∀ i ∈ l, (s.f i).isSome = true) → roOk s l := by
    intro l
    induction l with
    | nil => intro _; trivial
    | cons i l ih => intro h; exact ⟨h i (by simp), ih fun j hj => h j (by simp [hj])⟩
  refine ⟨⟨hrd, by rw [e1]; exact roR _ hR⟩, ?_⟩
  rw [loudA_eq, hg]
  refine .inl ⟨rfl, ?_⟩
  refine loud_fn hc henter hop hx ha (fun i ob h => ?_) (by simp [Ann.more, e3]) fun out hout => ?_
  · obtain ⟨a, b⟩ := hT i ob h
    simp only [resF]
    rw [if_pos (by rw [e1]; exact b)]; exact a
  · have hout' : Ω G out := by simpa [Ann.more, e3] using hout
    obtain ⟨k1, k2, k3, k4, s', k5, k6⟩ := hk out hout'
    exact ⟨k1, ⟨fun i x h => by rw [e2]; exact k2 i x h, fun i x h => by rw [e3]; exact k3 i x h⟩, s', k5, k4, k6⟩
theorem runD_M {tbl : List Nat} {an : Array AnI} {K : MS → Prop} : ∀ (l : List Nat) (s : MS), runD P ops tbl an l s K → runD P ops tbl an l s (fun s' => s'.M = s.M ∧ K s')
  | [], s, h => ⟨rfl, h⟩
  | j :: l, s, h => by
    obtain ⟨o, ho, ai, hai, h0, h⟩ := h
    refine ⟨o, ho, ai, hai, h0, ?_⟩
    split
    · rename_i hl
      rw [if_pos hl] at h
      rcases h with ⟨k1, k2, k3, k4⟩ | ⟨k1, fn, args, lst, Ω, m1, m2, m3, m4⟩
      · exact .inl ⟨k1, k2, k3, runD_M l _ k4⟩
      · exact .inr ⟨k1, fn, args, lst, Ω, m1, m2, m3, fun out hout => ⟨(m4 out hout).1, (m4 out hout).2.1, (m4 out hout).2.2.1, runD_M l _ (m4 out hout).2.2.2⟩⟩
    · rename_i hl
      rw [if_neg hl] at h
      obtain ⟨out, k1, k2, k3, k4⟩ := h
      exact ⟨out, k1, k2, k3, runD_M l _ k4⟩
theorem runD_CR' {tbl : List Nat} {an : Array AnI} {ann : Nat → Ann} {l : List Nat} (he : ∀ j ∈ l, ann j = annOf tbl an j) {s : MS} {fs : FS} {K : MS → Prop} (hnm : ∀ j ∈ l, ∀ n ∈ (annOf tbl an j).nm, n < s.M) (h : runD P ops tbl an l s K) (hw : WF fs s) : CR P ops ann l fs (fun fs' => ∃ s', WF fs' s' ∧ s'.M = s.M ∧ K s') :=
  CR_ann he (runD_CR l s fs hnm (runD_M l s h) hw)
theorem wpM_drawnG (hm : P.follows .mixedOrders = true) (k p c : Nat) (R W G : List Nat) (tbl : List Nat) (an : Array AnI) (l1 l2 : List Nat) (pre : List (List Nat)) {id : Nat} {s : MS} {Q : ExitA → MS → Prop} (m : Nat) (hlen : tbl.length = m) (htbl : tbl.Nodup)
    (hc : (checkD N m ops an.toList (l1 ++ c :: l2) pre && an.toList.all (fun a => a.nm.all (fun x => decide (p ≤ x) && decide (x < m)))) = true) (hcl : (an.getD c default).loud = true) (hnm : ∀ n ∈ tbl.drop p, s.M ≤ n ∧ n < s.M + k)
    (hG : G.Nodup) (hGn : ∀ n ∈ G, s.M ≤ n ∧ n < s.M + k) (hfar : ∀ i, i ∈ R ∨ i ∈ W ∨ i ∈ G → i ∉ tbl)
    (h' : ∀ (O : Array Oper) (A : Array AnI) (K : MS → Prop), O = ops → A = an → (∀ s, Q .normal s → K s) → runD P O tbl A l1 { s with M := s.M + k } fun s1 => stepG P O tbl A c R W G s1 (contG P O tbl A l2 K)) : wpM P r N (.region id ops true) s Q := by
  have h := h' ops an _ rfl rfl (fun s h => h)
  subst hlen
  simp only [Bool.and_eq_true] at hc
  obtain ⟨hs, hd⟩ := checkD_spec htbl hc.1
  have hann : (fun j => (an.toList.getD j default).ann tbl) = annOf tbl an := by
    funext j
    simp [annOf, List.getD, Array.getD_eq_getD_getElem?]
  rw [hann] at hs
  have hin : ∀ j, j ∈ l1 ++ c :: l2 → inB tbl.length (an.getD j default) = true := by
    intro j hj
    have h7 := hc.1
    simp only [checkD, Bool.and_eq_true] at h7
    have := List.all_eq_true.1 h7.2 j hj
    simpa [List.getD, Array.getD_eq_getD_getElem?] using this
  have hsub : ∀ j ∈ l1 ++ c :: l2, ∀ i, i ∈ (annOf tbl an j).ro ∨ i ∈ (annOf tbl an j).wo ∨ i ∈ (annOf tbl an j).nm → i ∈ tbl := by
    intro j hj i hi
    have hb := hin j hj
    simp only [inB, Bool.and_eq_true, List.all_eq_true, decide_eq_true_eq] at hb
    have key : ∀ l : List Nat, (∀ x ∈ l, x < tbl.length) → i ∈ l.map (tid tbl) → i ∈ tbl := by
      intro l hl hi
      obtain ⟨x, hx, rfl⟩ := List.mem_map.1 hi
      have := hl x hx
      simp only [tid, List.getD, List.getElem?_eq_getElem this, Option.getD_some]
      exact List.getElem_mem this
    simp only [annOf, AnI.ann] at hi
    rcases hi with hi | hi | hi
    · exact key _ hb.1.1 hi
    · exact key _ hb.1.2 hi
    · exact key _ hb.2 hi
  have hfix : Sched ops (fixA c R W G (annOf tbl an)) (l1 ++ c :: l2) (fun j => pre.getD j []) := by
    refine sched_fix hs hcl hG fun j hj i hi => ?_
    have := hfar i hi
    exact ⟨fun hx => this (hsub j hj i (.inl hx)), fun hx => this (hsub j hj i (.inr (.inl hx))), fun hx => this (hsub j hj i (.inr (.inr hx)))⟩
  have hnm' := tblOk_spec hnm hc.2
  have hnd := hs.nodup
  have hc1 : c ∉ l1 := fun hx => (List.nodup_append.1 hnd).2.2 c hx c (by simp) rfl
  have hc2 : c ∉ l2 := (List.nodup_cons.1 (List.nodup_append.1 hnd).2.1).1
  have hnmf : ∀ j ∈ l1 ++ c :: l2, ∀ n ∈ (fixA c R W G (annOf tbl an) j).nm, s.M ≤ n ∧ n < s.M + k := by
    intro j hj n hn
    by_cases hjc : j = c
    · subst hjc
      rw [fixA_self] at hn
      rcases List.mem_append.1 hn with hn | hn
      · exact hnm' j n hn
      · exact hGn n hn
    · rw [fixA_ne hjc] at hn; exact hnm' j n hn
  refine wpA_drawn hm hfix hd ⟨s.M, fun i hi => hi⟩ (fun j hj n hn => (hnmf j hj n hn).1) ?_
  have hw : WF s.st.fs { s with M := s.M + k } := ⟨fun t p e => e, fun i o e => e, fun i hi => Nat.le_trans (Nat.le_add_right _ _) hi, rfl⟩
  refine CR_append ?_
  have r1 := runD_CR' (P := P) (ops := ops) (ann := fixA c R W G (annOf tbl an)) (l := l1) (fun j hj => fixA_ne (fun e => hc1 (e ▸ hj))) (fun j hj n hn => (hnm' j n hn).2) h hw
  refine wpM_drawn.CR_mono r1 ?_
  rintro fs1 ⟨s1, w1, hM1, hk1⟩
  have hM1' : s1.M = s.M + k := hM1
  have r2 : ∀ (s2 : MS), s2.M = s1.M → runD P ops tbl an l2 s2 (fun s => Q .normal s) → ∀ fs2, WF fs2 s2 → CR P ops (fixA c R W G (annOf tbl an)) l2 fs2 (fun fs => ∀ st', st'.fs = fs → Wk st' (Q .normal)) := by
    intro s2 hM2 hr fs2 hw2
    have r3 := runD_CR' (P := P) (ops := ops) (ann := fixA c R W G (annOf tbl an)) (l := l2) (fun j hj => fixA_ne (fun e => hc2 (e ▸ hj))) (fun j hj n hn => by rw [hM2, hM1']; exact (hnm' j n hn).2) hr hw2
    refine wpM_drawn.CR_mono r3 ?_
    rintro fs ⟨s', w', _, hk⟩ st' rfl
    exact ⟨s', ⟨fun t p e => .inr (w'.e t p e), w'.f, w'.fr, w'.df⟩, hk⟩
  exact stepG_CR hcl (fun n hn => by
    rw [hM1']
    have := hnmf c (by simp) n (by rw [fixA_self]; exact hn)
    exact this.2) hk1 w1 (fun s2 hM2 hk fs2 hw2 => r2 s2 hM2 hk fs2 hw2)
variable {ops : List Oper}
theorem drG_ (hm : P.follows .mixedOrders = true) (ks : List Nat) (k p c : Nat) (R W G : List Nat) (tbl : List Nat) (an : List AnI) (l1 l2 : List Nat) (pre : List (List Nat)) {id : Nat} {s : MS} {Q : ExitA → MS → Prop} (m : Nat)
    (htbl : tbl.Nodup) (hnm : ∀ n ∈ tbl.drop p, s.M ≤ n ∧ n < s.M + k) (hG : G.Nodup) (hGn : ∀ n ∈ G, s.M ≤ n ∧ n < s.M + k) (hfar : ∀ i, i ∈ R ∨ i ∈ W ∨ i ∈ G → i ∉ tbl)
    (h' : ∀ (O : Array Oper) (A : Array AnI) (K : MS → Prop), AtL O 0 ops → AtL A 0 an → (∀ s, keepQ ks Q .normal s → K s) → runD P O tbl A l1 { s with M := s.M + k } fun s1 => stepG P O tbl A c R W G s1 (contG P O tbl A l2 K))
    (hc : (checkD N m ops.toArray an (l1 ++ c :: l2) pre && an.all (fun a => a.nm.all (fun x => decide (p ≤ x) && decide (x < m)))) = true := by decide +kernel) (hcl : (an.getD c default).loud = true := by exact rfl) (hlen : tbl.length = m := by exact rfl) :
    wpM P r N (.region id ops.toArray true) s Q :=
  wpM_keep ks (wpM_drawnG hm k p c R W G tbl an.toArray l1 l2 pre m hlen htbl (by simpa using hc) (by simpa using hcl) hnm hG hGn hfar fun O A K hO hA hK => h' O A K (hO ▸ atL_self ops) (hA ▸ atL_self an) hK)
@[go_sem] theorem stepG_eq {O : Array Oper} {tbl : List Nat} {A : Array AnI} {c : Nat} {R W G : List Nat} {s : MS} {K : MS → Prop} : stepG P O tbl A c R W G s K = bindD O[c]? (kG P O tbl A c R W G s K) := rfl
@[go_sem] theorem kG_app {O : Array Oper} {tbl : List Nat} {A : Array AnI} {c : Nat} {R W G : List Nat} {s : MS} {K : MS → Prop} {o : Oper} : kG P O tbl A c R W G s K o = bindI A[c]? (kG2 P O tbl R W G s K o) := rfl
end
end Sg
